/- Texts for the law FnLinesBack: WDr29. No conditions. -/
import Derived.Test.YtcpjpkcahnldfaaGreatDoorWDrN2
import Derived.Test.YtcpjpkcahnldfaaGreatDoorWLines
import Derived.Test.YtcpjpkcahnldfaaGreatDoorWInp
import Derived.Test.YtcpjpkcahnldfaaGreatDoorWPick

set_option maxRecDepth 100000
namespace Go.Proofs.YtcpjpkcahnldfaaGreatDoor
open Go.Sx
theorem drawNL (d : DCode) : MeetsC Tryz.prog HT 11 d.pins [] [.one (.val d.v)] (fun x : GNode => NodeD 3 x) (fun x => [.agg x.c]) := by
  refine enterC tbl_ok false Tryz.func11 rfl (by decide) fun B hH hp => ?_
  conv => whnf
  refine callN (curNew d) hp rfl (fun h0 _ => go tbl_ok false ?_)
  conv => whnf
  refine callP (curAnyNode d 0 h0 ⟨Int.le_refl _, Int.natCast_nonneg _⟩) hH hp rfl (by repeat' (first | exact trivial | exact outC_val _ _ | exact rfl | exact .inr ⟨rfl, rfl, _, _, rfl⟩ | refine ⟨?_, ?_⟩)) rfl rfl (fun r hr => go tbl_ok false ?_)
  conv => whnf
  exact retC tbl_ok r.2.2 hr.2 rfl rfl (by repeat' (first | exact trivial | exact outC_val _ _ | exact rfl | exact .inr ⟨rfl, rfl, _, _, rfl⟩ | refine ⟨?_, ?_⟩))
theorem drawIL (d : DCode) : MeetsC Tryz.prog HT 14 d.pins [] [.one (.val d.v)] (fun x : GRecord => x.ok) (fun x => [.agg x.c]) := by
  refine enterC tbl_ok false Tryz.func14 rfl (by decide) fun B hH hp => ?_
  conv => whnf
  refine callN (curNew d) hp rfl (fun h0 _ => go tbl_ok false ?_)
  conv => whnf
  refine callP (curInput d 0 h0 ⟨Int.le_refl _, Int.natCast_nonneg _⟩) hH hp rfl (by repeat' (first | exact trivial | exact outC_val _ _ | exact rfl | exact .inr ⟨rfl, rfl, _, _, rfl⟩ | refine ⟨?_, ?_⟩)) rfl rfl (fun r hr => go tbl_ok false ?_)
  conv => whnf
  exact retC tbl_ok r.2.2 hr.2 rfl rfl (by repeat' (first | exact trivial | exact outC_val _ _ | exact rfl | exact .inr ⟨rfl, rfl, _, _, rfl⟩ | refine ⟨?_, ?_⟩))
theorem drawPT (d : DCode) : MeetsC Tryz.prog HT 17 d.pins [] [.one (.val d.v)] (fun x : GPick => x.ok) (fun x => [.agg x.c]) := by
  refine enterC tbl_ok false Tryz.func17 rfl (by decide) fun B hH hp => ?_
  conv => whnf
  refine callN (curNew d) hp rfl (fun h0 _ => go tbl_ok false ?_)
  conv => whnf
  refine callP (curAnyPick d 0 h0 ⟨Int.le_refl _, Int.natCast_nonneg _⟩) hH hp rfl (by repeat' (first | exact trivial | exact outC_val _ _ | exact rfl | exact .inr ⟨rfl, rfl, _, _, rfl⟩ | refine ⟨?_, ?_⟩)) rfl rfl (fun r hr => go tbl_ok false ?_)
  conv => whnf
  exact retC tbl_ok r.2.2 hr.2 rfl rfl (by repeat' (first | exact trivial | exact outC_val _ _ | exact rfl | exact .inr ⟨rfl, rfl, _, _, rfl⟩ | refine ⟨?_, ?_⟩))
theorem nodeLine_small {x : GNode} (h : NodeD 3 x) : (nodeLine x).size ≤ 200 := by
  have h0 := nodeText0_size x h.1
  have h1 := outsT_size (kindName x.kind ++ (⟨#[32]⟩ : ByteArray) ++ dec x.a ++ (⟨#[32]⟩ : ByteArray) ++ dec x.b) x.outs h.1.2.2.2.2 x.outs.length (Nat.le_refl _)
  have h2 := h.2
  rw [List.take_length] at h1
  rw [nodeLine]
  split
  · rw [ByteArray.size_append, nodeText]
    show 5 + _ ≤ 200
    omega
  · exact Nat.zero_le _
theorem inputLine_small {x : GRecord} (h : x.ok) : (inputLine x).size ≤ 200 := by
  have h1 := dec_size h.2.1.1
  have h2 := dec_size h.2.2.1
  have h3 := dec_size h.2.2.2
  rw [inputLine]
  split
  · simp only [ByteArray.size_append, bsz, List.size_toArray, List.length_cons, List.length_nil]
    omega
  · exact Nat.zero_le _
theorem pickWord_small (k : Int) : (pickWord k).size ≤ 6 := strs_le _ _ 6 (by decide)
theorem pickText_small {x : GPick} (h : x.ok) : (pickText x).size ≤ 200 := by
  have h1 := dec_size h.2.1
  have h2 := dec_size h.2.2
  have h3 := pickWord_small x.kind
  rw [pickText]
  split
  · split
    · simp only [ByteArray.size_append, bsz, List.size_toArray, List.length_cons, List.length_nil]
      omega
    · simp only [ByteArray.size_append, bsz, List.size_toArray, List.length_cons, List.length_nil]
      omega
  · decide
theorem drawRN (d : DCode) : MeetsC Tryz.prog HT 20 d.pins [] [.one (.val d.v)] (fun x : ByteArray => x.size ≤ 1000) (fun x => [.one (vs x)]) := by
  refine enterC tbl_ok false Tryz.func20 rfl (by decide) fun B hH hp => ?_
  conv => whnf
  refine callN (curNew d) hp rfl (fun h0 _ => go tbl_ok false ?_)
  conv => whnf
  refine callP (curOnce d 0 h0 5 ⟨Int.le_refl _, Int.natCast_nonneg _⟩ (by decide)) hH hp rfl (by repeat' (first | exact trivial | exact outC_val _ _ | exact rfl | exact .inr ⟨rfl, rfl, _, _, rfl⟩ | refine ⟨?_, ?_⟩)) rfl rfl (fun r hr => go tbl_ok false ?_)
  conv => whnf
  refine ⟨fun c0 => ?_, fun c0 => ?_⟩ <;> conv => whnf
  · refine castC 1 (sStr ([(⟨#[]⟩ : ByteArray), (⟨#[110, 111, 100, 101]⟩ : ByteArray), (⟨#[110, 111, 100, 101, 32, 105, 110, 32, 48, 32, 48]⟩ : ByteArray), (⟨#[110, 111, 100, 101, 32, 97, 100, 100, 32, 48, 49, 32, 48]⟩ : ByteArray), (⟨#[110, 111, 100, 101, 32, 111, 117, 116, 32, 48, 32, 48, 32, 49]⟩ : ByteArray), (⟨#[110, 111, 100, 101, 32, 98, 97, 99, 107, 32, 48, 32, 48, 32, 49, 32, 49]⟩ : ByteArray), (⟨#[110, 111, 100, 101, 32, 119, 97, 108, 107, 32, 48, 32, 48]⟩ : ByteArray), (⟨#[110, 111, 100, 101, 32, 107, 101, 101, 112, 32, 51, 32, 50, 32, 53, 32, 54]⟩ : ByteArray), (⟨#[112, 117, 116, 32, 48, 32, 48, 32, 48]⟩ : ByteArray)] : List ByteArray)) rfl (cast_rows rfl (by repeat' (first | exact trivial | exact rfl | refine ⟨?_, ?_⟩))) ?_
    refine callP (curPickStr d r.1 r.2.1 ([(⟨#[]⟩ : ByteArray), (⟨#[110, 111, 100, 101]⟩ : ByteArray), (⟨#[110, 111, 100, 101, 32, 105, 110, 32, 48, 32, 48]⟩ : ByteArray), (⟨#[110, 111, 100, 101, 32, 97, 100, 100, 32, 48, 49, 32, 48]⟩ : ByteArray), (⟨#[110, 111, 100, 101, 32, 111, 117, 116, 32, 48, 32, 48, 32, 49]⟩ : ByteArray), (⟨#[110, 111, 100, 101, 32, 98, 97, 99, 107, 32, 48, 32, 48, 32, 49, 32, 49]⟩ : ByteArray), (⟨#[110, 111, 100, 101, 32, 119, 97, 108, 107, 32, 48, 32, 48]⟩ : ByteArray), (⟨#[110, 111, 100, 101, 32, 107, 101, 101, 112, 32, 51, 32, 50, 32, 53, 32, 54]⟩ : ByteArray), (⟨#[112, 117, 116, 32, 48, 32, 48, 32, 48]⟩ : ByteArray)] : List ByteArray) hr (by decide)) hH hp rfl (by repeat' (first | exact trivial | exact outC_val _ _ | exact rfl | exact .inr ⟨rfl, rfl, _, _, rfl⟩ | refine ⟨?_, ?_⟩)) rfl rfl (fun r3 hr3 => go tbl_ok false ?_)
    conv => whnf
    exact retC tbl_ok (([(⟨#[]⟩ : ByteArray), (⟨#[110, 111, 100, 101]⟩ : ByteArray), (⟨#[110, 111, 100, 101, 32, 105, 110, 32, 48, 32, 48]⟩ : ByteArray), (⟨#[110, 111, 100, 101, 32, 97, 100, 100, 32, 48, 49, 32, 48]⟩ : ByteArray), (⟨#[110, 111, 100, 101, 32, 111, 117, 116, 32, 48, 32, 48, 32, 49]⟩ : ByteArray), (⟨#[110, 111, 100, 101, 32, 98, 97, 99, 107, 32, 48, 32, 48, 32, 49, 32, 49]⟩ : ByteArray), (⟨#[110, 111, 100, 101, 32, 119, 97, 108, 107, 32, 48, 32, 48]⟩ : ByteArray), (⟨#[110, 111, 100, 101, 32, 107, 101, 101, 112, 32, 51, 32, 50, 32, 53, 32, 54]⟩ : ByteArray), (⟨#[112, 117, 116, 32, 48, 32, 48, 32, 48]⟩ : ByteArray)] : List ByteArray).getD r3.2.2 default) (strs_le ([(⟨#[]⟩ : ByteArray), (⟨#[110, 111, 100, 101]⟩ : ByteArray), (⟨#[110, 111, 100, 101, 32, 105, 110, 32, 48, 32, 48]⟩ : ByteArray), (⟨#[110, 111, 100, 101, 32, 97, 100, 100, 32, 48, 49, 32, 48]⟩ : ByteArray), (⟨#[110, 111, 100, 101, 32, 111, 117, 116, 32, 48, 32, 48, 32, 49]⟩ : ByteArray), (⟨#[110, 111, 100, 101, 32, 98, 97, 99, 107, 32, 48, 32, 48, 32, 49, 32, 49]⟩ : ByteArray), (⟨#[110, 111, 100, 101, 32, 119, 97, 108, 107, 32, 48, 32, 48]⟩ : ByteArray), (⟨#[110, 111, 100, 101, 32, 107, 101, 101, 112, 32, 51, 32, 50, 32, 53, 32, 54]⟩ : ByteArray), (⟨#[112, 117, 116, 32, 48, 32, 48, 32, 48]⟩ : ByteArray)] : List ByteArray) r3.2.2 1000 (by decide)) rfl rfl (by repeat' (first | exact trivial | exact outC_val _ _ | exact rfl | exact .inr ⟨rfl, rfl, _, _, rfl⟩ | refine ⟨?_, ?_⟩))
  · refine callP (curAnyNode d r.1 r.2.1 hr) hH hp rfl (by repeat' (first | exact trivial | exact outC_val _ _ | exact rfl | exact .inr ⟨rfl, rfl, _, _, rfl⟩ | refine ⟨?_, ?_⟩)) rfl rfl (fun s hs => go tbl_ok false ?_)
    conv => whnf
    refine callR (specNodeLine s.2.2 hs.2.1 (Nat.le_trans hs.2.2 (by decide))) rfl (go tbl_ok false ?_)
    conv => whnf
    have hl := nodeLine_small hs.2
    refine callP (curBent d s.1 s.2.1 _ hs.1 (by omega)) hH hp rfl (by repeat' (first | exact trivial | exact outC_val _ _ | exact rfl | exact .inr ⟨rfl, rfl, _, _, rfl⟩ | refine ⟨?_, ?_⟩)) rfl rfl (fun r3 hr3 => go tbl_ok false ?_)
    conv => whnf
    exact retC tbl_ok r3.2.2 (by have := hr3.2; omega) rfl rfl (by repeat' (first | exact trivial | exact outC_val _ _ | exact rfl | exact .inr ⟨rfl, rfl, _, _, rfl⟩ | refine ⟨?_, ?_⟩))
theorem drawRI (d : DCode) : MeetsC Tryz.prog HT 22 d.pins [] [.one (.val d.v)] (fun x : ByteArray => x.size ≤ 1000) (fun x => [.one (vs x)]) := by
  refine enterC tbl_ok false Tryz.func22 rfl (by decide) fun B hH hp => ?_
  conv => whnf
  refine callN (curNew d) hp rfl (fun h0 _ => go tbl_ok false ?_)
  conv => whnf
  refine callP (curOnce d 0 h0 5 ⟨Int.le_refl _, Int.natCast_nonneg _⟩ (by decide)) hH hp rfl (by repeat' (first | exact trivial | exact outC_val _ _ | exact rfl | exact .inr ⟨rfl, rfl, _, _, rfl⟩ | refine ⟨?_, ?_⟩)) rfl rfl (fun r hr => go tbl_ok false ?_)
  conv => whnf
  refine ⟨fun c0 => ?_, fun c0 => ?_⟩ <;> conv => whnf
  · refine castC 1 (sStr ([(⟨#[]⟩ : ByteArray), (⟨#[112, 117, 116]⟩ : ByteArray), (⟨#[112, 117, 116, 32, 52, 32, 48, 32, 48]⟩ : ByteArray), (⟨#[112, 117, 116, 32, 48, 32, 49, 48, 48, 32, 48]⟩ : ByteArray), (⟨#[112, 117, 116, 32, 48, 32, 48, 32, 49, 48, 48, 48]⟩ : ByteArray), (⟨#[112, 117, 116, 32, 48, 48, 32, 49, 32, 49]⟩ : ByteArray), (⟨#[112, 117, 116, 32, 48, 32, 49, 32, 49]⟩ : ByteArray)] : List ByteArray)) rfl (cast_rows rfl (by repeat' (first | exact trivial | exact rfl | refine ⟨?_, ?_⟩))) ?_
    refine callP (curPickStr d r.1 r.2.1 ([(⟨#[]⟩ : ByteArray), (⟨#[112, 117, 116]⟩ : ByteArray), (⟨#[112, 117, 116, 32, 52, 32, 48, 32, 48]⟩ : ByteArray), (⟨#[112, 117, 116, 32, 48, 32, 49, 48, 48, 32, 48]⟩ : ByteArray), (⟨#[112, 117, 116, 32, 48, 32, 48, 32, 49, 48, 48, 48]⟩ : ByteArray), (⟨#[112, 117, 116, 32, 48, 48, 32, 49, 32, 49]⟩ : ByteArray), (⟨#[112, 117, 116, 32, 48, 32, 49, 32, 49]⟩ : ByteArray)] : List ByteArray) hr (by decide)) hH hp rfl (by repeat' (first | exact trivial | exact outC_val _ _ | exact rfl | exact .inr ⟨rfl, rfl, _, _, rfl⟩ | refine ⟨?_, ?_⟩)) rfl rfl (fun r3 hr3 => go tbl_ok false ?_)
    conv => whnf
    exact retC tbl_ok (([(⟨#[]⟩ : ByteArray), (⟨#[112, 117, 116]⟩ : ByteArray), (⟨#[112, 117, 116, 32, 52, 32, 48, 32, 48]⟩ : ByteArray), (⟨#[112, 117, 116, 32, 48, 32, 49, 48, 48, 32, 48]⟩ : ByteArray), (⟨#[112, 117, 116, 32, 48, 32, 48, 32, 49, 48, 48, 48]⟩ : ByteArray), (⟨#[112, 117, 116, 32, 48, 48, 32, 49, 32, 49]⟩ : ByteArray), (⟨#[112, 117, 116, 32, 48, 32, 49, 32, 49]⟩ : ByteArray)] : List ByteArray).getD r3.2.2 default) (strs_le ([(⟨#[]⟩ : ByteArray), (⟨#[112, 117, 116]⟩ : ByteArray), (⟨#[112, 117, 116, 32, 52, 32, 48, 32, 48]⟩ : ByteArray), (⟨#[112, 117, 116, 32, 48, 32, 49, 48, 48, 32, 48]⟩ : ByteArray), (⟨#[112, 117, 116, 32, 48, 32, 48, 32, 49, 48, 48, 48]⟩ : ByteArray), (⟨#[112, 117, 116, 32, 48, 48, 32, 49, 32, 49]⟩ : ByteArray), (⟨#[112, 117, 116, 32, 48, 32, 49, 32, 49]⟩ : ByteArray)] : List ByteArray) r3.2.2 1000 (by decide)) rfl rfl (by repeat' (first | exact trivial | exact outC_val _ _ | exact rfl | exact .inr ⟨rfl, rfl, _, _, rfl⟩ | refine ⟨?_, ?_⟩))
  · refine callP (curInput d r.1 r.2.1 hr) hH hp rfl (by repeat' (first | exact trivial | exact outC_val _ _ | exact rfl | exact .inr ⟨rfl, rfl, _, _, rfl⟩ | refine ⟨?_, ?_⟩)) rfl rfl (fun s hs => go tbl_ok false ?_)
    conv => whnf
    refine callR (specInputLine s.2.2 hs.2) rfl (go tbl_ok false ?_)
    conv => whnf
    have hl := inputLine_small hs.2
    refine callP (curBent d s.1 s.2.1 _ hs.1 (by omega)) hH hp rfl (by repeat' (first | exact trivial | exact outC_val _ _ | exact rfl | exact .inr ⟨rfl, rfl, _, _, rfl⟩ | refine ⟨?_, ?_⟩)) rfl rfl (fun r3 hr3 => go tbl_ok false ?_)
    conv => whnf
    exact retC tbl_ok r3.2.2 (by have := hr3.2; omega) rfl rfl (by repeat' (first | exact trivial | exact outC_val _ _ | exact rfl | exact .inr ⟨rfl, rfl, _, _, rfl⟩ | refine ⟨?_, ?_⟩))
theorem drawRP (d : DCode) : MeetsC Tryz.prog HT 24 d.pins [] [.one (.val d.v)] (fun x : ByteArray => x.size ≤ 1000) (fun x => [.one (vs x)]) := by
  refine enterC tbl_ok false Tryz.func24 rfl (by decide) fun B hH hp => ?_
  conv => whnf
  refine callN (curNew d) hp rfl (fun h0 _ => go tbl_ok false ?_)
  conv => whnf
  refine callP (curOnce d 0 h0 5 ⟨Int.le_refl _, Int.natCast_nonneg _⟩ (by decide)) hH hp rfl (by repeat' (first | exact trivial | exact outC_val _ _ | exact rfl | exact .inr ⟨rfl, rfl, _, _, rfl⟩ | refine ⟨?_, ?_⟩)) rfl rfl (fun r hr => go tbl_ok false ?_)
  conv => whnf
  refine ⟨fun c0 => ?_, fun c0 => ?_⟩ <;> conv => whnf
  · refine castC 1 (sStr ([(⟨#[]⟩ : ByteArray), (⟨#[119, 111, 114, 107]⟩ : ByteArray), (⟨#[119, 111, 114, 107, 32, 48, 49]⟩ : ByteArray), (⟨#[116, 97, 107, 101, 32, 49]⟩ : ByteArray), (⟨#[116, 97, 107, 101, 32, 49, 32, 50]⟩ : ByteArray), (⟨#[119, 111, 114, 107, 32, 49, 32, 50]⟩ : ByteArray), (⟨#[104, 101, 97, 114, 32, 49, 48, 48, 48, 48, 48, 48, 48, 48, 48]⟩ : ByteArray), (⟨#[116, 111, 107, 101, 110, 32, 45, 49]⟩ : ByteArray), (⟨#[119, 97, 108, 107, 32, 49]⟩ : ByteArray)] : List ByteArray)) rfl (cast_rows rfl (by repeat' (first | exact trivial | exact rfl | refine ⟨?_, ?_⟩))) ?_
    refine callP (curPickStr d r.1 r.2.1 ([(⟨#[]⟩ : ByteArray), (⟨#[119, 111, 114, 107]⟩ : ByteArray), (⟨#[119, 111, 114, 107, 32, 48, 49]⟩ : ByteArray), (⟨#[116, 97, 107, 101, 32, 49]⟩ : ByteArray), (⟨#[116, 97, 107, 101, 32, 49, 32, 50]⟩ : ByteArray), (⟨#[119, 111, 114, 107, 32, 49, 32, 50]⟩ : ByteArray), (⟨#[104, 101, 97, 114, 32, 49, 48, 48, 48, 48, 48, 48, 48, 48, 48]⟩ : ByteArray), (⟨#[116, 111, 107, 101, 110, 32, 45, 49]⟩ : ByteArray), (⟨#[119, 97, 108, 107, 32, 49]⟩ : ByteArray)] : List ByteArray) hr (by decide)) hH hp rfl (by repeat' (first | exact trivial | exact outC_val _ _ | exact rfl | exact .inr ⟨rfl, rfl, _, _, rfl⟩ | refine ⟨?_, ?_⟩)) rfl rfl (fun r3 hr3 => go tbl_ok false ?_)
    conv => whnf
    exact retC tbl_ok (([(⟨#[]⟩ : ByteArray), (⟨#[119, 111, 114, 107]⟩ : ByteArray), (⟨#[119, 111, 114, 107, 32, 48, 49]⟩ : ByteArray), (⟨#[116, 97, 107, 101, 32, 49]⟩ : ByteArray), (⟨#[116, 97, 107, 101, 32, 49, 32, 50]⟩ : ByteArray), (⟨#[119, 111, 114, 107, 32, 49, 32, 50]⟩ : ByteArray), (⟨#[104, 101, 97, 114, 32, 49, 48, 48, 48, 48, 48, 48, 48, 48, 48]⟩ : ByteArray), (⟨#[116, 111, 107, 101, 110, 32, 45, 49]⟩ : ByteArray), (⟨#[119, 97, 108, 107, 32, 49]⟩ : ByteArray)] : List ByteArray).getD r3.2.2 default) (strs_le ([(⟨#[]⟩ : ByteArray), (⟨#[119, 111, 114, 107]⟩ : ByteArray), (⟨#[119, 111, 114, 107, 32, 48, 49]⟩ : ByteArray), (⟨#[116, 97, 107, 101, 32, 49]⟩ : ByteArray), (⟨#[116, 97, 107, 101, 32, 49, 32, 50]⟩ : ByteArray), (⟨#[119, 111, 114, 107, 32, 49, 32, 50]⟩ : ByteArray), (⟨#[104, 101, 97, 114, 32, 49, 48, 48, 48, 48, 48, 48, 48, 48, 48]⟩ : ByteArray), (⟨#[116, 111, 107, 101, 110, 32, 45, 49]⟩ : ByteArray), (⟨#[119, 97, 108, 107, 32, 49]⟩ : ByteArray)] : List ByteArray) r3.2.2 1000 (by decide)) rfl rfl (by repeat' (first | exact trivial | exact outC_val _ _ | exact rfl | exact .inr ⟨rfl, rfl, _, _, rfl⟩ | refine ⟨?_, ?_⟩))
  · refine callP (curAnyPick d r.1 r.2.1 hr) hH hp rfl (by repeat' (first | exact trivial | exact outC_val _ _ | exact rfl | exact .inr ⟨rfl, rfl, _, _, rfl⟩ | refine ⟨?_, ?_⟩)) rfl rfl (fun s hs => go tbl_ok false ?_)
    conv => whnf
    refine callR (specPickText s.2.2 hs.2) rfl (go tbl_ok false ?_)
    conv => whnf
    have hl := pickText_small hs.2
    refine callP (curBent d s.1 s.2.1 _ hs.1 (by omega)) hH hp rfl (by repeat' (first | exact trivial | exact outC_val _ _ | exact rfl | exact .inr ⟨rfl, rfl, _, _, rfl⟩ | refine ⟨?_, ?_⟩)) rfl rfl (fun r3 hr3 => go tbl_ok false ?_)
    conv => whnf
    exact retC tbl_ok r3.2.2 (by have := hr3.2; omega) rfl rfl (by repeat' (first | exact trivial | exact outC_val _ _ | exact rfl | exact .inr ⟨rfl, rfl, _, _, rfl⟩ | refine ⟨?_, ?_⟩))

end Go.Proofs.YtcpjpkcahnldfaaGreatDoor
