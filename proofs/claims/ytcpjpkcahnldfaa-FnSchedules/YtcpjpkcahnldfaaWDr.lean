/- Texts for the law FnSchedules: WDr. No conditions. -/
import Derived.Test.YtcpjpkcahnldfaaWClD
import Derived.Test.YtcpjpkcahnldfaaWCurP

set_option maxRecDepth 100000
namespace Go.Proofs.Ytcpjpkcahnldfaa
open Go.Sx
theorem drawRR (d : DCode) : MeetsC Try.prog HT 5 d.pins [] [.one (.val d.v)] (fun _ : GCluster × Int => True) (fun r => [.agg r.1.c, .one (vi r.2)]) := by
  refine enterC tbl_ok false Try.func5 rfl (by decide) fun B hH hp => ?_
  conv => whnf
  refine callN (curNew d) hp rfl (fun h0 _ => go tbl_ok false ?_)
  conv => whnf
  refine callP (cur25 d 0 h0 ⟨Int.le_refl _, Int.natCast_nonneg _⟩) hH hp rfl (by repeat' (first | exact trivial | exact outC_val _ _ | exact rfl | exact .inr ⟨rfl, rfl, _, _, rfl⟩ | refine ⟨?_, ?_⟩)) rfl rfl (fun r hr => go tbl_ok false ?_)
  conv => whnf
  refine castC 7 (sInt [0, 1, 2, 40, 41, -1]) rfl (cast_rows rfl (by repeat' (first | exact trivial | exact rfl | refine ⟨?_, ?_⟩))) ?_
  refine callP (curPickInt d r.1 r.2.1 [0, 1, 2, 40, 41, -1] hr (by decide)) hH hp rfl (by repeat' (first | exact trivial | exact outC_val _ _ | exact rfl | exact .inr ⟨rfl, rfl, _, _, rfl⟩ | refine ⟨?_, ?_⟩)) rfl rfl (fun r4 hr4 => go tbl_ok false ?_)
  conv => whnf
  exact retC tbl_ok (r.2.2, [0, 1, 2, 40, 41, -1].getD r4.2.2 0) trivial rfl rfl (by repeat' (first | exact trivial | exact outC_val _ _ | exact rfl | exact .inr ⟨rfl, rfl, _, _, rfl⟩ | refine ⟨?_, ?_⟩))

theorem drawWW (d : DCode) : MeetsC Try.prog HT 12 d.pins [] [.one (.val d.v)] (fun r : List GPick × Int => r.1.length ≤ 12) (fun r => [.one (sGPick r.1), .one (vi r.2)]) := by
  refine enterC tbl_ok false Try.func12 rfl (by decide) fun B hH hp => ?_
  conv => whnf
  refine callN (curNew d) hp rfl (fun h0 _ => go tbl_ok false ?_)
  conv => whnf
  refine callP (curPicks d 0 h0 12 (by decide) ⟨Int.le_refl _, Int.natCast_nonneg _⟩) hH hp rfl (by repeat' (first | exact trivial | exact outC_val _ _ | exact rfl | exact .inr ⟨rfl, rfl, _, _, rfl⟩ | refine ⟨?_, ?_⟩)) rfl rfl (fun r hr => go tbl_ok false ?_)
  conv => whnf
  refine callP (curBelow d r.1 r.2.1 5 hr.1 (by decide)) hH hp rfl (by repeat' (first | exact trivial | exact outC_val _ _ | exact rfl | exact .inr ⟨rfl, rfl, _, _, rfl⟩ | refine ⟨?_, ?_⟩)) rfl rfl (fun r2 hr2 => go tbl_ok false ?_)
  conv => whnf
  (repeat (refine ⟨by first | omega | (simp only [ByteArray.size_append, bsz, List.size_toArray, List.length_cons, List.length_nil]; omega) | (show _ ∧ _; omega) | (simp only [Int.toNat_natCast]; first | omega | (show _ ∧ _; omega)) | decide, ?_⟩; conv => whnf))
  exact retC tbl_ok (r.2.2, r2.2.2 - 1) hr.2 rfl rfl (by repeat' (first | exact trivial | exact outC_val _ _ | exact rfl | exact .inr ⟨rfl, rfl, _, _, rfl⟩ | refine ⟨?_, ?_⟩))

/-- Where a loop over drawn numbers stands. -/
structure JNs where
  k : Nat
  i : Int
  h : Int
  xs : List Int

theorem drawPF (d : DCode) : MeetsC Try.prog HT 11 d.pins [] [.one (.val d.v)] (fun r : GCluster × List Int => r.2.length ≤ 8) (fun r => [.agg r.1.c, .one (sInt r.2)]) := by
  refine enterC tbl_ok false Try.func11 rfl (by decide) fun B hH hp => ?_
  conv => whnf
  refine callN (curNew d) hp rfl (fun h0 _ => go tbl_ok false ?_)
  conv => whnf
  refine castW 2 (sInt []) rfl (cast_rows rfl (by repeat' (first | exact trivial | exact rfl | refine ⟨?_, ?_⟩))) ?_
  refine loopW tbl_ok false [9] (fun j : JNs => [(6, .c (vi j.k))]) (fun j => [⟨1, [.c (.val d.v), .c (vi j.i), .c (vi j.h)]⟩, ⟨0, [.c (.val (.slice none 0 0)), .c (vi 0), .c (vi 0), .c (.val (.slice none 0 0)), .c (.val (.slice none 0 0)), .c (.val (.slice none 0 0)), .c (.val (.slice none 0 0))]⟩]) (fun j => [⟨2, sInt j.xs⟩]) (fun j => (0 ≤ j.i ∧ j.i ≤ d.n) ∧ j.k ≤ 8 ∧ j.xs.length = j.k) (fun j => 8 - j.k) (⟨0, 0, h0, []⟩) (⟨⟨Int.le_refl _, Int.natCast_nonneg _⟩, Nat.zero_le _, rfl⟩) ⟨by first | rfl | simp [nth, ren2, ren1, ren0], trivial⟩ (by repeat' (first | exact trivial | exact rfl | refine ⟨?_, ?_⟩)) ⟨by first | rfl | exact (congrArg (fun l => slC _ _ l) (List.append_nil _)).symm | (show (_ : Cell) = _; simp) | simp, trivial⟩ (by first | exact trivial | exact ⟨rfl, trivial⟩) (by kernel_rfl) (fun j hj => ?_)
  conv => whnf
  obtain ⟨hi, hk, hx⟩ := hj
  refine callP (curBelow d j.i j.h 8 hi (by decide)) hH hp rfl (by repeat' (first | exact trivial | exact outC_val _ _ | exact rfl | exact .inr ⟨rfl, rfl, _, _, rfl⟩ | refine ⟨?_, ?_⟩)) rfl rfl (fun r hr => go tbl_ok false ?_)
  conv => whnf
  refine ⟨fun hlt => have hlt := of_decide_eq_true hlt; ?_, fun hlt => have hlt := of_decide_eq_false hlt; ?_⟩ <;> conv => whnf
  · have hlt2 : r.2.2 < 8 := hr.2.2.2 (by omega)
    refine callP (curBelow d r.1 r.2.1 1000 hr.1 (by decide)) hH hp rfl (by repeat' (first | exact trivial | exact outC_val _ _ | exact rfl | exact .inr ⟨rfl, rfl, _, _, rfl⟩ | refine ⟨?_, ?_⟩)) rfl rfl (fun r2 hr2 => go tbl_ok false ?_)
    conv => whnf
    refine castC 3 (sInt [0, 1, 7, 100, -1, -9223372036854775808, 9223372036854775807, r2.2.2]) rfl (cast_rows rfl (by repeat' (first | exact trivial | exact rfl | refine ⟨?_, ?_⟩))) ?_
    refine callP (curPickInt d r2.1 r2.2.1 [0, 1, 7, 100, -1, -9223372036854775808, 9223372036854775807, r2.2.2] hr2.1 (by simp)) hH hp rfl (by repeat' (first | exact trivial | exact outC_val _ _ | exact rfl | exact .inr ⟨rfl, rfl, _, _, rfl⟩ | refine ⟨?_, ?_⟩)) rfl rfl (fun r3 hr3 => go tbl_ok false ?_)
    conv => whnf
    refine appW tbl_ok rfl rfl rfl rfl rfl rfl rfl rfl rfl rfl rfl (sInt (j.xs ++ [[0, 1, 7, 100, -1, -9223372036854775808, 9223372036854775807, r2.2.2].getD r3.2.2 0])) (slC_snoc rfl) (by intro h; cases h) (by omega) (go tbl_ok false ?_)
    conv => whnf
    (repeat (refine ⟨by first | omega | (simp only [ByteArray.size_append, bsz, List.size_toArray, List.length_cons, List.length_nil]; omega) | (show _ ∧ _; omega) | (simp only [Int.toNat_natCast]; first | omega | (show _ ∧ _; omega)) | decide, ?_⟩; conv => whnf))
    refine loopE [(2, 5)] (⟨j.k + 1, r3.1, r3.2.1, j.xs ++ [[0, 1, 7, 100, -1, -9223372036854775808, 9223372036854775807, r2.2.2].getD r3.2.2 0]⟩) (⟨hr3.1, by show j.k + 1 ≤ 8; omega, by simp [hx]⟩) (by show 8 - (j.k + 1) < _; omega) ⟨rfl, trivial⟩ ⟨rfl, trivial⟩ (by repeat' (first | exact trivial | exact rfl | refine ⟨?_, ?_⟩)) (by kernel_rfl) (by first | exact trivial | exact ⟨rfl, trivial⟩) (by kernel_rfl)
  · refine callP (cur25 d r.1 r.2.1 hr.1) hH hp rfl (by repeat' (first | exact trivial | exact outC_val _ _ | exact rfl | exact .inr ⟨rfl, rfl, _, _, rfl⟩ | refine ⟨?_, ?_⟩)) rfl rfl (fun r2 hr2 => go tbl_ok false ?_)
    conv => whnf
    exact retC tbl_ok (r2.2.2, j.xs) (by show j.xs.length ≤ 8; omega) rfl rfl (by repeat' (first | exact trivial | exact outC_val _ _ | exact rfl | exact .inr ⟨rfl, rfl, _, _, rfl⟩ | refine ⟨?_, ?_⟩))

end Go.Proofs.Ytcpjpkcahnldfaa
