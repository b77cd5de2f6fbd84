/- Texts for the law FnSchedules: WDr2. No conditions. -/
import Derived.Test.YtcpjpkcahnldfaaWDr
import Derived.Test.YtcpjpkcahnldfaaWRounds

set_option maxRecDepth 100000
namespace Go.Proofs.Ytcpjpkcahnldfaa
open Go.Sx
theorem getD_all {α : Type} {p : α → Prop} : ∀ (xs : List α) (k : Nat) (d : α), (∀ x ∈ xs, p x) → p d → p (xs.getD k d)
  | [], _, _, _, hd => hd
  | x :: _, 0, _, h, _ => h x (by simp)
  | _ :: r, k + 1, d, h, hd => by simpa using getD_all r k d (fun y hy => h y (List.mem_cons_of_mem _ hy)) hd

theorem windows_in (n : Nat) (hn : n ≤ 52) (k : Nat) : -1 ≤ [(n : Int), n, 2 * n - 1, n - 1, 1, 0, -1, 1000].getD k 0 ∧ [(n : Int), n, 2 * n - 1, n - 1, 1, 0, -1, 1000].getD k 0 ≤ 1000 :=
  getD_all (p := fun w => -1 ≤ w ∧ w ≤ 1000) _ k 0 (fun x hx => by simp only [List.mem_cons, List.not_mem_nil, or_false] at hx; omega) (by decide)

set_option maxHeartbeats 1600000 in
theorem drawIF (d : DCode) : MeetsC Try.prog HT 14 d.pins [] [.one (.val d.v)] (fun r : GCluster × List GPick × Int => r.2.1.length ≤ 2080 ∧ (-1 ≤ r.2.2 ∧ r.2.2 ≤ 1000)) (fun r => [.agg r.1.c, .one (sGPick r.2.1), .one (vi r.2.2)]) := by
  refine enterC tbl_ok false Try.func14 rfl (by decide) fun B hH hp => ?_
  conv => whnf
  refine callN (curNew d) hp rfl (fun h0 _ => go tbl_ok false ?_)
  conv => whnf
  refine callP (cur25 d 0 h0 ⟨Int.le_refl _, Int.natCast_nonneg _⟩) hH hp rfl (by repeat' (first | exact trivial | exact outC_val _ _ | exact rfl | exact .inr ⟨rfl, rfl, _, _, rfl⟩ | refine ⟨?_, ?_⟩)) rfl rfl (fun r hr => go tbl_ok false ?_)
  conv => whnf
  refine drawA rfl ?_
  refine preA tbl_ok false 1 rfl rfl rfl (by kernel_rfl) rfl (andL_mem (by repeat' (first | exact trivial | refine ⟨?_, ?_⟩ | (show _ ∧ _; omega) | omega))) ?_
  refine splitA [0, 2] (by kernel_rfl) ⟨?_, ?_, trivial⟩
  focus
    refine go tbl_ok false ?_
    conv => whnf
    refine loopA ?_
    refine splitA [2] (by kernel_rfl) ⟨?_, trivial⟩
    refine go tbl_ok false ?_
    conv => whnf
    refine callP (curBelow d r.1 r.2.1 3 hr (by decide)) hH hp rfl (by repeat' (first | exact trivial | exact outC_val _ _ | exact rfl | exact .inr ⟨rfl, rfl, _, _, rfl⟩ | refine ⟨?_, ?_⟩)) rfl rfl (fun r2 hr2 => go tbl_ok false ?_)
    conv => whnf
    refine loopA ?_
    refine preA tbl_ok false 3 rfl rfl rfl (by kernel_rfl) rfl (andL_mem (by repeat' (first | exact trivial | refine ⟨?_, ?_⟩ | (show _ ∧ _; omega) | omega))) ?_
    refine splitA [4] (by kernel_rfl) ⟨?_, trivial⟩
    refine go tbl_ok false ?_
    conv => whnf
    refine callW (specRoundRobin r.2.2 (1 + r2.2.2)) rfl (go tbl_ok false ?_)
    conv => whnf
    refine loopA ?_
    refine preA tbl_ok false 5 rfl rfl rfl (by kernel_rfl) rfl (andL_mem (by repeat' (first | exact trivial | refine ⟨?_, ?_⟩ | (show _ ∧ _; omega) | omega))) ?_
    refine doneA (by kernel_rfl) (go tbl_ok false ?_)
    conv => whnf
  rotate_left 1
  focus
    refine go tbl_ok false ?_
    conv => whnf
    refine callP (curBelow d r.1 r.2.1 3 hr (by decide)) hH hp rfl (by repeat' (first | exact trivial | exact outC_val _ _ | exact rfl | exact .inr ⟨rfl, rfl, _, _, rfl⟩ | refine ⟨?_, ?_⟩)) rfl rfl (fun r2 hr2 => go tbl_ok false ?_)
    conv => whnf
    refine loopA ?_
    refine preA tbl_ok false 3 rfl rfl rfl (by kernel_rfl) rfl (andL_mem (by repeat' (first | exact trivial | refine ⟨?_, ?_⟩ | (show _ ∧ _; omega) | omega))) ?_
    refine splitA [0] (by kernel_rfl) ⟨?_, trivial⟩
    refine go tbl_ok false ?_
    conv => whnf
    refine loopA ?_
    refine splitA [4] (by kernel_rfl) ⟨?_, trivial⟩
    refine go tbl_ok false ?_
    conv => whnf
    refine callW (specRoundRobin r.2.2 (1 + r2.2.2)) rfl (go tbl_ok false ?_)
    conv => whnf
    refine loopA ?_
    refine preA tbl_ok false 5 rfl rfl rfl (by kernel_rfl) rfl (andL_mem (by repeat' (first | exact trivial | refine ⟨?_, ?_⟩ | (show _ ∧ _; omega) | omega))) ?_
    refine doneA (by kernel_rfl) (go tbl_ok false ?_)
    conv => whnf
  · refine callR (specAllPicks r.2.2) rfl (go tbl_ok false ?_)
    conv => whnf
    have hN : (allP (brought r.2.2.graph.workers 0 4).toNat).length ≤ 52 := allP_len _ (pN_le r.2.2)
    generalize hNe : (allP (brought r.2.2.graph.workers 0 4).toNat).length = N at hN
    refine callP (curOnce d r2.1 r2.2.1 3 hr2.1 (by decide)) hH hp rfl (by repeat' (first | exact trivial | exact outC_val _ _ | exact rfl | exact .inr ⟨rfl, rfl, _, _, rfl⟩ | refine ⟨?_, ?_⟩)) rfl rfl (fun r3 hr3 => go tbl_ok false ?_)
    conv => whnf
    refine ⟨fun c0 => ?_, fun c0 => ?_⟩ <;> conv => whnf
    · refine callP (curPicks d r3.1 r3.2.1 20 (by decide) hr3) hH hp rfl (by repeat' (first | exact trivial | exact outC_val _ _ | exact rfl | exact .inr ⟨rfl, rfl, _, _, rfl⟩ | refine ⟨?_, ?_⟩)) rfl rfl (fun r4 hr4 => go tbl_ok false ?_)
      conv => whnf
      have hl : r4.2.2.length ≤ 2080 := Nat.le_trans hr4.2 (by decide)
      refine drawA rfl ?_
      refine preA tbl_ok false 1 rfl rfl rfl (by kernel_rfl) rfl (andL_mem (by repeat' (first | exact trivial | refine ⟨?_, ?_⟩ | (show _ ∧ _; omega) | omega))) ?_
      refine preA tbl_ok false 2 rfl rfl rfl (by kernel_rfl) rfl (andL_mem (by repeat' (first | exact trivial | refine ⟨?_, ?_⟩ | (show _ ∧ _; omega) | omega))) ?_
      refine preA tbl_ok false 3 rfl rfl rfl (by kernel_rfl) rfl (andL_mem (by repeat' (first | exact trivial | refine ⟨?_, ?_⟩ | (show _ ∧ _; omega) | omega))) ?_
      refine preA tbl_ok false 4 rfl rfl rfl (by kernel_rfl) rfl (andL_mem (by repeat' (first | exact trivial | refine ⟨?_, ?_⟩ | (show _ ∧ _; omega) | omega))) ?_
      refine preA tbl_ok false 5 rfl rfl rfl (by kernel_rfl) rfl (andL_mem (by repeat' (first | exact trivial | refine ⟨?_, ?_⟩ | (show _ ∧ _; omega) | omega))) ?_
      refine preA tbl_ok false 6 rfl rfl rfl (by kernel_rfl) rfl (andL_mem (by repeat' (first | exact trivial | refine ⟨?_, ?_⟩ | (show _ ∧ _; omega) | omega))) ?_
      refine preA tbl_ok false 7 rfl rfl rfl (by kernel_rfl) rfl (andL_mem (by repeat' (first | exact trivial | refine ⟨?_, ?_⟩ | (show _ ∧ _; omega) | omega))) ?_
      refine preA tbl_ok false 8 rfl rfl rfl (by kernel_rfl) rfl (andL_mem (by repeat' (first | exact trivial | refine ⟨?_, ?_⟩ | (show _ ∧ _; omega) | omega))) ?_
      refine preA tbl_ok false 9 rfl rfl rfl (by kernel_rfl) rfl (andL_mem (by repeat' (first | exact trivial | refine ⟨?_, ?_⟩ | (show _ ∧ _; omega) | omega))) ?_
      refine splitA [0, 10] (by kernel_rfl) ⟨?_, ?_, trivial⟩
      focus
        refine go tbl_ok false ?_
        conv => whnf
        refine loopA ?_
        refine splitA [10] (by kernel_rfl) ⟨?_, trivial⟩
        refine go tbl_ok false ?_
        conv => whnf
        (repeat (refine ⟨by first | omega | (simp only [ByteArray.size_append, bsz, List.size_toArray, List.length_cons, List.length_nil]; omega) | (show _ ∧ _; omega) | (simp only [Int.toNat_natCast]; first | omega | (show _ ∧ _; omega)) | decide, ?_⟩; conv => whnf))
        refine loopA ?_
        refine splitA [11] (by kernel_rfl) ⟨?_, trivial⟩
        refine go tbl_ok false ?_
        conv => whnf
        refine castC 10 (sInt [(N : Int), N, 2 * N - 1, N - 1, 1, 0, -1, 1000]) rfl (cast_rows rfl (by repeat' (first | exact trivial | exact rfl | refine ⟨?_, ?_⟩))) ?_
        refine callP (curPickInt d r4.1 r4.2.1 [(N : Int), N, 2 * N - 1, N - 1, 1, 0, -1, 1000] hr4.1 (by simp)) hH hp rfl (by repeat' (first | exact trivial | exact outC_val _ _ | exact rfl | exact .inr ⟨rfl, rfl, _, _, rfl⟩ | refine ⟨?_, ?_⟩)) rfl rfl (fun r5 hr5 => go tbl_ok false ?_)
        conv => whnf
        refine loopA ?_
        refine splitA [12] (by kernel_rfl) ⟨?_, trivial⟩
        refine go tbl_ok false ?_
        conv => whnf
        refine loopA ?_
        refine preA tbl_ok false 13 rfl rfl rfl (by kernel_rfl) rfl (andL_mem (by repeat' (first | exact trivial | refine ⟨?_, ?_⟩ | (show _ ∧ _; omega) | omega))) ?_
        refine preA tbl_ok false 14 rfl rfl rfl (by kernel_rfl) rfl (andL_mem (by repeat' (first | exact trivial | refine ⟨?_, ?_⟩ | (show _ ∧ _; omega) | omega))) ?_
        refine doneA (by kernel_rfl) (go tbl_ok false ?_)
        conv => whnf
      rotate_left 1
      focus
        refine go tbl_ok false ?_
        conv => whnf
        (repeat (refine ⟨by first | omega | (simp only [ByteArray.size_append, bsz, List.size_toArray, List.length_cons, List.length_nil]; omega) | (show _ ∧ _; omega) | (simp only [Int.toNat_natCast]; first | omega | (show _ ∧ _; omega)) | decide, ?_⟩; conv => whnf))
        refine loopA ?_
        refine splitA [0, 11] (by kernel_rfl) ⟨?_, ?_, trivial⟩
        focus
          refine go tbl_ok false ?_
          conv => whnf
          refine loopA ?_
          refine splitA [11] (by kernel_rfl) ⟨?_, trivial⟩
          refine go tbl_ok false ?_
          conv => whnf
          refine castC 10 (sInt [(N : Int), N, 2 * N - 1, N - 1, 1, 0, -1, 1000]) rfl (cast_rows rfl (by repeat' (first | exact trivial | exact rfl | refine ⟨?_, ?_⟩))) ?_
          refine callP (curPickInt d r4.1 r4.2.1 [(N : Int), N, 2 * N - 1, N - 1, 1, 0, -1, 1000] hr4.1 (by simp)) hH hp rfl (by repeat' (first | exact trivial | exact outC_val _ _ | exact rfl | exact .inr ⟨rfl, rfl, _, _, rfl⟩ | refine ⟨?_, ?_⟩)) rfl rfl (fun r5 hr5 => go tbl_ok false ?_)
          conv => whnf
          refine loopA ?_
          refine splitA [12] (by kernel_rfl) ⟨?_, trivial⟩
          refine go tbl_ok false ?_
          conv => whnf
          refine loopA ?_
          refine preA tbl_ok false 13 rfl rfl rfl (by kernel_rfl) rfl (andL_mem (by repeat' (first | exact trivial | refine ⟨?_, ?_⟩ | (show _ ∧ _; omega) | omega))) ?_
          refine preA tbl_ok false 14 rfl rfl rfl (by kernel_rfl) rfl (andL_mem (by repeat' (first | exact trivial | refine ⟨?_, ?_⟩ | (show _ ∧ _; omega) | omega))) ?_
          refine doneA (by kernel_rfl) (go tbl_ok false ?_)
          conv => whnf
        rotate_left 1
        focus
          refine go tbl_ok false ?_
          conv => whnf
          refine castC 10 (sInt [(N : Int), N, 2 * N - 1, N - 1, 1, 0, -1, 1000]) rfl (cast_rows rfl (by repeat' (first | exact trivial | exact rfl | refine ⟨?_, ?_⟩))) ?_
          refine callP (curPickInt d r4.1 r4.2.1 [(N : Int), N, 2 * N - 1, N - 1, 1, 0, -1, 1000] hr4.1 (by simp)) hH hp rfl (by repeat' (first | exact trivial | exact outC_val _ _ | exact rfl | exact .inr ⟨rfl, rfl, _, _, rfl⟩ | refine ⟨?_, ?_⟩)) rfl rfl (fun r5 hr5 => go tbl_ok false ?_)
          conv => whnf
          refine loopA ?_
          refine splitA [0] (by kernel_rfl) ⟨?_, trivial⟩
          refine go tbl_ok false ?_
          conv => whnf
          refine loopA ?_
          refine splitA [12] (by kernel_rfl) ⟨?_, trivial⟩
          refine go tbl_ok false ?_
          conv => whnf
          refine loopA ?_
          refine preA tbl_ok false 13 rfl rfl rfl (by kernel_rfl) rfl (andL_mem (by repeat' (first | exact trivial | refine ⟨?_, ?_⟩ | (show _ ∧ _; omega) | omega))) ?_
          refine preA tbl_ok false 14 rfl rfl rfl (by kernel_rfl) rfl (andL_mem (by repeat' (first | exact trivial | refine ⟨?_, ?_⟩ | (show _ ∧ _; omega) | omega))) ?_
          refine doneA (by kernel_rfl) (go tbl_ok false ?_)
          conv => whnf
      all_goals exact retC tbl_ok (r.2.2, r4.2.2, [(N : Int), N, 2 * N - 1, N - 1, 1, 0, -1, 1000].getD r5.2.2 0) ⟨hl, windows_in N hN _⟩ rfl rfl (by repeat' (first | exact trivial | exact rfl | refine ⟨?_, ?_⟩))
    · have hl : (rr (pN r.2.2) (brought (1 + r2.2.2) 0 40).toNat).length ≤ 2080 := by have := rr_len (pN r.2.2) (brought (1 + r2.2.2) 0 40).toNat (pN_le _); have := brought_range (1 + r2.2.2) 0 40 (by decide); omega
      refine drawA rfl ?_
      refine preA tbl_ok false 1 rfl rfl rfl (by kernel_rfl) rfl (andL_mem (by repeat' (first | exact trivial | refine ⟨?_, ?_⟩ | (show _ ∧ _; omega) | omega))) ?_
      refine preA tbl_ok false 2 rfl rfl rfl (by kernel_rfl) rfl (andL_mem (by repeat' (first | exact trivial | refine ⟨?_, ?_⟩ | (show _ ∧ _; omega) | omega))) ?_
      refine preA tbl_ok false 3 rfl rfl rfl (by kernel_rfl) rfl (andL_mem (by repeat' (first | exact trivial | refine ⟨?_, ?_⟩ | (show _ ∧ _; omega) | omega))) ?_
      refine preA tbl_ok false 4 rfl rfl rfl (by kernel_rfl) rfl (andL_mem (by repeat' (first | exact trivial | refine ⟨?_, ?_⟩ | (show _ ∧ _; omega) | omega))) ?_
      refine preA tbl_ok false 5 rfl rfl rfl (by kernel_rfl) rfl (andL_mem (by repeat' (first | exact trivial | refine ⟨?_, ?_⟩ | (show _ ∧ _; omega) | omega))) ?_
      refine preA tbl_ok false 6 rfl rfl rfl (by kernel_rfl) rfl (andL_mem (by repeat' (first | exact trivial | refine ⟨?_, ?_⟩ | (show _ ∧ _; omega) | omega))) ?_
      refine preA tbl_ok false 7 rfl rfl rfl (by kernel_rfl) rfl (andL_mem (by repeat' (first | exact trivial | refine ⟨?_, ?_⟩ | (show _ ∧ _; omega) | omega))) ?_
      refine preA tbl_ok false 8 rfl rfl rfl (by kernel_rfl) rfl (andL_mem (by repeat' (first | exact trivial | refine ⟨?_, ?_⟩ | (show _ ∧ _; omega) | omega))) ?_
      refine preA tbl_ok false 9 rfl rfl rfl (by kernel_rfl) rfl (andL_mem (by repeat' (first | exact trivial | refine ⟨?_, ?_⟩ | (show _ ∧ _; omega) | omega))) ?_
      refine splitA [0, 10] (by kernel_rfl) ⟨?_, ?_, trivial⟩
      focus
        refine go tbl_ok false ?_
        conv => whnf
        refine loopA ?_
        refine splitA [10] (by kernel_rfl) ⟨?_, trivial⟩
        refine go tbl_ok false ?_
        conv => whnf
        (repeat (refine ⟨by first | omega | (simp only [ByteArray.size_append, bsz, List.size_toArray, List.length_cons, List.length_nil]; omega) | (show _ ∧ _; omega) | (simp only [Int.toNat_natCast]; first | omega | (show _ ∧ _; omega)) | decide, ?_⟩; conv => whnf))
        refine loopA ?_
        refine splitA [11] (by kernel_rfl) ⟨?_, trivial⟩
        refine go tbl_ok false ?_
        conv => whnf
        refine castC 9 (sInt [(N : Int), N, 2 * N - 1, N - 1, 1, 0, -1, 1000]) rfl (cast_rows rfl (by repeat' (first | exact trivial | exact rfl | refine ⟨?_, ?_⟩))) ?_
        refine callP (curPickInt d r3.1 r3.2.1 [(N : Int), N, 2 * N - 1, N - 1, 1, 0, -1, 1000] hr3 (by simp)) hH hp rfl (by repeat' (first | exact trivial | exact outC_val _ _ | exact rfl | exact .inr ⟨rfl, rfl, _, _, rfl⟩ | refine ⟨?_, ?_⟩)) rfl rfl (fun r5 hr5 => go tbl_ok false ?_)
        conv => whnf
        refine loopA ?_
        refine splitA [12] (by kernel_rfl) ⟨?_, trivial⟩
        refine go tbl_ok false ?_
        conv => whnf
        refine loopA ?_
        refine preA tbl_ok false 13 rfl rfl rfl (by kernel_rfl) rfl (andL_mem (by repeat' (first | exact trivial | refine ⟨?_, ?_⟩ | (show _ ∧ _; omega) | omega))) ?_
        refine preA tbl_ok false 14 rfl rfl rfl (by kernel_rfl) rfl (andL_mem (by repeat' (first | exact trivial | refine ⟨?_, ?_⟩ | (show _ ∧ _; omega) | omega))) ?_
        refine doneA (by kernel_rfl) (go tbl_ok false ?_)
        conv => whnf
      rotate_left 1
      focus
        refine go tbl_ok false ?_
        conv => whnf
        (repeat (refine ⟨by first | omega | (simp only [ByteArray.size_append, bsz, List.size_toArray, List.length_cons, List.length_nil]; omega) | (show _ ∧ _; omega) | (simp only [Int.toNat_natCast]; first | omega | (show _ ∧ _; omega)) | decide, ?_⟩; conv => whnf))
        refine loopA ?_
        refine splitA [0, 11] (by kernel_rfl) ⟨?_, ?_, trivial⟩
        focus
          refine go tbl_ok false ?_
          conv => whnf
          refine loopA ?_
          refine splitA [11] (by kernel_rfl) ⟨?_, trivial⟩
          refine go tbl_ok false ?_
          conv => whnf
          refine castC 9 (sInt [(N : Int), N, 2 * N - 1, N - 1, 1, 0, -1, 1000]) rfl (cast_rows rfl (by repeat' (first | exact trivial | exact rfl | refine ⟨?_, ?_⟩))) ?_
          refine callP (curPickInt d r3.1 r3.2.1 [(N : Int), N, 2 * N - 1, N - 1, 1, 0, -1, 1000] hr3 (by simp)) hH hp rfl (by repeat' (first | exact trivial | exact outC_val _ _ | exact rfl | exact .inr ⟨rfl, rfl, _, _, rfl⟩ | refine ⟨?_, ?_⟩)) rfl rfl (fun r5 hr5 => go tbl_ok false ?_)
          conv => whnf
          refine loopA ?_
          refine splitA [12] (by kernel_rfl) ⟨?_, trivial⟩
          refine go tbl_ok false ?_
          conv => whnf
          refine loopA ?_
          refine preA tbl_ok false 13 rfl rfl rfl (by kernel_rfl) rfl (andL_mem (by repeat' (first | exact trivial | refine ⟨?_, ?_⟩ | (show _ ∧ _; omega) | omega))) ?_
          refine preA tbl_ok false 14 rfl rfl rfl (by kernel_rfl) rfl (andL_mem (by repeat' (first | exact trivial | refine ⟨?_, ?_⟩ | (show _ ∧ _; omega) | omega))) ?_
          refine doneA (by kernel_rfl) (go tbl_ok false ?_)
          conv => whnf
        rotate_left 1
        focus
          refine go tbl_ok false ?_
          conv => whnf
          refine castC 9 (sInt [(N : Int), N, 2 * N - 1, N - 1, 1, 0, -1, 1000]) rfl (cast_rows rfl (by repeat' (first | exact trivial | exact rfl | refine ⟨?_, ?_⟩))) ?_
          refine callP (curPickInt d r3.1 r3.2.1 [(N : Int), N, 2 * N - 1, N - 1, 1, 0, -1, 1000] hr3 (by simp)) hH hp rfl (by repeat' (first | exact trivial | exact outC_val _ _ | exact rfl | exact .inr ⟨rfl, rfl, _, _, rfl⟩ | refine ⟨?_, ?_⟩)) rfl rfl (fun r5 hr5 => go tbl_ok false ?_)
          conv => whnf
          refine loopA ?_
          refine splitA [0] (by kernel_rfl) ⟨?_, trivial⟩
          refine go tbl_ok false ?_
          conv => whnf
          refine loopA ?_
          refine splitA [12] (by kernel_rfl) ⟨?_, trivial⟩
          refine go tbl_ok false ?_
          conv => whnf
          refine loopA ?_
          refine preA tbl_ok false 13 rfl rfl rfl (by kernel_rfl) rfl (andL_mem (by repeat' (first | exact trivial | refine ⟨?_, ?_⟩ | (show _ ∧ _; omega) | omega))) ?_
          refine preA tbl_ok false 14 rfl rfl rfl (by kernel_rfl) rfl (andL_mem (by repeat' (first | exact trivial | refine ⟨?_, ?_⟩ | (show _ ∧ _; omega) | omega))) ?_
          refine doneA (by kernel_rfl) (go tbl_ok false ?_)
          conv => whnf
      all_goals exact retC tbl_ok (r.2.2, rr (pN r.2.2) (brought (1 + r2.2.2) 0 40).toNat, [(N : Int), N, 2 * N - 1, N - 1, 1, 0, -1, 1000].getD r5.2.2 0) ⟨hl, windows_in N hN _⟩ rfl rfl (by repeat' (first | exact trivial | exact rfl | refine ⟨?_, ?_⟩))
  · refine callR (specAllPicks r.2.2) rfl (go tbl_ok false ?_)
    conv => whnf
    have hN : (allP (brought r.2.2.graph.workers 0 4).toNat).length ≤ 52 := allP_len _ (pN_le r.2.2)
    generalize hNe : (allP (brought r.2.2.graph.workers 0 4).toNat).length = N at hN
    refine callP (curOnce d r2.1 r2.2.1 3 hr2.1 (by decide)) hH hp rfl (by repeat' (first | exact trivial | exact outC_val _ _ | exact rfl | exact .inr ⟨rfl, rfl, _, _, rfl⟩ | refine ⟨?_, ?_⟩)) rfl rfl (fun r3 hr3 => go tbl_ok false ?_)
    conv => whnf
    refine ⟨fun c0 => ?_, fun c0 => ?_⟩ <;> conv => whnf
    · refine callP (curPicks d r3.1 r3.2.1 20 (by decide) hr3) hH hp rfl (by repeat' (first | exact trivial | exact outC_val _ _ | exact rfl | exact .inr ⟨rfl, rfl, _, _, rfl⟩ | refine ⟨?_, ?_⟩)) rfl rfl (fun r4 hr4 => go tbl_ok false ?_)
      conv => whnf
      have hl : r4.2.2.length ≤ 2080 := Nat.le_trans hr4.2 (by decide)
      refine drawA rfl ?_
      refine preA tbl_ok false 1 rfl rfl rfl (by kernel_rfl) rfl (andL_mem (by repeat' (first | exact trivial | refine ⟨?_, ?_⟩ | (show _ ∧ _; omega) | omega))) ?_
      refine preA tbl_ok false 2 rfl rfl rfl (by kernel_rfl) rfl (andL_mem (by repeat' (first | exact trivial | refine ⟨?_, ?_⟩ | (show _ ∧ _; omega) | omega))) ?_
      refine preA tbl_ok false 3 rfl rfl rfl (by kernel_rfl) rfl (andL_mem (by repeat' (first | exact trivial | refine ⟨?_, ?_⟩ | (show _ ∧ _; omega) | omega))) ?_
      refine preA tbl_ok false 4 rfl rfl rfl (by kernel_rfl) rfl (andL_mem (by repeat' (first | exact trivial | refine ⟨?_, ?_⟩ | (show _ ∧ _; omega) | omega))) ?_
      refine preA tbl_ok false 5 rfl rfl rfl (by kernel_rfl) rfl (andL_mem (by repeat' (first | exact trivial | refine ⟨?_, ?_⟩ | (show _ ∧ _; omega) | omega))) ?_
      refine preA tbl_ok false 6 rfl rfl rfl (by kernel_rfl) rfl (andL_mem (by repeat' (first | exact trivial | refine ⟨?_, ?_⟩ | (show _ ∧ _; omega) | omega))) ?_
      refine preA tbl_ok false 7 rfl rfl rfl (by kernel_rfl) rfl (andL_mem (by repeat' (first | exact trivial | refine ⟨?_, ?_⟩ | (show _ ∧ _; omega) | omega))) ?_
      refine preA tbl_ok false 8 rfl rfl rfl (by kernel_rfl) rfl (andL_mem (by repeat' (first | exact trivial | refine ⟨?_, ?_⟩ | (show _ ∧ _; omega) | omega))) ?_
      refine preA tbl_ok false 9 rfl rfl rfl (by kernel_rfl) rfl (andL_mem (by repeat' (first | exact trivial | refine ⟨?_, ?_⟩ | (show _ ∧ _; omega) | omega))) ?_
      refine splitA [0, 10] (by kernel_rfl) ⟨?_, ?_, trivial⟩
      focus
        refine go tbl_ok false ?_
        conv => whnf
        refine loopA ?_
        refine splitA [10] (by kernel_rfl) ⟨?_, trivial⟩
        refine go tbl_ok false ?_
        conv => whnf
        (repeat (refine ⟨by first | omega | (simp only [ByteArray.size_append, bsz, List.size_toArray, List.length_cons, List.length_nil]; omega) | (show _ ∧ _; omega) | (simp only [Int.toNat_natCast]; first | omega | (show _ ∧ _; omega)) | decide, ?_⟩; conv => whnf))
        refine loopA ?_
        refine splitA [11] (by kernel_rfl) ⟨?_, trivial⟩
        refine go tbl_ok false ?_
        conv => whnf
        refine castC 10 (sInt [(N : Int), N, 2 * N - 1, N - 1, 1, 0, -1, 1000]) rfl (cast_rows rfl (by repeat' (first | exact trivial | exact rfl | refine ⟨?_, ?_⟩))) ?_
        refine callP (curPickInt d r4.1 r4.2.1 [(N : Int), N, 2 * N - 1, N - 1, 1, 0, -1, 1000] hr4.1 (by simp)) hH hp rfl (by repeat' (first | exact trivial | exact outC_val _ _ | exact rfl | exact .inr ⟨rfl, rfl, _, _, rfl⟩ | refine ⟨?_, ?_⟩)) rfl rfl (fun r5 hr5 => go tbl_ok false ?_)
        conv => whnf
        refine loopA ?_
        refine splitA [12] (by kernel_rfl) ⟨?_, trivial⟩
        refine go tbl_ok false ?_
        conv => whnf
        refine loopA ?_
        refine preA tbl_ok false 13 rfl rfl rfl (by kernel_rfl) rfl (andL_mem (by repeat' (first | exact trivial | refine ⟨?_, ?_⟩ | (show _ ∧ _; omega) | omega))) ?_
        refine preA tbl_ok false 14 rfl rfl rfl (by kernel_rfl) rfl (andL_mem (by repeat' (first | exact trivial | refine ⟨?_, ?_⟩ | (show _ ∧ _; omega) | omega))) ?_
        refine doneA (by kernel_rfl) (go tbl_ok false ?_)
        conv => whnf
      rotate_left 1
      focus
        refine go tbl_ok false ?_
        conv => whnf
        (repeat (refine ⟨by first | omega | (simp only [ByteArray.size_append, bsz, List.size_toArray, List.length_cons, List.length_nil]; omega) | (show _ ∧ _; omega) | (simp only [Int.toNat_natCast]; first | omega | (show _ ∧ _; omega)) | decide, ?_⟩; conv => whnf))
        refine loopA ?_
        refine splitA [0, 11] (by kernel_rfl) ⟨?_, ?_, trivial⟩
        focus
          refine go tbl_ok false ?_
          conv => whnf
          refine loopA ?_
          refine splitA [11] (by kernel_rfl) ⟨?_, trivial⟩
          refine go tbl_ok false ?_
          conv => whnf
          refine castC 10 (sInt [(N : Int), N, 2 * N - 1, N - 1, 1, 0, -1, 1000]) rfl (cast_rows rfl (by repeat' (first | exact trivial | exact rfl | refine ⟨?_, ?_⟩))) ?_
          refine callP (curPickInt d r4.1 r4.2.1 [(N : Int), N, 2 * N - 1, N - 1, 1, 0, -1, 1000] hr4.1 (by simp)) hH hp rfl (by repeat' (first | exact trivial | exact outC_val _ _ | exact rfl | exact .inr ⟨rfl, rfl, _, _, rfl⟩ | refine ⟨?_, ?_⟩)) rfl rfl (fun r5 hr5 => go tbl_ok false ?_)
          conv => whnf
          refine loopA ?_
          refine splitA [12] (by kernel_rfl) ⟨?_, trivial⟩
          refine go tbl_ok false ?_
          conv => whnf
          refine loopA ?_
          refine preA tbl_ok false 13 rfl rfl rfl (by kernel_rfl) rfl (andL_mem (by repeat' (first | exact trivial | refine ⟨?_, ?_⟩ | (show _ ∧ _; omega) | omega))) ?_
          refine preA tbl_ok false 14 rfl rfl rfl (by kernel_rfl) rfl (andL_mem (by repeat' (first | exact trivial | refine ⟨?_, ?_⟩ | (show _ ∧ _; omega) | omega))) ?_
          refine doneA (by kernel_rfl) (go tbl_ok false ?_)
          conv => whnf
        rotate_left 1
        focus
          refine go tbl_ok false ?_
          conv => whnf
          refine castC 10 (sInt [(N : Int), N, 2 * N - 1, N - 1, 1, 0, -1, 1000]) rfl (cast_rows rfl (by repeat' (first | exact trivial | exact rfl | refine ⟨?_, ?_⟩))) ?_
          refine callP (curPickInt d r4.1 r4.2.1 [(N : Int), N, 2 * N - 1, N - 1, 1, 0, -1, 1000] hr4.1 (by simp)) hH hp rfl (by repeat' (first | exact trivial | exact outC_val _ _ | exact rfl | exact .inr ⟨rfl, rfl, _, _, rfl⟩ | refine ⟨?_, ?_⟩)) rfl rfl (fun r5 hr5 => go tbl_ok false ?_)
          conv => whnf
          refine loopA ?_
          refine splitA [0] (by kernel_rfl) ⟨?_, trivial⟩
          refine go tbl_ok false ?_
          conv => whnf
          refine loopA ?_
          refine splitA [12] (by kernel_rfl) ⟨?_, trivial⟩
          refine go tbl_ok false ?_
          conv => whnf
          refine loopA ?_
          refine preA tbl_ok false 13 rfl rfl rfl (by kernel_rfl) rfl (andL_mem (by repeat' (first | exact trivial | refine ⟨?_, ?_⟩ | (show _ ∧ _; omega) | omega))) ?_
          refine preA tbl_ok false 14 rfl rfl rfl (by kernel_rfl) rfl (andL_mem (by repeat' (first | exact trivial | refine ⟨?_, ?_⟩ | (show _ ∧ _; omega) | omega))) ?_
          refine doneA (by kernel_rfl) (go tbl_ok false ?_)
          conv => whnf
      all_goals exact retC tbl_ok (r.2.2, r4.2.2, [(N : Int), N, 2 * N - 1, N - 1, 1, 0, -1, 1000].getD r5.2.2 0) ⟨hl, windows_in N hN _⟩ rfl rfl (by repeat' (first | exact trivial | exact rfl | refine ⟨?_, ?_⟩))
    · have hl : (rr (pN r.2.2) (brought (1 + r2.2.2) 0 40).toNat).length ≤ 2080 := by have := rr_len (pN r.2.2) (brought (1 + r2.2.2) 0 40).toNat (pN_le _); have := brought_range (1 + r2.2.2) 0 40 (by decide); omega
      refine drawA rfl ?_
      refine preA tbl_ok false 1 rfl rfl rfl (by kernel_rfl) rfl (andL_mem (by repeat' (first | exact trivial | refine ⟨?_, ?_⟩ | (show _ ∧ _; omega) | omega))) ?_
      refine preA tbl_ok false 2 rfl rfl rfl (by kernel_rfl) rfl (andL_mem (by repeat' (first | exact trivial | refine ⟨?_, ?_⟩ | (show _ ∧ _; omega) | omega))) ?_
      refine preA tbl_ok false 3 rfl rfl rfl (by kernel_rfl) rfl (andL_mem (by repeat' (first | exact trivial | refine ⟨?_, ?_⟩ | (show _ ∧ _; omega) | omega))) ?_
      refine preA tbl_ok false 4 rfl rfl rfl (by kernel_rfl) rfl (andL_mem (by repeat' (first | exact trivial | refine ⟨?_, ?_⟩ | (show _ ∧ _; omega) | omega))) ?_
      refine preA tbl_ok false 5 rfl rfl rfl (by kernel_rfl) rfl (andL_mem (by repeat' (first | exact trivial | refine ⟨?_, ?_⟩ | (show _ ∧ _; omega) | omega))) ?_
      refine preA tbl_ok false 6 rfl rfl rfl (by kernel_rfl) rfl (andL_mem (by repeat' (first | exact trivial | refine ⟨?_, ?_⟩ | (show _ ∧ _; omega) | omega))) ?_
      refine preA tbl_ok false 7 rfl rfl rfl (by kernel_rfl) rfl (andL_mem (by repeat' (first | exact trivial | refine ⟨?_, ?_⟩ | (show _ ∧ _; omega) | omega))) ?_
      refine preA tbl_ok false 8 rfl rfl rfl (by kernel_rfl) rfl (andL_mem (by repeat' (first | exact trivial | refine ⟨?_, ?_⟩ | (show _ ∧ _; omega) | omega))) ?_
      refine preA tbl_ok false 9 rfl rfl rfl (by kernel_rfl) rfl (andL_mem (by repeat' (first | exact trivial | refine ⟨?_, ?_⟩ | (show _ ∧ _; omega) | omega))) ?_
      refine splitA [0, 10] (by kernel_rfl) ⟨?_, ?_, trivial⟩
      focus
        refine go tbl_ok false ?_
        conv => whnf
        refine loopA ?_
        refine splitA [10] (by kernel_rfl) ⟨?_, trivial⟩
        refine go tbl_ok false ?_
        conv => whnf
        (repeat (refine ⟨by first | omega | (simp only [ByteArray.size_append, bsz, List.size_toArray, List.length_cons, List.length_nil]; omega) | (show _ ∧ _; omega) | (simp only [Int.toNat_natCast]; first | omega | (show _ ∧ _; omega)) | decide, ?_⟩; conv => whnf))
        refine loopA ?_
        refine splitA [11] (by kernel_rfl) ⟨?_, trivial⟩
        refine go tbl_ok false ?_
        conv => whnf
        refine castC 9 (sInt [(N : Int), N, 2 * N - 1, N - 1, 1, 0, -1, 1000]) rfl (cast_rows rfl (by repeat' (first | exact trivial | exact rfl | refine ⟨?_, ?_⟩))) ?_
        refine callP (curPickInt d r3.1 r3.2.1 [(N : Int), N, 2 * N - 1, N - 1, 1, 0, -1, 1000] hr3 (by simp)) hH hp rfl (by repeat' (first | exact trivial | exact outC_val _ _ | exact rfl | exact .inr ⟨rfl, rfl, _, _, rfl⟩ | refine ⟨?_, ?_⟩)) rfl rfl (fun r5 hr5 => go tbl_ok false ?_)
        conv => whnf
        refine loopA ?_
        refine splitA [12] (by kernel_rfl) ⟨?_, trivial⟩
        refine go tbl_ok false ?_
        conv => whnf
        refine loopA ?_
        refine preA tbl_ok false 13 rfl rfl rfl (by kernel_rfl) rfl (andL_mem (by repeat' (first | exact trivial | refine ⟨?_, ?_⟩ | (show _ ∧ _; omega) | omega))) ?_
        refine preA tbl_ok false 14 rfl rfl rfl (by kernel_rfl) rfl (andL_mem (by repeat' (first | exact trivial | refine ⟨?_, ?_⟩ | (show _ ∧ _; omega) | omega))) ?_
        refine doneA (by kernel_rfl) (go tbl_ok false ?_)
        conv => whnf
      rotate_left 1
      focus
        refine go tbl_ok false ?_
        conv => whnf
        (repeat (refine ⟨by first | omega | (simp only [ByteArray.size_append, bsz, List.size_toArray, List.length_cons, List.length_nil]; omega) | (show _ ∧ _; omega) | (simp only [Int.toNat_natCast]; first | omega | (show _ ∧ _; omega)) | decide, ?_⟩; conv => whnf))
        refine loopA ?_
        refine splitA [0, 11] (by kernel_rfl) ⟨?_, ?_, trivial⟩
        focus
          refine go tbl_ok false ?_
          conv => whnf
          refine loopA ?_
          refine splitA [11] (by kernel_rfl) ⟨?_, trivial⟩
          refine go tbl_ok false ?_
          conv => whnf
          refine castC 9 (sInt [(N : Int), N, 2 * N - 1, N - 1, 1, 0, -1, 1000]) rfl (cast_rows rfl (by repeat' (first | exact trivial | exact rfl | refine ⟨?_, ?_⟩))) ?_
          refine callP (curPickInt d r3.1 r3.2.1 [(N : Int), N, 2 * N - 1, N - 1, 1, 0, -1, 1000] hr3 (by simp)) hH hp rfl (by repeat' (first | exact trivial | exact outC_val _ _ | exact rfl | exact .inr ⟨rfl, rfl, _, _, rfl⟩ | refine ⟨?_, ?_⟩)) rfl rfl (fun r5 hr5 => go tbl_ok false ?_)
          conv => whnf
          refine loopA ?_
          refine splitA [12] (by kernel_rfl) ⟨?_, trivial⟩
          refine go tbl_ok false ?_
          conv => whnf
          refine loopA ?_
          refine preA tbl_ok false 13 rfl rfl rfl (by kernel_rfl) rfl (andL_mem (by repeat' (first | exact trivial | refine ⟨?_, ?_⟩ | (show _ ∧ _; omega) | omega))) ?_
          refine preA tbl_ok false 14 rfl rfl rfl (by kernel_rfl) rfl (andL_mem (by repeat' (first | exact trivial | refine ⟨?_, ?_⟩ | (show _ ∧ _; omega) | omega))) ?_
          refine doneA (by kernel_rfl) (go tbl_ok false ?_)
          conv => whnf
        rotate_left 1
        focus
          refine go tbl_ok false ?_
          conv => whnf
          refine castC 9 (sInt [(N : Int), N, 2 * N - 1, N - 1, 1, 0, -1, 1000]) rfl (cast_rows rfl (by repeat' (first | exact trivial | exact rfl | refine ⟨?_, ?_⟩))) ?_
          refine callP (curPickInt d r3.1 r3.2.1 [(N : Int), N, 2 * N - 1, N - 1, 1, 0, -1, 1000] hr3 (by simp)) hH hp rfl (by repeat' (first | exact trivial | exact outC_val _ _ | exact rfl | exact .inr ⟨rfl, rfl, _, _, rfl⟩ | refine ⟨?_, ?_⟩)) rfl rfl (fun r5 hr5 => go tbl_ok false ?_)
          conv => whnf
          refine loopA ?_
          refine splitA [0] (by kernel_rfl) ⟨?_, trivial⟩
          refine go tbl_ok false ?_
          conv => whnf
          refine loopA ?_
          refine splitA [12] (by kernel_rfl) ⟨?_, trivial⟩
          refine go tbl_ok false ?_
          conv => whnf
          refine loopA ?_
          refine preA tbl_ok false 13 rfl rfl rfl (by kernel_rfl) rfl (andL_mem (by repeat' (first | exact trivial | refine ⟨?_, ?_⟩ | (show _ ∧ _; omega) | omega))) ?_
          refine preA tbl_ok false 14 rfl rfl rfl (by kernel_rfl) rfl (andL_mem (by repeat' (first | exact trivial | refine ⟨?_, ?_⟩ | (show _ ∧ _; omega) | omega))) ?_
          refine doneA (by kernel_rfl) (go tbl_ok false ?_)
          conv => whnf
      all_goals exact retC tbl_ok (r.2.2, rr (pN r.2.2) (brought (1 + r2.2.2) 0 40).toNat, [(N : Int), N, 2 * N - 1, N - 1, 1, 0, -1, 1000].getD r5.2.2 0) ⟨hl, windows_in N hN _⟩ rfl rfl (by repeat' (first | exact trivial | exact rfl | refine ⟨?_, ?_⟩))

end Go.Proofs.Ytcpjpkcahnldfaa
