/- Texts for the law FnSchedules: WCurP. No conditions. -/
import Derived.Test.YtcpjpkcahnldfaaEng4
import Derived.Test.YtcpjpkcahnldfaaWCur

set_option maxRecDepth 100000
namespace Go.Proofs.Ytcpjpkcahnldfaa
open Go.Sx
theorem curPickL (d : DCode) (i h : Int) (hi : 0 ≤ i ∧ i ≤ d.n) : MeetsP Try.prog HT 44 d.pins (d.cur i h) [] (fun r : Int × Int × GPick => 0 ≤ r.1 ∧ r.1 ≤ d.n) (fun r => d.cur r.1 r.2.1) (fun r => [.agg r.2.2.c]) := by
  refine enterP tbl_ok false Try.func44 rfl (by decide) fun B b hH hp => ?_
  conv => whnf
  refine castC 2 (sInt [1, 1, 1, 2, 3, 3, 3, 4, 4, 5, 6, 6, 7]) rfl (cast_rows rfl (by repeat' (first | exact trivial | exact rfl | refine ⟨?_, ?_⟩))) ?_
  refine callP (curPickInt d i h [1, 1, 1, 2, 3, 3, 3, 4, 4, 5, 6, 6, 7] hi (by decide)) hH hp rfl (by repeat' (first | exact trivial | exact outC_val _ _ | exact rfl | refine ⟨?_, ?_⟩)) rfl rfl (fun r hr => go tbl_ok false ?_)
  conv => whnf
  refine callP (curBelow d r.1 r.2.1 3 hr.1 (by decide)) hH hp rfl (by repeat' (first | exact trivial | exact outC_val _ _ | exact rfl | refine ⟨?_, ?_⟩)) rfl rfl (fun r2 hr2 => go tbl_ok false ?_)
  conv => whnf
  refine ⟨fun c1 => ?_, fun c1 => ?_⟩ <;> conv => whnf
  · repeat' (first | (refine ite_f (by first | with_reducible rfl | assumption) ?_; conv => whnf) | (refine ite_t (by first | with_reducible rfl | assumption) ?_; conv => whnf) | (refine ⟨fun h => ?_, fun h => ?_⟩ <;> conv => whnf) | (refine ⟨by first | omega | (simp only [ByteArray.size_append, bsz, List.size_toArray, List.length_cons, List.length_nil]; omega) | (show _ ∧ _; omega) | (simp only [Int.toNat_natCast]; first | omega | (show _ ∧ _; omega)) | decide, ?_⟩; conv => whnf) | fail)
    refine drawA rfl ?_
    refine preA tbl_ok false 0 rfl rfl rfl (by kernel_rfl) rfl (andL_mem (by repeat' (first | exact trivial | refine ⟨?_, ?_⟩ | (show _ ∧ _; omega) | omega))) ?_
    refine preA tbl_ok false 3 rfl rfl rfl (by kernel_rfl) rfl (andL_mem (by repeat' (first | exact trivial | refine ⟨?_, ?_⟩ | (show _ ∧ _; omega) | omega))) ?_
    refine splitA [1, 4] (by kernel_rfl) ⟨?_, ?_, trivial⟩
    focus
      refine go tbl_ok false ?_
      conv => whnf
      refine loopA ?_
      refine preA tbl_ok false 2 rfl rfl rfl (by kernel_rfl) rfl (andL_mem (by repeat' (first | exact trivial | refine ⟨?_, ?_⟩ | (show _ ∧ _; omega) | omega))) ?_
      refine splitA [4] (by kernel_rfl) ⟨?_, trivial⟩
      refine go tbl_ok false ?_
      conv => whnf
      refine callP (curBelow d r2.1 r2.2.1 2 hr2.1 (by decide)) hH hp rfl (by repeat' (first | exact trivial | exact outC_val _ _ | exact rfl | refine ⟨?_, ?_⟩)) rfl rfl (fun r3 hr3 => go tbl_ok false ?_)
      conv => whnf
      refine loopA ?_
      refine preA tbl_ok false 5 rfl rfl rfl (by kernel_rfl) rfl (andL_mem (by repeat' (first | exact trivial | refine ⟨?_, ?_⟩ | (show _ ∧ _; omega) | omega))) ?_
      refine preA tbl_ok false 6 rfl rfl rfl (by kernel_rfl) rfl (andL_mem (by repeat' (first | exact trivial | refine ⟨?_, ?_⟩ | (show _ ∧ _; omega) | omega))) ?_
      refine preA tbl_ok false 7 rfl rfl rfl (by kernel_rfl) rfl (andL_mem (by repeat' (first | exact trivial | refine ⟨?_, ?_⟩ | (show _ ∧ _; omega) | omega))) ?_
      refine splitA [8] (by kernel_rfl) ⟨?_, trivial⟩
      refine go tbl_ok false ?_
      conv => whnf
      refine loopA ?_
      refine doneA (by kernel_rfl) (go tbl_ok false ?_)
      conv => whnf
    rotate_left 1
    focus
      refine go tbl_ok false ?_
      conv => whnf
      refine callP (curBelow d r2.1 r2.2.1 2 hr2.1 (by decide)) hH hp rfl (by repeat' (first | exact trivial | exact outC_val _ _ | exact rfl | refine ⟨?_, ?_⟩)) rfl rfl (fun r3 hr3 => go tbl_ok false ?_)
      conv => whnf
      refine loopA ?_
      refine splitA [1] (by kernel_rfl) ⟨?_, trivial⟩
      refine go tbl_ok false ?_
      conv => whnf
      refine loopA ?_
      refine preA tbl_ok false 2 rfl rfl rfl (by kernel_rfl) rfl (andL_mem (by repeat' (first | exact trivial | refine ⟨?_, ?_⟩ | (show _ ∧ _; omega) | omega))) ?_
      refine preA tbl_ok false 5 rfl rfl rfl (by kernel_rfl) rfl (andL_mem (by repeat' (first | exact trivial | refine ⟨?_, ?_⟩ | (show _ ∧ _; omega) | omega))) ?_
      refine preA tbl_ok false 6 rfl rfl rfl (by kernel_rfl) rfl (andL_mem (by repeat' (first | exact trivial | refine ⟨?_, ?_⟩ | (show _ ∧ _; omega) | omega))) ?_
      refine preA tbl_ok false 7 rfl rfl rfl (by kernel_rfl) rfl (andL_mem (by repeat' (first | exact trivial | refine ⟨?_, ?_⟩ | (show _ ∧ _; omega) | omega))) ?_
      refine splitA [8] (by kernel_rfl) ⟨?_, trivial⟩
      refine go tbl_ok false ?_
      conv => whnf
      refine loopA ?_
      refine doneA (by kernel_rfl) (go tbl_ok false ?_)
      conv => whnf
    · exact retP tbl_ok (r3.1, r3.2.1, ⟨_, _, _⟩) hr3.1 rfl rfl rfl rfl (by repeat' (first | exact trivial | exact outC_val _ _ | exact rfl | refine ⟨?_, ?_⟩))
    · exact retP tbl_ok (r3.1, r3.2.1, ⟨_, _, _⟩) hr3.1 rfl rfl rfl rfl (by repeat' (first | exact trivial | exact outC_val _ _ | exact rfl | refine ⟨?_, ?_⟩))
  · repeat' (first | (refine ite_f (by first | with_reducible rfl | assumption) ?_; conv => whnf) | (refine ite_t (by first | with_reducible rfl | assumption) ?_; conv => whnf) | (refine ⟨fun h => ?_, fun h => ?_⟩ <;> conv => whnf) | (refine ⟨by first | omega | (simp only [ByteArray.size_append, bsz, List.size_toArray, List.length_cons, List.length_nil]; omega) | (show _ ∧ _; omega) | (simp only [Int.toNat_natCast]; first | omega | (show _ ∧ _; omega)) | decide, ?_⟩; conv => whnf) | fail)
    · refine drawA rfl ?_
      refine preA tbl_ok false 0 rfl rfl rfl (by kernel_rfl) rfl (andL_mem (by repeat' (first | exact trivial | refine ⟨?_, ?_⟩ | (show _ ∧ _; omega) | omega))) ?_
      refine preA tbl_ok false 3 rfl rfl rfl (by kernel_rfl) rfl (andL_mem (by repeat' (first | exact trivial | refine ⟨?_, ?_⟩ | (show _ ∧ _; omega) | omega))) ?_
      refine splitA [1, 4] (by kernel_rfl) ⟨?_, ?_, trivial⟩
      focus
        refine go tbl_ok false ?_
        conv => whnf
        refine loopA ?_
        refine preA tbl_ok false 2 rfl rfl rfl (by kernel_rfl) rfl (andL_mem (by repeat' (first | exact trivial | refine ⟨?_, ?_⟩ | (show _ ∧ _; omega) | omega))) ?_
        refine splitA [4] (by kernel_rfl) ⟨?_, trivial⟩
        refine go tbl_ok false ?_
        conv => whnf
        refine callP (curBelow d r2.1 r2.2.1 2 hr2.1 (by decide)) hH hp rfl (by repeat' (first | exact trivial | exact outC_val _ _ | exact rfl | refine ⟨?_, ?_⟩)) rfl rfl (fun r3 hr3 => go tbl_ok false ?_)
        conv => whnf
        refine loopA ?_
        refine preA tbl_ok false 5 rfl rfl rfl (by kernel_rfl) rfl (andL_mem (by repeat' (first | exact trivial | refine ⟨?_, ?_⟩ | (show _ ∧ _; omega) | omega))) ?_
        refine preA tbl_ok false 6 rfl rfl rfl (by kernel_rfl) rfl (andL_mem (by repeat' (first | exact trivial | refine ⟨?_, ?_⟩ | (show _ ∧ _; omega) | omega))) ?_
        refine preA tbl_ok false 7 rfl rfl rfl (by kernel_rfl) rfl (andL_mem (by repeat' (first | exact trivial | refine ⟨?_, ?_⟩ | (show _ ∧ _; omega) | omega))) ?_
        refine splitA [8] (by kernel_rfl) ⟨?_, trivial⟩
        refine go tbl_ok false ?_
        conv => whnf
        refine loopA ?_
        refine doneA (by kernel_rfl) (go tbl_ok false ?_)
        conv => whnf
      rotate_left 1
      focus
        refine go tbl_ok false ?_
        conv => whnf
        refine callP (curBelow d r2.1 r2.2.1 2 hr2.1 (by decide)) hH hp rfl (by repeat' (first | exact trivial | exact outC_val _ _ | exact rfl | refine ⟨?_, ?_⟩)) rfl rfl (fun r3 hr3 => go tbl_ok false ?_)
        conv => whnf
        refine loopA ?_
        refine splitA [1] (by kernel_rfl) ⟨?_, trivial⟩
        refine go tbl_ok false ?_
        conv => whnf
        refine loopA ?_
        refine preA tbl_ok false 2 rfl rfl rfl (by kernel_rfl) rfl (andL_mem (by repeat' (first | exact trivial | refine ⟨?_, ?_⟩ | (show _ ∧ _; omega) | omega))) ?_
        refine preA tbl_ok false 5 rfl rfl rfl (by kernel_rfl) rfl (andL_mem (by repeat' (first | exact trivial | refine ⟨?_, ?_⟩ | (show _ ∧ _; omega) | omega))) ?_
        refine preA tbl_ok false 6 rfl rfl rfl (by kernel_rfl) rfl (andL_mem (by repeat' (first | exact trivial | refine ⟨?_, ?_⟩ | (show _ ∧ _; omega) | omega))) ?_
        refine preA tbl_ok false 7 rfl rfl rfl (by kernel_rfl) rfl (andL_mem (by repeat' (first | exact trivial | refine ⟨?_, ?_⟩ | (show _ ∧ _; omega) | omega))) ?_
        refine splitA [8] (by kernel_rfl) ⟨?_, trivial⟩
        refine go tbl_ok false ?_
        conv => whnf
        refine loopA ?_
        refine doneA (by kernel_rfl) (go tbl_ok false ?_)
        conv => whnf
      · exact retP tbl_ok (r3.1, r3.2.1, ⟨_, _, _⟩) hr3.1 rfl rfl rfl rfl (by repeat' (first | exact trivial | exact outC_val _ _ | exact rfl | refine ⟨?_, ?_⟩))
      · exact retP tbl_ok (r3.1, r3.2.1, ⟨_, _, _⟩) hr3.1 rfl rfl rfl rfl (by repeat' (first | exact trivial | exact outC_val _ _ | exact rfl | refine ⟨?_, ?_⟩))
    · exact retP tbl_ok (r2.1, r2.2.1, ⟨_, _, _⟩) hr2.1 rfl rfl rfl rfl (by repeat' (first | exact trivial | exact outC_val _ _ | exact rfl | refine ⟨?_, ?_⟩))

/-- Where a loop over drawn picks stands. -/
structure JPk where
  k : Nat
  i : Int
  h : Int
  xs : List GPick

theorem curPicks (d : DCode) (i h : Int) (m : Nat) (hm : m ≤ 1000) (hi : 0 ≤ i ∧ i ≤ d.n) : MeetsP Try.prog HT 29 d.pins (d.cur i h) [.one (vi m)] (fun r : Int × Int × List GPick => (0 ≤ r.1 ∧ r.1 ≤ d.n) ∧ r.2.2.length ≤ m) (fun r => d.cur r.1 r.2.1) (fun r => [.one (sGPick r.2.2)]) := by
  refine enterP tbl_ok false Try.func29 rfl (by decide) fun B b hH hp => ?_
  conv => whnf
  refine castW 1 (sGPick []) rfl (cast_rows rfl (by repeat' (first | exact trivial | exact rfl | refine ⟨?_, ?_⟩))) ?_
  refine loopW tbl_ok false [7] (fun j : JPk => [(6, .c (vi j.k))]) (fun j => [⟨0, [.c (.val d.v), .c (vi j.i), .c (vi j.h)]⟩]) (fun j => [⟨1, sGPick j.xs⟩]) (fun j => (0 ≤ j.i ∧ j.i ≤ d.n) ∧ j.k ≤ m ∧ j.xs.length = j.k) (fun j => m - j.k) (⟨0, i, h, []⟩) (⟨hi, Nat.zero_le _, rfl⟩) ⟨by first | rfl | simp [nth, ren2, ren1, ren0], trivial⟩ (by repeat' (first | exact trivial | exact rfl | refine ⟨?_, ?_⟩)) ⟨by first | rfl | exact (congrArg (fun l => slC _ _ l) (List.append_nil _)).symm | (show (_ : Cell) = _; simp) | simp, trivial⟩ (by first | exact trivial | exact ⟨rfl, trivial⟩) (by kernel_rfl) (fun j hj => ?_)
  conv => whnf
  obtain ⟨hi, hk, hx⟩ := hj
  (repeat (refine ⟨by first | omega | (simp only [ByteArray.size_append, bsz, List.size_toArray, List.length_cons, List.length_nil]; omega) | (show _ ∧ _; omega) | (simp only [Int.toNat_natCast]; first | omega | (show _ ∧ _; omega)) | decide, ?_⟩; conv => whnf))
  refine callP (curBelow d j.i j.h (m + 1) hi (by omega)) hH hp rfl (by repeat' (first | exact trivial | exact outC_val _ _ | exact rfl | refine ⟨?_, ?_⟩)) rfl rfl (fun r hr => go tbl_ok false ?_)
  conv => whnf
  refine ⟨fun hlt => have hlt := of_decide_eq_true hlt; ?_, fun hlt => have hlt := of_decide_eq_false hlt; ?_⟩ <;> conv => whnf
  · have hlt2 : (r.2.2 : Int) < m + 1 := hr.2.2.2 (by omega)
    refine callP (curPickL d r.1 r.2.1 hr.1) hH hp rfl (by repeat' (first | exact trivial | exact outC_val _ _ | exact rfl | refine ⟨?_, ?_⟩)) rfl rfl (fun r2 hr2 => go tbl_ok false ?_)
    conv => whnf
    refine appW tbl_ok rfl rfl rfl rfl rfl rfl rfl rfl rfl rfl rfl (sGPick (j.xs ++ [r2.2.2])) (slC_snoc rfl) (by intro h; cases h) (by omega) (go tbl_ok false ?_)
    conv => whnf
    (repeat (refine ⟨by first | omega | (simp only [ByteArray.size_append, bsz, List.size_toArray, List.length_cons, List.length_nil]; omega) | (show _ ∧ _; omega) | (simp only [Int.toNat_natCast]; first | omega | (show _ ∧ _; omega)) | decide, ?_⟩; conv => whnf))
    refine loopE [(1, 3)] (⟨j.k + 1, r2.1, r2.2.1, j.xs ++ [r2.2.2]⟩) (⟨hr2, by show j.k + 1 ≤ m; omega, by simp [hx]⟩) (by show m - (j.k + 1) < _; omega) ⟨rfl, trivial⟩ ⟨rfl, trivial⟩ (by repeat' (first | exact trivial | exact rfl | refine ⟨?_, ?_⟩)) (by kernel_rfl) (by first | exact trivial | exact ⟨rfl, trivial⟩) (by kernel_rfl)
  · exact retP tbl_ok (r.1, r.2.1, j.xs) ⟨hr.1, by show j.xs.length ≤ m; omega⟩ rfl rfl rfl rfl (by repeat' (first | exact trivial | exact outC_val _ _ | exact rfl | refine ⟨?_, ?_⟩))

end Go.Proofs.Ytcpjpkcahnldfaa
