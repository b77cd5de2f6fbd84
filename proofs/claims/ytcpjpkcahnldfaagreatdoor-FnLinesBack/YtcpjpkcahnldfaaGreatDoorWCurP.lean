/- Texts for the law FnLinesBack: WCurP. No conditions. -/
import Derived.Test.YtcpjpkcahnldfaaGreatDoorEng4
import Derived.Test.YtcpjpkcahnldfaaGreatDoorWCur
import Derived.Test.YtcpjpkcahnldfaaGreatDoorH2

set_option maxRecDepth 100000
namespace Go.Proofs.YtcpjpkcahnldfaaGreatDoor
open Go.Sx
theorem kinds_in (k : Nat) : inR .i64 ([1, 1, 1, 2, 3, 3, 3, 4, 4, 5, 6, 6, 7].getD k 0) :=
  getD_all (p := fun w => inR .i64 w) _ k 0 (fun x hx => by simp only [List.mem_cons, List.not_mem_nil, or_false] at hx; show _ ∧ _; omega) ⟨by decide, by decide⟩
theorem mod3_in (n : Int) : inR .i64 (n.tmod 3) := by
  show _ ∧ _
  have h1 := Int.tmod_lt_of_pos n (show (0 : Int) < 3 by decide)
  have h2 := Int.lt_tmod_of_pos n (show (0 : Int) < 3 by decide)
  omega
theorem curPickO (d : DCode) (i h : Int) (hi : 0 ≤ i ∧ i ≤ d.n) : MeetsP Tryz.prog HT 92 d.pins (d.cur i h) [] (fun r : Int × Int × GPick => (0 ≤ r.1 ∧ r.1 ≤ d.n) ∧ r.2.2.ok) (fun r => d.cur r.1 r.2.1) (fun r => [.agg r.2.2.c]) := by
  refine enterP tbl_ok false Tryz.func92 rfl (by decide) fun B b hH hp => ?_
  conv => whnf
  refine castC 2 (sInt [1, 1, 1, 2, 3, 3, 3, 4, 4, 5, 6, 6, 7]) rfl (cast_rows rfl (by repeat' (first | exact trivial | exact rfl | refine ⟨?_, ?_⟩))) ?_
  refine callP (curPickInt d i h [1, 1, 1, 2, 3, 3, 3, 4, 4, 5, 6, 6, 7] hi (by decide)) hH hp rfl (by repeat' (first | exact trivial | exact outC_val _ _ | exact rfl | exact .inr ⟨rfl, rfl, _, _, rfl⟩ | refine ⟨?_, ?_⟩)) rfl rfl (fun r hr => go tbl_ok false ?_)
  conv => whnf
  refine callP (curBelow d r.1 r.2.1 3 hr.1 (by decide)) hH hp rfl (by repeat' (first | exact trivial | exact outC_val _ _ | exact rfl | exact .inr ⟨rfl, rfl, _, _, rfl⟩ | refine ⟨?_, ?_⟩)) rfl rfl (fun r2 hr2 => go tbl_ok false ?_)
  conv => whnf
  refine ⟨fun c1 => ?_, fun c1 => ?_⟩ <;> conv => whnf
  · repeat' (first | (refine ite_f (by first | with_reducible rfl | assumption) ?_; conv => whnf) | (refine ite_t (by first | with_reducible rfl | assumption) ?_; conv => whnf) | (refine ⟨fun h => ?_, fun h => ?_⟩ <;> conv => whnf) | (refine ⟨by first | omega | (show _ ∧ _; omega) | ((repeat (first | rw [ByteArray.size_append] | rw [bsz] | rw [List.size_toArray] | rw [List.length_cons] | rw [List.length_nil])) <;> omega) | ((repeat rw [Int.toNat_natCast]) <;> first | omega | (show _ ∧ _; omega)) | (simp only [ByteArray.size_append, bsz, List.size_toArray, List.length_cons, List.length_nil]; omega) | (simp only [Int.toNat_natCast]; first | omega | (show _ ∧ _; omega)) | decide, ?_⟩; conv => whnf) | fail)
    refine drawA rfl ?_
    refine preA tbl_ok false 0 rfl rfl rfl (by kernel_rfl) rfl (andL_mem (by repeat' (first | exact trivial | refine ⟨?_, ?_⟩ | (show _ ∧ _; omega) | omega))) ?_
    refine preA tbl_ok false 3 rfl rfl rfl (by kernel_rfl) rfl (andL_mem (by repeat' (first | exact trivial | refine ⟨?_, ?_⟩ | (show _ ∧ _; omega) | omega))) ?_
    refine splitA [1, 4] (by kernel_rfl) ⟨?_, ?_, trivial⟩
    focus
      refine go tbl_ok false ?_
      conv => whnf
      refine loopA ?_
      refine preA tbl_ok false 2 rfl rfl rfl (by kernel_rfl) rfl (andL_mem (by repeat' (first | exact trivial | refine ⟨?_, ?_⟩ | (show _ ∧ _; omega) | omega))) ?_
      refine splitA [4] (by kernel_rfl) ⟨?_, trivial⟩
      refine go tbl_ok false ?_
      conv => whnf
      refine callP (curBelow d r2.1 r2.2.1 2 hr2.1 (by decide)) hH hp rfl (by repeat' (first | exact trivial | exact outC_val _ _ | exact rfl | exact .inr ⟨rfl, rfl, _, _, rfl⟩ | refine ⟨?_, ?_⟩)) rfl rfl (fun r3 hr3 => go tbl_ok false ?_)
      conv => whnf
      refine loopA ?_
      refine preA tbl_ok false 5 rfl rfl rfl (by kernel_rfl) rfl (andL_mem (by repeat' (first | exact trivial | refine ⟨?_, ?_⟩ | (show _ ∧ _; omega) | omega))) ?_
      refine preA tbl_ok false 6 rfl rfl rfl (by kernel_rfl) rfl (andL_mem (by repeat' (first | exact trivial | refine ⟨?_, ?_⟩ | (show _ ∧ _; omega) | omega))) ?_
      refine preA tbl_ok false 7 rfl rfl rfl (by kernel_rfl) rfl (andL_mem (by repeat' (first | exact trivial | refine ⟨?_, ?_⟩ | (show _ ∧ _; omega) | omega))) ?_
      refine splitA [8] (by kernel_rfl) ⟨?_, trivial⟩
      refine go tbl_ok false ?_
      conv => whnf
      refine loopA ?_
      refine doneA (by kernel_rfl) (go tbl_ok false ?_)
      conv => whnf
    rotate_left 1
    focus
      refine go tbl_ok false ?_
      conv => whnf
      refine callP (curBelow d r2.1 r2.2.1 2 hr2.1 (by decide)) hH hp rfl (by repeat' (first | exact trivial | exact outC_val _ _ | exact rfl | exact .inr ⟨rfl, rfl, _, _, rfl⟩ | refine ⟨?_, ?_⟩)) rfl rfl (fun r3 hr3 => go tbl_ok false ?_)
      conv => whnf
      refine loopA ?_
      refine splitA [1] (by kernel_rfl) ⟨?_, trivial⟩
      refine go tbl_ok false ?_
      conv => whnf
      refine loopA ?_
      refine preA tbl_ok false 2 rfl rfl rfl (by kernel_rfl) rfl (andL_mem (by repeat' (first | exact trivial | refine ⟨?_, ?_⟩ | (show _ ∧ _; omega) | omega))) ?_
      refine preA tbl_ok false 5 rfl rfl rfl (by kernel_rfl) rfl (andL_mem (by repeat' (first | exact trivial | refine ⟨?_, ?_⟩ | (show _ ∧ _; omega) | omega))) ?_
      refine preA tbl_ok false 6 rfl rfl rfl (by kernel_rfl) rfl (andL_mem (by repeat' (first | exact trivial | refine ⟨?_, ?_⟩ | (show _ ∧ _; omega) | omega))) ?_
      refine preA tbl_ok false 7 rfl rfl rfl (by kernel_rfl) rfl (andL_mem (by repeat' (first | exact trivial | refine ⟨?_, ?_⟩ | (show _ ∧ _; omega) | omega))) ?_
      refine splitA [8] (by kernel_rfl) ⟨?_, trivial⟩
      refine go tbl_ok false ?_
      conv => whnf
      refine loopA ?_
      refine doneA (by kernel_rfl) (go tbl_ok false ?_)
      conv => whnf
    · exact retP tbl_ok (r3.1, r3.2.1, ⟨[1, 1, 1, 2, 3, 3, 3, 4, 4, 5, 6, 6, 7].getD r.2.2 0, r2.2.2, (r2.2.2 + 1 + r3.2.2).tmod 3⟩) ⟨hr3.1, kinds_in _, ⟨by show _ ≤ r2.2.2; omega, by show r2.2.2 ≤ _; omega⟩, mod3_in _⟩ rfl rfl rfl rfl (by repeat' (first | exact trivial | exact outC_val _ _ | exact rfl | exact .inr ⟨rfl, rfl, _, _, rfl⟩ | refine ⟨?_, ?_⟩))
    · exact retP tbl_ok (r3.1, r3.2.1, ⟨[1, 1, 1, 2, 3, 3, 3, 4, 4, 5, 6, 6, 7].getD r.2.2 0, r2.2.2, (r2.2.2 + 1 + r3.2.2).tmod 3⟩) ⟨hr3.1, kinds_in _, ⟨by show _ ≤ r2.2.2; omega, by show r2.2.2 ≤ _; omega⟩, mod3_in _⟩ rfl rfl rfl rfl (by repeat' (first | exact trivial | exact outC_val _ _ | exact rfl | exact .inr ⟨rfl, rfl, _, _, rfl⟩ | refine ⟨?_, ?_⟩))
  · repeat' (first | (refine ite_f (by first | with_reducible rfl | assumption) ?_; conv => whnf) | (refine ite_t (by first | with_reducible rfl | assumption) ?_; conv => whnf) | (refine ⟨fun h => ?_, fun h => ?_⟩ <;> conv => whnf) | (refine ⟨by first | omega | (show _ ∧ _; omega) | ((repeat (first | rw [ByteArray.size_append] | rw [bsz] | rw [List.size_toArray] | rw [List.length_cons] | rw [List.length_nil])) <;> omega) | ((repeat rw [Int.toNat_natCast]) <;> first | omega | (show _ ∧ _; omega)) | (simp only [ByteArray.size_append, bsz, List.size_toArray, List.length_cons, List.length_nil]; omega) | (simp only [Int.toNat_natCast]; first | omega | (show _ ∧ _; omega)) | decide, ?_⟩; conv => whnf) | fail)
    · refine drawA rfl ?_
      refine preA tbl_ok false 0 rfl rfl rfl (by kernel_rfl) rfl (andL_mem (by repeat' (first | exact trivial | refine ⟨?_, ?_⟩ | (show _ ∧ _; omega) | omega))) ?_
      refine preA tbl_ok false 3 rfl rfl rfl (by kernel_rfl) rfl (andL_mem (by repeat' (first | exact trivial | refine ⟨?_, ?_⟩ | (show _ ∧ _; omega) | omega))) ?_
      refine splitA [1, 4] (by kernel_rfl) ⟨?_, ?_, trivial⟩
      focus
        refine go tbl_ok false ?_
        conv => whnf
        refine loopA ?_
        refine preA tbl_ok false 2 rfl rfl rfl (by kernel_rfl) rfl (andL_mem (by repeat' (first | exact trivial | refine ⟨?_, ?_⟩ | (show _ ∧ _; omega) | omega))) ?_
        refine splitA [4] (by kernel_rfl) ⟨?_, trivial⟩
        refine go tbl_ok false ?_
        conv => whnf
        refine callP (curBelow d r2.1 r2.2.1 2 hr2.1 (by decide)) hH hp rfl (by repeat' (first | exact trivial | exact outC_val _ _ | exact rfl | exact .inr ⟨rfl, rfl, _, _, rfl⟩ | refine ⟨?_, ?_⟩)) rfl rfl (fun r3 hr3 => go tbl_ok false ?_)
        conv => whnf
        refine loopA ?_
        refine preA tbl_ok false 5 rfl rfl rfl (by kernel_rfl) rfl (andL_mem (by repeat' (first | exact trivial | refine ⟨?_, ?_⟩ | (show _ ∧ _; omega) | omega))) ?_
        refine preA tbl_ok false 6 rfl rfl rfl (by kernel_rfl) rfl (andL_mem (by repeat' (first | exact trivial | refine ⟨?_, ?_⟩ | (show _ ∧ _; omega) | omega))) ?_
        refine preA tbl_ok false 7 rfl rfl rfl (by kernel_rfl) rfl (andL_mem (by repeat' (first | exact trivial | refine ⟨?_, ?_⟩ | (show _ ∧ _; omega) | omega))) ?_
        refine splitA [8] (by kernel_rfl) ⟨?_, trivial⟩
        refine go tbl_ok false ?_
        conv => whnf
        refine loopA ?_
        refine doneA (by kernel_rfl) (go tbl_ok false ?_)
        conv => whnf
      rotate_left 1
      focus
        refine go tbl_ok false ?_
        conv => whnf
        refine callP (curBelow d r2.1 r2.2.1 2 hr2.1 (by decide)) hH hp rfl (by repeat' (first | exact trivial | exact outC_val _ _ | exact rfl | exact .inr ⟨rfl, rfl, _, _, rfl⟩ | refine ⟨?_, ?_⟩)) rfl rfl (fun r3 hr3 => go tbl_ok false ?_)
        conv => whnf
        refine loopA ?_
        refine splitA [1] (by kernel_rfl) ⟨?_, trivial⟩
        refine go tbl_ok false ?_
        conv => whnf
        refine loopA ?_
        refine preA tbl_ok false 2 rfl rfl rfl (by kernel_rfl) rfl (andL_mem (by repeat' (first | exact trivial | refine ⟨?_, ?_⟩ | (show _ ∧ _; omega) | omega))) ?_
        refine preA tbl_ok false 5 rfl rfl rfl (by kernel_rfl) rfl (andL_mem (by repeat' (first | exact trivial | refine ⟨?_, ?_⟩ | (show _ ∧ _; omega) | omega))) ?_
        refine preA tbl_ok false 6 rfl rfl rfl (by kernel_rfl) rfl (andL_mem (by repeat' (first | exact trivial | refine ⟨?_, ?_⟩ | (show _ ∧ _; omega) | omega))) ?_
        refine preA tbl_ok false 7 rfl rfl rfl (by kernel_rfl) rfl (andL_mem (by repeat' (first | exact trivial | refine ⟨?_, ?_⟩ | (show _ ∧ _; omega) | omega))) ?_
        refine splitA [8] (by kernel_rfl) ⟨?_, trivial⟩
        refine go tbl_ok false ?_
        conv => whnf
        refine loopA ?_
        refine doneA (by kernel_rfl) (go tbl_ok false ?_)
        conv => whnf
      · exact retP tbl_ok (r3.1, r3.2.1, ⟨[1, 1, 1, 2, 3, 3, 3, 4, 4, 5, 6, 6, 7].getD r.2.2 0, r2.2.2, (r2.2.2 + 1 + r3.2.2).tmod 3⟩) ⟨hr3.1, kinds_in _, ⟨by show _ ≤ r2.2.2; omega, by show r2.2.2 ≤ _; omega⟩, mod3_in _⟩ rfl rfl rfl rfl (by repeat' (first | exact trivial | exact outC_val _ _ | exact rfl | exact .inr ⟨rfl, rfl, _, _, rfl⟩ | refine ⟨?_, ?_⟩))
      · exact retP tbl_ok (r3.1, r3.2.1, ⟨[1, 1, 1, 2, 3, 3, 3, 4, 4, 5, 6, 6, 7].getD r.2.2 0, r2.2.2, (r2.2.2 + 1 + r3.2.2).tmod 3⟩) ⟨hr3.1, kinds_in _, ⟨by show _ ≤ r2.2.2; omega, by show r2.2.2 ≤ _; omega⟩, mod3_in _⟩ rfl rfl rfl rfl (by repeat' (first | exact trivial | exact outC_val _ _ | exact rfl | exact .inr ⟨rfl, rfl, _, _, rfl⟩ | refine ⟨?_, ?_⟩))
    · exact retP tbl_ok (r2.1, r2.2.1, ⟨[1, 1, 1, 2, 3, 3, 3, 4, 4, 5, 6, 6, 7].getD r.2.2 0, r2.2.2, 0⟩) ⟨hr2.1, kinds_in _, ⟨by show _ ≤ r2.2.2; omega, by show r2.2.2 ≤ _; omega⟩, ⟨by show (-9223372036854775808 : Int) ≤ 0; decide, by show (0 : Int) ≤ 9223372036854775807; decide⟩⟩ rfl rfl rfl rfl (by repeat' (first | exact trivial | exact outC_val _ _ | exact rfl | exact .inr ⟨rfl, rfl, _, _, rfl⟩ | refine ⟨?_, ?_⟩))

theorem curPickL (d : DCode) (i h : Int) (hi : 0 ≤ i ∧ i ≤ d.n) : MeetsP Tryz.prog HT 92 d.pins (d.cur i h) [] (fun r : Int × Int × GPick => 0 ≤ r.1 ∧ r.1 ≤ d.n) (fun r => d.cur r.1 r.2.1) (fun r => [.agg r.2.2.c]) := (curPickO d i h hi).weak fun _ h => h.1

/-- Where a loop over drawn picks stands. -/
structure JPk where
  k : Nat
  i : Int
  h : Int
  xs : List GPick

end Go.Proofs.YtcpjpkcahnldfaaGreatDoor
