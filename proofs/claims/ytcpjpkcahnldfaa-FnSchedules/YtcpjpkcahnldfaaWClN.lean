/- Texts for the law FnSchedules: WClN. No conditions. -/
import Derived.Test.YtcpjpkcahnldfaaEng4
import Derived.Test.YtcpjpkcahnldfaaWPicks

set_option maxRecDepth 100000
namespace Go.Proofs.Ytcpjpkcahnldfaa
open Go.Sx
theorem linkNew (n : Int) : Meets Try.prog 41 [.one (vi n)] [.agg (GLink.c ⟨brought n 1 4, [], brought n 1 4, 0, 0, 0⟩)] := by
  refine enterW tbl_ok false Try.func41 rfl (by decide) fun W => ?_
  conv => whnf
  refine callR (specBrought n 1 4) rfl (go tbl_ok false ?_)
  conv => whnf
  exact retW tbl_ok rfl rfl (by repeat' (first | exact trivial | exact rfl | exact .inr ⟨rfl, rfl, _, _, rfl⟩ | refine ⟨?_, ?_⟩))

theorem getD_rep {α : Type} [Inhabited α] (x : α) (n i : Nat) (h : x = default) : (List.replicate n x).getD i default = x := by
  simp only [List.getD, List.getElem?_replicate]
  split
  · rfl
  · exact h.symm
theorem mk4_int : (Cell.sl 4 1 fun _ => [.val (.int .i64 0)]) = sInt (List.replicate 4 0) := congrArg (Cell.sl 4 1) (funext fun i => by rw [getD_rep (0 : Int) 4 i rfl])
theorem mk4_bool : (Cell.sl 4 1 fun _ => [.val (.bool false)]) = sBool (List.replicate 4 false) := congrArg (Cell.sl 4 1) (funext fun i => by rw [getD_rep false 4 i rfl])

def workerNew (xs : List GRecord) : GWorker := ⟨[], [], xs, [], List.replicate 4 0, List.replicate 4 false, List.replicate 4 false, []⟩

set_option maxHeartbeats 1600000 in
theorem specWorkerNew (xs : List GRecord) (hx : xs.length ≤ 1048576) : Meets Try.prog 39 [.one (sGRecord xs)] [.agg (workerNew xs).c] := by
  refine enterW tbl_ok false Try.func39 rfl (by decide) fun W => ?_
  conv => whnf
  refine drawA rfl ?_
  refine preA tbl_ok false 1 rfl rfl rfl (by kernel_rfl) rfl (andL_mem (by repeat' (first | exact trivial | refine ⟨?_, ?_⟩ | (show _ ∧ _; omega) | omega))) ?_
  refine preA tbl_ok false 3 rfl rfl rfl (by kernel_rfl) rfl (andL_mem (by repeat' (first | exact trivial | refine ⟨?_, ?_⟩ | (show _ ∧ _; omega) | omega))) ?_
  refine preA tbl_ok false 5 rfl rfl rfl (by kernel_rfl) rfl (andL_mem (by repeat' (first | exact trivial | refine ⟨?_, ?_⟩ | (show _ ∧ _; omega) | omega))) ?_
  refine preA tbl_ok false 7 rfl rfl rfl (by kernel_rfl) rfl (andL_mem (by repeat' (first | exact trivial | refine ⟨?_, ?_⟩ | (show _ ∧ _; omega) | omega))) ?_
  refine splitA [0, 4, 6, 8] (by kernel_rfl) ⟨?_, ?_, ?_, ?_, trivial⟩
  focus
    refine go tbl_ok false ?_
    conv => whnf
    refine loopA ?_
    refine splitA [2, 4, 6, 8] (by kernel_rfl) ⟨?_, ?_, ?_, ?_, trivial⟩
    focus
      refine go tbl_ok false ?_
      conv => whnf
      refine appW tbl_ok rfl rfl rfl rfl rfl rfl rfl rfl rfl rfl rfl (sGRecord xs) (nil_app) (fun _ => flat_recs xs) (by omega) (go tbl_ok false ?_)
      conv => whnf
      refine loopA ?_
      refine splitA [4, 6, 8] (by kernel_rfl) ⟨?_, ?_, ?_, trivial⟩
      focus
        refine go tbl_ok false ?_
        conv => whnf
        (repeat (refine ⟨by first | omega | (simp only [ByteArray.size_append, bsz, List.size_toArray, List.length_cons, List.length_nil]; omega) | (show _ ∧ _; omega) | (simp only [Int.toNat_natCast]; first | omega | (show _ ∧ _; omega)) | decide, ?_⟩; conv => whnf))
        refine loopA ?_
        refine splitA [6, 8] (by kernel_rfl) ⟨?_, ?_, trivial⟩
        focus
          refine go tbl_ok false ?_
          conv => whnf
          (repeat (refine ⟨by first | omega | (simp only [ByteArray.size_append, bsz, List.size_toArray, List.length_cons, List.length_nil]; omega) | (show _ ∧ _; omega) | (simp only [Int.toNat_natCast]; first | omega | (show _ ∧ _; omega)) | decide, ?_⟩; conv => whnf))
          refine loopA ?_
          refine splitA [8] (by kernel_rfl) ⟨?_, trivial⟩
          refine go tbl_ok false ?_
          conv => whnf
          (repeat (refine ⟨by first | omega | (simp only [ByteArray.size_append, bsz, List.size_toArray, List.length_cons, List.length_nil]; omega) | (show _ ∧ _; omega) | (simp only [Int.toNat_natCast]; first | omega | (show _ ∧ _; omega)) | decide, ?_⟩; conv => whnf))
          refine loopA ?_
          refine splitA [9] (by kernel_rfl) ⟨?_, trivial⟩
          refine go tbl_ok false ?_
          conv => whnf
          refine loopA ?_
          refine splitA [10] (by kernel_rfl) ⟨?_, trivial⟩
          refine go tbl_ok false ?_
          conv => whnf
          refine loopA ?_
          refine doneA (by kernel_rfl) (go tbl_ok false ?_)
          conv => whnf
        rotate_left 1
        focus
          refine go tbl_ok false ?_
          conv => whnf
          (repeat (refine ⟨by first | omega | (simp only [ByteArray.size_append, bsz, List.size_toArray, List.length_cons, List.length_nil]; omega) | (show _ ∧ _; omega) | (simp only [Int.toNat_natCast]; first | omega | (show _ ∧ _; omega)) | decide, ?_⟩; conv => whnf))
          refine loopA ?_
          refine splitA [6] (by kernel_rfl) ⟨?_, trivial⟩
          refine go tbl_ok false ?_
          conv => whnf
          (repeat (refine ⟨by first | omega | (simp only [ByteArray.size_append, bsz, List.size_toArray, List.length_cons, List.length_nil]; omega) | (show _ ∧ _; omega) | (simp only [Int.toNat_natCast]; first | omega | (show _ ∧ _; omega)) | decide, ?_⟩; conv => whnf))
          refine loopA ?_
          refine splitA [9] (by kernel_rfl) ⟨?_, trivial⟩
          refine go tbl_ok false ?_
          conv => whnf
          refine loopA ?_
          refine splitA [10] (by kernel_rfl) ⟨?_, trivial⟩
          refine go tbl_ok false ?_
          conv => whnf
          refine loopA ?_
          refine doneA (by kernel_rfl) (go tbl_ok false ?_)
          conv => whnf
      rotate_left 2
      focus
        refine go tbl_ok false ?_
        conv => whnf
        (repeat (refine ⟨by first | omega | (simp only [ByteArray.size_append, bsz, List.size_toArray, List.length_cons, List.length_nil]; omega) | (show _ ∧ _; omega) | (simp only [Int.toNat_natCast]; first | omega | (show _ ∧ _; omega)) | decide, ?_⟩; conv => whnf))
        refine loopA ?_
        refine splitA [4, 8] (by kernel_rfl) ⟨?_, ?_, trivial⟩
        focus
          refine go tbl_ok false ?_
          conv => whnf
          (repeat (refine ⟨by first | omega | (simp only [ByteArray.size_append, bsz, List.size_toArray, List.length_cons, List.length_nil]; omega) | (show _ ∧ _; omega) | (simp only [Int.toNat_natCast]; first | omega | (show _ ∧ _; omega)) | decide, ?_⟩; conv => whnf))
          refine loopA ?_
          refine splitA [8] (by kernel_rfl) ⟨?_, trivial⟩
          refine go tbl_ok false ?_
          conv => whnf
          (repeat (refine ⟨by first | omega | (simp only [ByteArray.size_append, bsz, List.size_toArray, List.length_cons, List.length_nil]; omega) | (show _ ∧ _; omega) | (simp only [Int.toNat_natCast]; first | omega | (show _ ∧ _; omega)) | decide, ?_⟩; conv => whnf))
          refine loopA ?_
          refine splitA [9] (by kernel_rfl) ⟨?_, trivial⟩
          refine go tbl_ok false ?_
          conv => whnf
          refine loopA ?_
          refine splitA [10] (by kernel_rfl) ⟨?_, trivial⟩
          refine go tbl_ok false ?_
          conv => whnf
          refine loopA ?_
          refine doneA (by kernel_rfl) (go tbl_ok false ?_)
          conv => whnf
        rotate_left 1
        focus
          refine go tbl_ok false ?_
          conv => whnf
          (repeat (refine ⟨by first | omega | (simp only [ByteArray.size_append, bsz, List.size_toArray, List.length_cons, List.length_nil]; omega) | (show _ ∧ _; omega) | (simp only [Int.toNat_natCast]; first | omega | (show _ ∧ _; omega)) | decide, ?_⟩; conv => whnf))
          refine loopA ?_
          refine splitA [4] (by kernel_rfl) ⟨?_, trivial⟩
          refine go tbl_ok false ?_
          conv => whnf
          (repeat (refine ⟨by first | omega | (simp only [ByteArray.size_append, bsz, List.size_toArray, List.length_cons, List.length_nil]; omega) | (show _ ∧ _; omega) | (simp only [Int.toNat_natCast]; first | omega | (show _ ∧ _; omega)) | decide, ?_⟩; conv => whnf))
          refine loopA ?_
          refine splitA [9] (by kernel_rfl) ⟨?_, trivial⟩
          refine go tbl_ok false ?_
          conv => whnf
          refine loopA ?_
          refine splitA [10] (by kernel_rfl) ⟨?_, trivial⟩
          refine go tbl_ok false ?_
          conv => whnf
          refine loopA ?_
          refine doneA (by kernel_rfl) (go tbl_ok false ?_)
          conv => whnf
      rotate_left 2
      focus
        refine go tbl_ok false ?_
        conv => whnf
        (repeat (refine ⟨by first | omega | (simp only [ByteArray.size_append, bsz, List.size_toArray, List.length_cons, List.length_nil]; omega) | (show _ ∧ _; omega) | (simp only [Int.toNat_natCast]; first | omega | (show _ ∧ _; omega)) | decide, ?_⟩; conv => whnf))
        refine loopA ?_
        refine splitA [4, 6] (by kernel_rfl) ⟨?_, ?_, trivial⟩
        focus
          refine go tbl_ok false ?_
          conv => whnf
          (repeat (refine ⟨by first | omega | (simp only [ByteArray.size_append, bsz, List.size_toArray, List.length_cons, List.length_nil]; omega) | (show _ ∧ _; omega) | (simp only [Int.toNat_natCast]; first | omega | (show _ ∧ _; omega)) | decide, ?_⟩; conv => whnf))
          refine loopA ?_
          refine splitA [6] (by kernel_rfl) ⟨?_, trivial⟩
          refine go tbl_ok false ?_
          conv => whnf
          (repeat (refine ⟨by first | omega | (simp only [ByteArray.size_append, bsz, List.size_toArray, List.length_cons, List.length_nil]; omega) | (show _ ∧ _; omega) | (simp only [Int.toNat_natCast]; first | omega | (show _ ∧ _; omega)) | decide, ?_⟩; conv => whnf))
          refine loopA ?_
          refine splitA [9] (by kernel_rfl) ⟨?_, trivial⟩
          refine go tbl_ok false ?_
          conv => whnf
          refine loopA ?_
          refine splitA [10] (by kernel_rfl) ⟨?_, trivial⟩
          refine go tbl_ok false ?_
          conv => whnf
          refine loopA ?_
          refine doneA (by kernel_rfl) (go tbl_ok false ?_)
          conv => whnf
        rotate_left 1
        focus
          refine go tbl_ok false ?_
          conv => whnf
          (repeat (refine ⟨by first | omega | (simp only [ByteArray.size_append, bsz, List.size_toArray, List.length_cons, List.length_nil]; omega) | (show _ ∧ _; omega) | (simp only [Int.toNat_natCast]; first | omega | (show _ ∧ _; omega)) | decide, ?_⟩; conv => whnf))
          refine loopA ?_
          refine splitA [4] (by kernel_rfl) ⟨?_, trivial⟩
          refine go tbl_ok false ?_
          conv => whnf
          (repeat (refine ⟨by first | omega | (simp only [ByteArray.size_append, bsz, List.size_toArray, List.length_cons, List.length_nil]; omega) | (show _ ∧ _; omega) | (simp only [Int.toNat_natCast]; first | omega | (show _ ∧ _; omega)) | decide, ?_⟩; conv => whnf))
          refine loopA ?_
          refine splitA [9] (by kernel_rfl) ⟨?_, trivial⟩
          refine go tbl_ok false ?_
          conv => whnf
          refine loopA ?_
          refine splitA [10] (by kernel_rfl) ⟨?_, trivial⟩
          refine go tbl_ok false ?_
          conv => whnf
          refine loopA ?_
          refine doneA (by kernel_rfl) (go tbl_ok false ?_)
          conv => whnf
    rotate_left 6
    focus
      refine go tbl_ok false ?_
      conv => whnf
      (repeat (refine ⟨by first | omega | (simp only [ByteArray.size_append, bsz, List.size_toArray, List.length_cons, List.length_nil]; omega) | (show _ ∧ _; omega) | (simp only [Int.toNat_natCast]; first | omega | (show _ ∧ _; omega)) | decide, ?_⟩; conv => whnf))
      refine loopA ?_
      refine splitA [2, 6, 8] (by kernel_rfl) ⟨?_, ?_, ?_, trivial⟩
      focus
        refine go tbl_ok false ?_
        conv => whnf
        refine appW tbl_ok rfl rfl rfl rfl rfl rfl rfl rfl rfl rfl rfl (sGRecord xs) (nil_app) (fun _ => flat_recs xs) (by omega) (go tbl_ok false ?_)
        conv => whnf
        refine loopA ?_
        refine splitA [6, 8] (by kernel_rfl) ⟨?_, ?_, trivial⟩
        focus
          refine go tbl_ok false ?_
          conv => whnf
          (repeat (refine ⟨by first | omega | (simp only [ByteArray.size_append, bsz, List.size_toArray, List.length_cons, List.length_nil]; omega) | (show _ ∧ _; omega) | (simp only [Int.toNat_natCast]; first | omega | (show _ ∧ _; omega)) | decide, ?_⟩; conv => whnf))
          refine loopA ?_
          refine splitA [8] (by kernel_rfl) ⟨?_, trivial⟩
          refine go tbl_ok false ?_
          conv => whnf
          (repeat (refine ⟨by first | omega | (simp only [ByteArray.size_append, bsz, List.size_toArray, List.length_cons, List.length_nil]; omega) | (show _ ∧ _; omega) | (simp only [Int.toNat_natCast]; first | omega | (show _ ∧ _; omega)) | decide, ?_⟩; conv => whnf))
          refine loopA ?_
          refine splitA [9] (by kernel_rfl) ⟨?_, trivial⟩
          refine go tbl_ok false ?_
          conv => whnf
          refine loopA ?_
          refine splitA [10] (by kernel_rfl) ⟨?_, trivial⟩
          refine go tbl_ok false ?_
          conv => whnf
          refine loopA ?_
          refine doneA (by kernel_rfl) (go tbl_ok false ?_)
          conv => whnf
        rotate_left 1
        focus
          refine go tbl_ok false ?_
          conv => whnf
          (repeat (refine ⟨by first | omega | (simp only [ByteArray.size_append, bsz, List.size_toArray, List.length_cons, List.length_nil]; omega) | (show _ ∧ _; omega) | (simp only [Int.toNat_natCast]; first | omega | (show _ ∧ _; omega)) | decide, ?_⟩; conv => whnf))
          refine loopA ?_
          refine splitA [6] (by kernel_rfl) ⟨?_, trivial⟩
          refine go tbl_ok false ?_
          conv => whnf
          (repeat (refine ⟨by first | omega | (simp only [ByteArray.size_append, bsz, List.size_toArray, List.length_cons, List.length_nil]; omega) | (show _ ∧ _; omega) | (simp only [Int.toNat_natCast]; first | omega | (show _ ∧ _; omega)) | decide, ?_⟩; conv => whnf))
          refine loopA ?_
          refine splitA [9] (by kernel_rfl) ⟨?_, trivial⟩
          refine go tbl_ok false ?_
          conv => whnf
          refine loopA ?_
          refine splitA [10] (by kernel_rfl) ⟨?_, trivial⟩
          refine go tbl_ok false ?_
          conv => whnf
          refine loopA ?_
          refine doneA (by kernel_rfl) (go tbl_ok false ?_)
          conv => whnf
      rotate_left 2
      focus
        refine go tbl_ok false ?_
        conv => whnf
        (repeat (refine ⟨by first | omega | (simp only [ByteArray.size_append, bsz, List.size_toArray, List.length_cons, List.length_nil]; omega) | (show _ ∧ _; omega) | (simp only [Int.toNat_natCast]; first | omega | (show _ ∧ _; omega)) | decide, ?_⟩; conv => whnf))
        refine loopA ?_
        refine splitA [2, 8] (by kernel_rfl) ⟨?_, ?_, trivial⟩
        focus
          refine go tbl_ok false ?_
          conv => whnf
          refine appW tbl_ok rfl rfl rfl rfl rfl rfl rfl rfl rfl rfl rfl (sGRecord xs) (nil_app) (fun _ => flat_recs xs) (by omega) (go tbl_ok false ?_)
          conv => whnf
          refine loopA ?_
          refine splitA [8] (by kernel_rfl) ⟨?_, trivial⟩
          refine go tbl_ok false ?_
          conv => whnf
          (repeat (refine ⟨by first | omega | (simp only [ByteArray.size_append, bsz, List.size_toArray, List.length_cons, List.length_nil]; omega) | (show _ ∧ _; omega) | (simp only [Int.toNat_natCast]; first | omega | (show _ ∧ _; omega)) | decide, ?_⟩; conv => whnf))
          refine loopA ?_
          refine splitA [9] (by kernel_rfl) ⟨?_, trivial⟩
          refine go tbl_ok false ?_
          conv => whnf
          refine loopA ?_
          refine splitA [10] (by kernel_rfl) ⟨?_, trivial⟩
          refine go tbl_ok false ?_
          conv => whnf
          refine loopA ?_
          refine doneA (by kernel_rfl) (go tbl_ok false ?_)
          conv => whnf
        rotate_left 1
        focus
          refine go tbl_ok false ?_
          conv => whnf
          (repeat (refine ⟨by first | omega | (simp only [ByteArray.size_append, bsz, List.size_toArray, List.length_cons, List.length_nil]; omega) | (show _ ∧ _; omega) | (simp only [Int.toNat_natCast]; first | omega | (show _ ∧ _; omega)) | decide, ?_⟩; conv => whnf))
          refine loopA ?_
          refine splitA [2] (by kernel_rfl) ⟨?_, trivial⟩
          refine go tbl_ok false ?_
          conv => whnf
          refine appW tbl_ok rfl rfl rfl rfl rfl rfl rfl rfl rfl rfl rfl (sGRecord xs) (nil_app) (fun _ => flat_recs xs) (by omega) (go tbl_ok false ?_)
          conv => whnf
          refine loopA ?_
          refine splitA [9] (by kernel_rfl) ⟨?_, trivial⟩
          refine go tbl_ok false ?_
          conv => whnf
          refine loopA ?_
          refine splitA [10] (by kernel_rfl) ⟨?_, trivial⟩
          refine go tbl_ok false ?_
          conv => whnf
          refine loopA ?_
          refine doneA (by kernel_rfl) (go tbl_ok false ?_)
          conv => whnf
      rotate_left 2
      focus
        refine go tbl_ok false ?_
        conv => whnf
        (repeat (refine ⟨by first | omega | (simp only [ByteArray.size_append, bsz, List.size_toArray, List.length_cons, List.length_nil]; omega) | (show _ ∧ _; omega) | (simp only [Int.toNat_natCast]; first | omega | (show _ ∧ _; omega)) | decide, ?_⟩; conv => whnf))
        refine loopA ?_
        refine splitA [2, 6] (by kernel_rfl) ⟨?_, ?_, trivial⟩
        focus
          refine go tbl_ok false ?_
          conv => whnf
          refine appW tbl_ok rfl rfl rfl rfl rfl rfl rfl rfl rfl rfl rfl (sGRecord xs) (nil_app) (fun _ => flat_recs xs) (by omega) (go tbl_ok false ?_)
          conv => whnf
          refine loopA ?_
          refine splitA [6] (by kernel_rfl) ⟨?_, trivial⟩
          refine go tbl_ok false ?_
          conv => whnf
          (repeat (refine ⟨by first | omega | (simp only [ByteArray.size_append, bsz, List.size_toArray, List.length_cons, List.length_nil]; omega) | (show _ ∧ _; omega) | (simp only [Int.toNat_natCast]; first | omega | (show _ ∧ _; omega)) | decide, ?_⟩; conv => whnf))
          refine loopA ?_
          refine splitA [9] (by kernel_rfl) ⟨?_, trivial⟩
          refine go tbl_ok false ?_
          conv => whnf
          refine loopA ?_
          refine splitA [10] (by kernel_rfl) ⟨?_, trivial⟩
          refine go tbl_ok false ?_
          conv => whnf
          refine loopA ?_
          refine doneA (by kernel_rfl) (go tbl_ok false ?_)
          conv => whnf
        rotate_left 1
        focus
          refine go tbl_ok false ?_
          conv => whnf
          (repeat (refine ⟨by first | omega | (simp only [ByteArray.size_append, bsz, List.size_toArray, List.length_cons, List.length_nil]; omega) | (show _ ∧ _; omega) | (simp only [Int.toNat_natCast]; first | omega | (show _ ∧ _; omega)) | decide, ?_⟩; conv => whnf))
          refine loopA ?_
          refine splitA [2] (by kernel_rfl) ⟨?_, trivial⟩
          refine go tbl_ok false ?_
          conv => whnf
          refine appW tbl_ok rfl rfl rfl rfl rfl rfl rfl rfl rfl rfl rfl (sGRecord xs) (nil_app) (fun _ => flat_recs xs) (by omega) (go tbl_ok false ?_)
          conv => whnf
          refine loopA ?_
          refine splitA [9] (by kernel_rfl) ⟨?_, trivial⟩
          refine go tbl_ok false ?_
          conv => whnf
          refine loopA ?_
          refine splitA [10] (by kernel_rfl) ⟨?_, trivial⟩
          refine go tbl_ok false ?_
          conv => whnf
          refine loopA ?_
          refine doneA (by kernel_rfl) (go tbl_ok false ?_)
          conv => whnf
    rotate_left 6
    focus
      refine go tbl_ok false ?_
      conv => whnf
      (repeat (refine ⟨by first | omega | (simp only [ByteArray.size_append, bsz, List.size_toArray, List.length_cons, List.length_nil]; omega) | (show _ ∧ _; omega) | (simp only [Int.toNat_natCast]; first | omega | (show _ ∧ _; omega)) | decide, ?_⟩; conv => whnf))
      refine loopA ?_
      refine splitA [2, 4, 8] (by kernel_rfl) ⟨?_, ?_, ?_, trivial⟩
      focus
        refine go tbl_ok false ?_
        conv => whnf
        refine appW tbl_ok rfl rfl rfl rfl rfl rfl rfl rfl rfl rfl rfl (sGRecord xs) (nil_app) (fun _ => flat_recs xs) (by omega) (go tbl_ok false ?_)
        conv => whnf
        refine loopA ?_
        refine splitA [4, 8] (by kernel_rfl) ⟨?_, ?_, trivial⟩
        focus
          refine go tbl_ok false ?_
          conv => whnf
          (repeat (refine ⟨by first | omega | (simp only [ByteArray.size_append, bsz, List.size_toArray, List.length_cons, List.length_nil]; omega) | (show _ ∧ _; omega) | (simp only [Int.toNat_natCast]; first | omega | (show _ ∧ _; omega)) | decide, ?_⟩; conv => whnf))
          refine loopA ?_
          refine splitA [8] (by kernel_rfl) ⟨?_, trivial⟩
          refine go tbl_ok false ?_
          conv => whnf
          (repeat (refine ⟨by first | omega | (simp only [ByteArray.size_append, bsz, List.size_toArray, List.length_cons, List.length_nil]; omega) | (show _ ∧ _; omega) | (simp only [Int.toNat_natCast]; first | omega | (show _ ∧ _; omega)) | decide, ?_⟩; conv => whnf))
          refine loopA ?_
          refine splitA [9] (by kernel_rfl) ⟨?_, trivial⟩
          refine go tbl_ok false ?_
          conv => whnf
          refine loopA ?_
          refine splitA [10] (by kernel_rfl) ⟨?_, trivial⟩
          refine go tbl_ok false ?_
          conv => whnf
          refine loopA ?_
          refine doneA (by kernel_rfl) (go tbl_ok false ?_)
          conv => whnf
        rotate_left 1
        focus
          refine go tbl_ok false ?_
          conv => whnf
          (repeat (refine ⟨by first | omega | (simp only [ByteArray.size_append, bsz, List.size_toArray, List.length_cons, List.length_nil]; omega) | (show _ ∧ _; omega) | (simp only [Int.toNat_natCast]; first | omega | (show _ ∧ _; omega)) | decide, ?_⟩; conv => whnf))
          refine loopA ?_
          refine splitA [4] (by kernel_rfl) ⟨?_, trivial⟩
          refine go tbl_ok false ?_
          conv => whnf
          (repeat (refine ⟨by first | omega | (simp only [ByteArray.size_append, bsz, List.size_toArray, List.length_cons, List.length_nil]; omega) | (show _ ∧ _; omega) | (simp only [Int.toNat_natCast]; first | omega | (show _ ∧ _; omega)) | decide, ?_⟩; conv => whnf))
          refine loopA ?_
          refine splitA [9] (by kernel_rfl) ⟨?_, trivial⟩
          refine go tbl_ok false ?_
          conv => whnf
          refine loopA ?_
          refine splitA [10] (by kernel_rfl) ⟨?_, trivial⟩
          refine go tbl_ok false ?_
          conv => whnf
          refine loopA ?_
          refine doneA (by kernel_rfl) (go tbl_ok false ?_)
          conv => whnf
      rotate_left 2
      focus
        refine go tbl_ok false ?_
        conv => whnf
        (repeat (refine ⟨by first | omega | (simp only [ByteArray.size_append, bsz, List.size_toArray, List.length_cons, List.length_nil]; omega) | (show _ ∧ _; omega) | (simp only [Int.toNat_natCast]; first | omega | (show _ ∧ _; omega)) | decide, ?_⟩; conv => whnf))
        refine loopA ?_
        refine splitA [2, 8] (by kernel_rfl) ⟨?_, ?_, trivial⟩
        focus
          refine go tbl_ok false ?_
          conv => whnf
          refine appW tbl_ok rfl rfl rfl rfl rfl rfl rfl rfl rfl rfl rfl (sGRecord xs) (nil_app) (fun _ => flat_recs xs) (by omega) (go tbl_ok false ?_)
          conv => whnf
          refine loopA ?_
          refine splitA [8] (by kernel_rfl) ⟨?_, trivial⟩
          refine go tbl_ok false ?_
          conv => whnf
          (repeat (refine ⟨by first | omega | (simp only [ByteArray.size_append, bsz, List.size_toArray, List.length_cons, List.length_nil]; omega) | (show _ ∧ _; omega) | (simp only [Int.toNat_natCast]; first | omega | (show _ ∧ _; omega)) | decide, ?_⟩; conv => whnf))
          refine loopA ?_
          refine splitA [9] (by kernel_rfl) ⟨?_, trivial⟩
          refine go tbl_ok false ?_
          conv => whnf
          refine loopA ?_
          refine splitA [10] (by kernel_rfl) ⟨?_, trivial⟩
          refine go tbl_ok false ?_
          conv => whnf
          refine loopA ?_
          refine doneA (by kernel_rfl) (go tbl_ok false ?_)
          conv => whnf
        rotate_left 1
        focus
          refine go tbl_ok false ?_
          conv => whnf
          (repeat (refine ⟨by first | omega | (simp only [ByteArray.size_append, bsz, List.size_toArray, List.length_cons, List.length_nil]; omega) | (show _ ∧ _; omega) | (simp only [Int.toNat_natCast]; first | omega | (show _ ∧ _; omega)) | decide, ?_⟩; conv => whnf))
          refine loopA ?_
          refine splitA [2] (by kernel_rfl) ⟨?_, trivial⟩
          refine go tbl_ok false ?_
          conv => whnf
          refine appW tbl_ok rfl rfl rfl rfl rfl rfl rfl rfl rfl rfl rfl (sGRecord xs) (nil_app) (fun _ => flat_recs xs) (by omega) (go tbl_ok false ?_)
          conv => whnf
          refine loopA ?_
          refine splitA [9] (by kernel_rfl) ⟨?_, trivial⟩
          refine go tbl_ok false ?_
          conv => whnf
          refine loopA ?_
          refine splitA [10] (by kernel_rfl) ⟨?_, trivial⟩
          refine go tbl_ok false ?_
          conv => whnf
          refine loopA ?_
          refine doneA (by kernel_rfl) (go tbl_ok false ?_)
          conv => whnf
      rotate_left 2
      focus
        refine go tbl_ok false ?_
        conv => whnf
        (repeat (refine ⟨by first | omega | (simp only [ByteArray.size_append, bsz, List.size_toArray, List.length_cons, List.length_nil]; omega) | (show _ ∧ _; omega) | (simp only [Int.toNat_natCast]; first | omega | (show _ ∧ _; omega)) | decide, ?_⟩; conv => whnf))
        refine loopA ?_
        refine splitA [2, 4] (by kernel_rfl) ⟨?_, ?_, trivial⟩
        focus
          refine go tbl_ok false ?_
          conv => whnf
          refine appW tbl_ok rfl rfl rfl rfl rfl rfl rfl rfl rfl rfl rfl (sGRecord xs) (nil_app) (fun _ => flat_recs xs) (by omega) (go tbl_ok false ?_)
          conv => whnf
          refine loopA ?_
          refine splitA [4] (by kernel_rfl) ⟨?_, trivial⟩
          refine go tbl_ok false ?_
          conv => whnf
          (repeat (refine ⟨by first | omega | (simp only [ByteArray.size_append, bsz, List.size_toArray, List.length_cons, List.length_nil]; omega) | (show _ ∧ _; omega) | (simp only [Int.toNat_natCast]; first | omega | (show _ ∧ _; omega)) | decide, ?_⟩; conv => whnf))
          refine loopA ?_
          refine splitA [9] (by kernel_rfl) ⟨?_, trivial⟩
          refine go tbl_ok false ?_
          conv => whnf
          refine loopA ?_
          refine splitA [10] (by kernel_rfl) ⟨?_, trivial⟩
          refine go tbl_ok false ?_
          conv => whnf
          refine loopA ?_
          refine doneA (by kernel_rfl) (go tbl_ok false ?_)
          conv => whnf
        rotate_left 1
        focus
          refine go tbl_ok false ?_
          conv => whnf
          (repeat (refine ⟨by first | omega | (simp only [ByteArray.size_append, bsz, List.size_toArray, List.length_cons, List.length_nil]; omega) | (show _ ∧ _; omega) | (simp only [Int.toNat_natCast]; first | omega | (show _ ∧ _; omega)) | decide, ?_⟩; conv => whnf))
          refine loopA ?_
          refine splitA [2] (by kernel_rfl) ⟨?_, trivial⟩
          refine go tbl_ok false ?_
          conv => whnf
          refine appW tbl_ok rfl rfl rfl rfl rfl rfl rfl rfl rfl rfl rfl (sGRecord xs) (nil_app) (fun _ => flat_recs xs) (by omega) (go tbl_ok false ?_)
          conv => whnf
          refine loopA ?_
          refine splitA [9] (by kernel_rfl) ⟨?_, trivial⟩
          refine go tbl_ok false ?_
          conv => whnf
          refine loopA ?_
          refine splitA [10] (by kernel_rfl) ⟨?_, trivial⟩
          refine go tbl_ok false ?_
          conv => whnf
          refine loopA ?_
          refine doneA (by kernel_rfl) (go tbl_ok false ?_)
          conv => whnf
    rotate_left 6
    focus
      refine go tbl_ok false ?_
      conv => whnf
      (repeat (refine ⟨by first | omega | (simp only [ByteArray.size_append, bsz, List.size_toArray, List.length_cons, List.length_nil]; omega) | (show _ ∧ _; omega) | (simp only [Int.toNat_natCast]; first | omega | (show _ ∧ _; omega)) | decide, ?_⟩; conv => whnf))
      refine loopA ?_
      refine splitA [2, 4, 6] (by kernel_rfl) ⟨?_, ?_, ?_, trivial⟩
      focus
        refine go tbl_ok false ?_
        conv => whnf
        refine appW tbl_ok rfl rfl rfl rfl rfl rfl rfl rfl rfl rfl rfl (sGRecord xs) (nil_app) (fun _ => flat_recs xs) (by omega) (go tbl_ok false ?_)
        conv => whnf
        refine loopA ?_
        refine splitA [4, 6] (by kernel_rfl) ⟨?_, ?_, trivial⟩
        focus
          refine go tbl_ok false ?_
          conv => whnf
          (repeat (refine ⟨by first | omega | (simp only [ByteArray.size_append, bsz, List.size_toArray, List.length_cons, List.length_nil]; omega) | (show _ ∧ _; omega) | (simp only [Int.toNat_natCast]; first | omega | (show _ ∧ _; omega)) | decide, ?_⟩; conv => whnf))
          refine loopA ?_
          refine splitA [6] (by kernel_rfl) ⟨?_, trivial⟩
          refine go tbl_ok false ?_
          conv => whnf
          (repeat (refine ⟨by first | omega | (simp only [ByteArray.size_append, bsz, List.size_toArray, List.length_cons, List.length_nil]; omega) | (show _ ∧ _; omega) | (simp only [Int.toNat_natCast]; first | omega | (show _ ∧ _; omega)) | decide, ?_⟩; conv => whnf))
          refine loopA ?_
          refine splitA [9] (by kernel_rfl) ⟨?_, trivial⟩
          refine go tbl_ok false ?_
          conv => whnf
          refine loopA ?_
          refine splitA [10] (by kernel_rfl) ⟨?_, trivial⟩
          refine go tbl_ok false ?_
          conv => whnf
          refine loopA ?_
          refine doneA (by kernel_rfl) (go tbl_ok false ?_)
          conv => whnf
        rotate_left 1
        focus
          refine go tbl_ok false ?_
          conv => whnf
          (repeat (refine ⟨by first | omega | (simp only [ByteArray.size_append, bsz, List.size_toArray, List.length_cons, List.length_nil]; omega) | (show _ ∧ _; omega) | (simp only [Int.toNat_natCast]; first | omega | (show _ ∧ _; omega)) | decide, ?_⟩; conv => whnf))
          refine loopA ?_
          refine splitA [4] (by kernel_rfl) ⟨?_, trivial⟩
          refine go tbl_ok false ?_
          conv => whnf
          (repeat (refine ⟨by first | omega | (simp only [ByteArray.size_append, bsz, List.size_toArray, List.length_cons, List.length_nil]; omega) | (show _ ∧ _; omega) | (simp only [Int.toNat_natCast]; first | omega | (show _ ∧ _; omega)) | decide, ?_⟩; conv => whnf))
          refine loopA ?_
          refine splitA [9] (by kernel_rfl) ⟨?_, trivial⟩
          refine go tbl_ok false ?_
          conv => whnf
          refine loopA ?_
          refine splitA [10] (by kernel_rfl) ⟨?_, trivial⟩
          refine go tbl_ok false ?_
          conv => whnf
          refine loopA ?_
          refine doneA (by kernel_rfl) (go tbl_ok false ?_)
          conv => whnf
      rotate_left 2
      focus
        refine go tbl_ok false ?_
        conv => whnf
        (repeat (refine ⟨by first | omega | (simp only [ByteArray.size_append, bsz, List.size_toArray, List.length_cons, List.length_nil]; omega) | (show _ ∧ _; omega) | (simp only [Int.toNat_natCast]; first | omega | (show _ ∧ _; omega)) | decide, ?_⟩; conv => whnf))
        refine loopA ?_
        refine splitA [2, 6] (by kernel_rfl) ⟨?_, ?_, trivial⟩
        focus
          refine go tbl_ok false ?_
          conv => whnf
          refine appW tbl_ok rfl rfl rfl rfl rfl rfl rfl rfl rfl rfl rfl (sGRecord xs) (nil_app) (fun _ => flat_recs xs) (by omega) (go tbl_ok false ?_)
          conv => whnf
          refine loopA ?_
          refine splitA [6] (by kernel_rfl) ⟨?_, trivial⟩
          refine go tbl_ok false ?_
          conv => whnf
          (repeat (refine ⟨by first | omega | (simp only [ByteArray.size_append, bsz, List.size_toArray, List.length_cons, List.length_nil]; omega) | (show _ ∧ _; omega) | (simp only [Int.toNat_natCast]; first | omega | (show _ ∧ _; omega)) | decide, ?_⟩; conv => whnf))
          refine loopA ?_
          refine splitA [9] (by kernel_rfl) ⟨?_, trivial⟩
          refine go tbl_ok false ?_
          conv => whnf
          refine loopA ?_
          refine splitA [10] (by kernel_rfl) ⟨?_, trivial⟩
          refine go tbl_ok false ?_
          conv => whnf
          refine loopA ?_
          refine doneA (by kernel_rfl) (go tbl_ok false ?_)
          conv => whnf
        rotate_left 1
        focus
          refine go tbl_ok false ?_
          conv => whnf
          (repeat (refine ⟨by first | omega | (simp only [ByteArray.size_append, bsz, List.size_toArray, List.length_cons, List.length_nil]; omega) | (show _ ∧ _; omega) | (simp only [Int.toNat_natCast]; first | omega | (show _ ∧ _; omega)) | decide, ?_⟩; conv => whnf))
          refine loopA ?_
          refine splitA [2] (by kernel_rfl) ⟨?_, trivial⟩
          refine go tbl_ok false ?_
          conv => whnf
          refine appW tbl_ok rfl rfl rfl rfl rfl rfl rfl rfl rfl rfl rfl (sGRecord xs) (nil_app) (fun _ => flat_recs xs) (by omega) (go tbl_ok false ?_)
          conv => whnf
          refine loopA ?_
          refine splitA [9] (by kernel_rfl) ⟨?_, trivial⟩
          refine go tbl_ok false ?_
          conv => whnf
          refine loopA ?_
          refine splitA [10] (by kernel_rfl) ⟨?_, trivial⟩
          refine go tbl_ok false ?_
          conv => whnf
          refine loopA ?_
          refine doneA (by kernel_rfl) (go tbl_ok false ?_)
          conv => whnf
      rotate_left 2
      focus
        refine go tbl_ok false ?_
        conv => whnf
        (repeat (refine ⟨by first | omega | (simp only [ByteArray.size_append, bsz, List.size_toArray, List.length_cons, List.length_nil]; omega) | (show _ ∧ _; omega) | (simp only [Int.toNat_natCast]; first | omega | (show _ ∧ _; omega)) | decide, ?_⟩; conv => whnf))
        refine loopA ?_
        refine splitA [2, 4] (by kernel_rfl) ⟨?_, ?_, trivial⟩
        focus
          refine go tbl_ok false ?_
          conv => whnf
          refine appW tbl_ok rfl rfl rfl rfl rfl rfl rfl rfl rfl rfl rfl (sGRecord xs) (nil_app) (fun _ => flat_recs xs) (by omega) (go tbl_ok false ?_)
          conv => whnf
          refine loopA ?_
          refine splitA [4] (by kernel_rfl) ⟨?_, trivial⟩
          refine go tbl_ok false ?_
          conv => whnf
          (repeat (refine ⟨by first | omega | (simp only [ByteArray.size_append, bsz, List.size_toArray, List.length_cons, List.length_nil]; omega) | (show _ ∧ _; omega) | (simp only [Int.toNat_natCast]; first | omega | (show _ ∧ _; omega)) | decide, ?_⟩; conv => whnf))
          refine loopA ?_
          refine splitA [9] (by kernel_rfl) ⟨?_, trivial⟩
          refine go tbl_ok false ?_
          conv => whnf
          refine loopA ?_
          refine splitA [10] (by kernel_rfl) ⟨?_, trivial⟩
          refine go tbl_ok false ?_
          conv => whnf
          refine loopA ?_
          refine doneA (by kernel_rfl) (go tbl_ok false ?_)
          conv => whnf
        rotate_left 1
        focus
          refine go tbl_ok false ?_
          conv => whnf
          (repeat (refine ⟨by first | omega | (simp only [ByteArray.size_append, bsz, List.size_toArray, List.length_cons, List.length_nil]; omega) | (show _ ∧ _; omega) | (simp only [Int.toNat_natCast]; first | omega | (show _ ∧ _; omega)) | decide, ?_⟩; conv => whnf))
          refine loopA ?_
          refine splitA [2] (by kernel_rfl) ⟨?_, trivial⟩
          refine go tbl_ok false ?_
          conv => whnf
          refine appW tbl_ok rfl rfl rfl rfl rfl rfl rfl rfl rfl rfl rfl (sGRecord xs) (nil_app) (fun _ => flat_recs xs) (by omega) (go tbl_ok false ?_)
          conv => whnf
          refine loopA ?_
          refine splitA [9] (by kernel_rfl) ⟨?_, trivial⟩
          refine go tbl_ok false ?_
          conv => whnf
          refine loopA ?_
          refine splitA [10] (by kernel_rfl) ⟨?_, trivial⟩
          refine go tbl_ok false ?_
          conv => whnf
          refine loopA ?_
          refine doneA (by kernel_rfl) (go tbl_ok false ?_)
          conv => whnf
  rotate_left 24
  focus
    refine go tbl_ok false ?_
    conv => whnf
    (repeat (refine ⟨by first | omega | (simp only [ByteArray.size_append, bsz, List.size_toArray, List.length_cons, List.length_nil]; omega) | (show _ ∧ _; omega) | (simp only [Int.toNat_natCast]; first | omega | (show _ ∧ _; omega)) | decide, ?_⟩; conv => whnf))
    refine loopA ?_
    refine splitA [0, 6, 8] (by kernel_rfl) ⟨?_, ?_, ?_, trivial⟩
    focus
      refine go tbl_ok false ?_
      conv => whnf
      refine loopA ?_
      refine splitA [2, 6, 8] (by kernel_rfl) ⟨?_, ?_, ?_, trivial⟩
      focus
        refine go tbl_ok false ?_
        conv => whnf
        refine appW tbl_ok rfl rfl rfl rfl rfl rfl rfl rfl rfl rfl rfl (sGRecord xs) (nil_app) (fun _ => flat_recs xs) (by omega) (go tbl_ok false ?_)
        conv => whnf
        refine loopA ?_
        refine splitA [6, 8] (by kernel_rfl) ⟨?_, ?_, trivial⟩
        focus
          refine go tbl_ok false ?_
          conv => whnf
          (repeat (refine ⟨by first | omega | (simp only [ByteArray.size_append, bsz, List.size_toArray, List.length_cons, List.length_nil]; omega) | (show _ ∧ _; omega) | (simp only [Int.toNat_natCast]; first | omega | (show _ ∧ _; omega)) | decide, ?_⟩; conv => whnf))
          refine loopA ?_
          refine splitA [8] (by kernel_rfl) ⟨?_, trivial⟩
          refine go tbl_ok false ?_
          conv => whnf
          (repeat (refine ⟨by first | omega | (simp only [ByteArray.size_append, bsz, List.size_toArray, List.length_cons, List.length_nil]; omega) | (show _ ∧ _; omega) | (simp only [Int.toNat_natCast]; first | omega | (show _ ∧ _; omega)) | decide, ?_⟩; conv => whnf))
          refine loopA ?_
          refine splitA [9] (by kernel_rfl) ⟨?_, trivial⟩
          refine go tbl_ok false ?_
          conv => whnf
          refine loopA ?_
          refine splitA [10] (by kernel_rfl) ⟨?_, trivial⟩
          refine go tbl_ok false ?_
          conv => whnf
          refine loopA ?_
          refine doneA (by kernel_rfl) (go tbl_ok false ?_)
          conv => whnf
        rotate_left 1
        focus
          refine go tbl_ok false ?_
          conv => whnf
          (repeat (refine ⟨by first | omega | (simp only [ByteArray.size_append, bsz, List.size_toArray, List.length_cons, List.length_nil]; omega) | (show _ ∧ _; omega) | (simp only [Int.toNat_natCast]; first | omega | (show _ ∧ _; omega)) | decide, ?_⟩; conv => whnf))
          refine loopA ?_
          refine splitA [6] (by kernel_rfl) ⟨?_, trivial⟩
          refine go tbl_ok false ?_
          conv => whnf
          (repeat (refine ⟨by first | omega | (simp only [ByteArray.size_append, bsz, List.size_toArray, List.length_cons, List.length_nil]; omega) | (show _ ∧ _; omega) | (simp only [Int.toNat_natCast]; first | omega | (show _ ∧ _; omega)) | decide, ?_⟩; conv => whnf))
          refine loopA ?_
          refine splitA [9] (by kernel_rfl) ⟨?_, trivial⟩
          refine go tbl_ok false ?_
          conv => whnf
          refine loopA ?_
          refine splitA [10] (by kernel_rfl) ⟨?_, trivial⟩
          refine go tbl_ok false ?_
          conv => whnf
          refine loopA ?_
          refine doneA (by kernel_rfl) (go tbl_ok false ?_)
          conv => whnf
      rotate_left 2
      focus
        refine go tbl_ok false ?_
        conv => whnf
        (repeat (refine ⟨by first | omega | (simp only [ByteArray.size_append, bsz, List.size_toArray, List.length_cons, List.length_nil]; omega) | (show _ ∧ _; omega) | (simp only [Int.toNat_natCast]; first | omega | (show _ ∧ _; omega)) | decide, ?_⟩; conv => whnf))
        refine loopA ?_
        refine splitA [2, 8] (by kernel_rfl) ⟨?_, ?_, trivial⟩
        focus
          refine go tbl_ok false ?_
          conv => whnf
          refine appW tbl_ok rfl rfl rfl rfl rfl rfl rfl rfl rfl rfl rfl (sGRecord xs) (nil_app) (fun _ => flat_recs xs) (by omega) (go tbl_ok false ?_)
          conv => whnf
          refine loopA ?_
          refine splitA [8] (by kernel_rfl) ⟨?_, trivial⟩
          refine go tbl_ok false ?_
          conv => whnf
          (repeat (refine ⟨by first | omega | (simp only [ByteArray.size_append, bsz, List.size_toArray, List.length_cons, List.length_nil]; omega) | (show _ ∧ _; omega) | (simp only [Int.toNat_natCast]; first | omega | (show _ ∧ _; omega)) | decide, ?_⟩; conv => whnf))
          refine loopA ?_
          refine splitA [9] (by kernel_rfl) ⟨?_, trivial⟩
          refine go tbl_ok false ?_
          conv => whnf
          refine loopA ?_
          refine splitA [10] (by kernel_rfl) ⟨?_, trivial⟩
          refine go tbl_ok false ?_
          conv => whnf
          refine loopA ?_
          refine doneA (by kernel_rfl) (go tbl_ok false ?_)
          conv => whnf
        rotate_left 1
        focus
          refine go tbl_ok false ?_
          conv => whnf
          (repeat (refine ⟨by first | omega | (simp only [ByteArray.size_append, bsz, List.size_toArray, List.length_cons, List.length_nil]; omega) | (show _ ∧ _; omega) | (simp only [Int.toNat_natCast]; first | omega | (show _ ∧ _; omega)) | decide, ?_⟩; conv => whnf))
          refine loopA ?_
          refine splitA [2] (by kernel_rfl) ⟨?_, trivial⟩
          refine go tbl_ok false ?_
          conv => whnf
          refine appW tbl_ok rfl rfl rfl rfl rfl rfl rfl rfl rfl rfl rfl (sGRecord xs) (nil_app) (fun _ => flat_recs xs) (by omega) (go tbl_ok false ?_)
          conv => whnf
          refine loopA ?_
          refine splitA [9] (by kernel_rfl) ⟨?_, trivial⟩
          refine go tbl_ok false ?_
          conv => whnf
          refine loopA ?_
          refine splitA [10] (by kernel_rfl) ⟨?_, trivial⟩
          refine go tbl_ok false ?_
          conv => whnf
          refine loopA ?_
          refine doneA (by kernel_rfl) (go tbl_ok false ?_)
          conv => whnf
      rotate_left 2
      focus
        refine go tbl_ok false ?_
        conv => whnf
        (repeat (refine ⟨by first | omega | (simp only [ByteArray.size_append, bsz, List.size_toArray, List.length_cons, List.length_nil]; omega) | (show _ ∧ _; omega) | (simp only [Int.toNat_natCast]; first | omega | (show _ ∧ _; omega)) | decide, ?_⟩; conv => whnf))
        refine loopA ?_
        refine splitA [2, 6] (by kernel_rfl) ⟨?_, ?_, trivial⟩
        focus
          refine go tbl_ok false ?_
          conv => whnf
          refine appW tbl_ok rfl rfl rfl rfl rfl rfl rfl rfl rfl rfl rfl (sGRecord xs) (nil_app) (fun _ => flat_recs xs) (by omega) (go tbl_ok false ?_)
          conv => whnf
          refine loopA ?_
          refine splitA [6] (by kernel_rfl) ⟨?_, trivial⟩
          refine go tbl_ok false ?_
          conv => whnf
          (repeat (refine ⟨by first | omega | (simp only [ByteArray.size_append, bsz, List.size_toArray, List.length_cons, List.length_nil]; omega) | (show _ ∧ _; omega) | (simp only [Int.toNat_natCast]; first | omega | (show _ ∧ _; omega)) | decide, ?_⟩; conv => whnf))
          refine loopA ?_
          refine splitA [9] (by kernel_rfl) ⟨?_, trivial⟩
          refine go tbl_ok false ?_
          conv => whnf
          refine loopA ?_
          refine splitA [10] (by kernel_rfl) ⟨?_, trivial⟩
          refine go tbl_ok false ?_
          conv => whnf
          refine loopA ?_
          refine doneA (by kernel_rfl) (go tbl_ok false ?_)
          conv => whnf
        rotate_left 1
        focus
          refine go tbl_ok false ?_
          conv => whnf
          (repeat (refine ⟨by first | omega | (simp only [ByteArray.size_append, bsz, List.size_toArray, List.length_cons, List.length_nil]; omega) | (show _ ∧ _; omega) | (simp only [Int.toNat_natCast]; first | omega | (show _ ∧ _; omega)) | decide, ?_⟩; conv => whnf))
          refine loopA ?_
          refine splitA [2] (by kernel_rfl) ⟨?_, trivial⟩
          refine go tbl_ok false ?_
          conv => whnf
          refine appW tbl_ok rfl rfl rfl rfl rfl rfl rfl rfl rfl rfl rfl (sGRecord xs) (nil_app) (fun _ => flat_recs xs) (by omega) (go tbl_ok false ?_)
          conv => whnf
          refine loopA ?_
          refine splitA [9] (by kernel_rfl) ⟨?_, trivial⟩
          refine go tbl_ok false ?_
          conv => whnf
          refine loopA ?_
          refine splitA [10] (by kernel_rfl) ⟨?_, trivial⟩
          refine go tbl_ok false ?_
          conv => whnf
          refine loopA ?_
          refine doneA (by kernel_rfl) (go tbl_ok false ?_)
          conv => whnf
    rotate_left 6
    focus
      refine go tbl_ok false ?_
      conv => whnf
      (repeat (refine ⟨by first | omega | (simp only [ByteArray.size_append, bsz, List.size_toArray, List.length_cons, List.length_nil]; omega) | (show _ ∧ _; omega) | (simp only [Int.toNat_natCast]; first | omega | (show _ ∧ _; omega)) | decide, ?_⟩; conv => whnf))
      refine loopA ?_
      refine splitA [0, 8] (by kernel_rfl) ⟨?_, ?_, trivial⟩
      focus
        refine go tbl_ok false ?_
        conv => whnf
        refine loopA ?_
        refine splitA [2, 8] (by kernel_rfl) ⟨?_, ?_, trivial⟩
        focus
          refine go tbl_ok false ?_
          conv => whnf
          refine appW tbl_ok rfl rfl rfl rfl rfl rfl rfl rfl rfl rfl rfl (sGRecord xs) (nil_app) (fun _ => flat_recs xs) (by omega) (go tbl_ok false ?_)
          conv => whnf
          refine loopA ?_
          refine splitA [8] (by kernel_rfl) ⟨?_, trivial⟩
          refine go tbl_ok false ?_
          conv => whnf
          (repeat (refine ⟨by first | omega | (simp only [ByteArray.size_append, bsz, List.size_toArray, List.length_cons, List.length_nil]; omega) | (show _ ∧ _; omega) | (simp only [Int.toNat_natCast]; first | omega | (show _ ∧ _; omega)) | decide, ?_⟩; conv => whnf))
          refine loopA ?_
          refine splitA [9] (by kernel_rfl) ⟨?_, trivial⟩
          refine go tbl_ok false ?_
          conv => whnf
          refine loopA ?_
          refine splitA [10] (by kernel_rfl) ⟨?_, trivial⟩
          refine go tbl_ok false ?_
          conv => whnf
          refine loopA ?_
          refine doneA (by kernel_rfl) (go tbl_ok false ?_)
          conv => whnf
        rotate_left 1
        focus
          refine go tbl_ok false ?_
          conv => whnf
          (repeat (refine ⟨by first | omega | (simp only [ByteArray.size_append, bsz, List.size_toArray, List.length_cons, List.length_nil]; omega) | (show _ ∧ _; omega) | (simp only [Int.toNat_natCast]; first | omega | (show _ ∧ _; omega)) | decide, ?_⟩; conv => whnf))
          refine loopA ?_
          refine splitA [2] (by kernel_rfl) ⟨?_, trivial⟩
          refine go tbl_ok false ?_
          conv => whnf
          refine appW tbl_ok rfl rfl rfl rfl rfl rfl rfl rfl rfl rfl rfl (sGRecord xs) (nil_app) (fun _ => flat_recs xs) (by omega) (go tbl_ok false ?_)
          conv => whnf
          refine loopA ?_
          refine splitA [9] (by kernel_rfl) ⟨?_, trivial⟩
          refine go tbl_ok false ?_
          conv => whnf
          refine loopA ?_
          refine splitA [10] (by kernel_rfl) ⟨?_, trivial⟩
          refine go tbl_ok false ?_
          conv => whnf
          refine loopA ?_
          refine doneA (by kernel_rfl) (go tbl_ok false ?_)
          conv => whnf
      rotate_left 2
      focus
        refine go tbl_ok false ?_
        conv => whnf
        (repeat (refine ⟨by first | omega | (simp only [ByteArray.size_append, bsz, List.size_toArray, List.length_cons, List.length_nil]; omega) | (show _ ∧ _; omega) | (simp only [Int.toNat_natCast]; first | omega | (show _ ∧ _; omega)) | decide, ?_⟩; conv => whnf))
        refine loopA ?_
        refine splitA [0] (by kernel_rfl) ⟨?_, trivial⟩
        refine go tbl_ok false ?_
        conv => whnf
        refine loopA ?_
        refine splitA [2] (by kernel_rfl) ⟨?_, trivial⟩
        refine go tbl_ok false ?_
        conv => whnf
        refine appW tbl_ok rfl rfl rfl rfl rfl rfl rfl rfl rfl rfl rfl (sGRecord xs) (nil_app) (fun _ => flat_recs xs) (by omega) (go tbl_ok false ?_)
        conv => whnf
        refine loopA ?_
        refine splitA [9] (by kernel_rfl) ⟨?_, trivial⟩
        refine go tbl_ok false ?_
        conv => whnf
        refine loopA ?_
        refine splitA [10] (by kernel_rfl) ⟨?_, trivial⟩
        refine go tbl_ok false ?_
        conv => whnf
        refine loopA ?_
        refine doneA (by kernel_rfl) (go tbl_ok false ?_)
        conv => whnf
    rotate_left 3
    focus
      refine go tbl_ok false ?_
      conv => whnf
      (repeat (refine ⟨by first | omega | (simp only [ByteArray.size_append, bsz, List.size_toArray, List.length_cons, List.length_nil]; omega) | (show _ ∧ _; omega) | (simp only [Int.toNat_natCast]; first | omega | (show _ ∧ _; omega)) | decide, ?_⟩; conv => whnf))
      refine loopA ?_
      refine splitA [0, 6] (by kernel_rfl) ⟨?_, ?_, trivial⟩
      focus
        refine go tbl_ok false ?_
        conv => whnf
        refine loopA ?_
        refine splitA [2, 6] (by kernel_rfl) ⟨?_, ?_, trivial⟩
        focus
          refine go tbl_ok false ?_
          conv => whnf
          refine appW tbl_ok rfl rfl rfl rfl rfl rfl rfl rfl rfl rfl rfl (sGRecord xs) (nil_app) (fun _ => flat_recs xs) (by omega) (go tbl_ok false ?_)
          conv => whnf
          refine loopA ?_
          refine splitA [6] (by kernel_rfl) ⟨?_, trivial⟩
          refine go tbl_ok false ?_
          conv => whnf
          (repeat (refine ⟨by first | omega | (simp only [ByteArray.size_append, bsz, List.size_toArray, List.length_cons, List.length_nil]; omega) | (show _ ∧ _; omega) | (simp only [Int.toNat_natCast]; first | omega | (show _ ∧ _; omega)) | decide, ?_⟩; conv => whnf))
          refine loopA ?_
          refine splitA [9] (by kernel_rfl) ⟨?_, trivial⟩
          refine go tbl_ok false ?_
          conv => whnf
          refine loopA ?_
          refine splitA [10] (by kernel_rfl) ⟨?_, trivial⟩
          refine go tbl_ok false ?_
          conv => whnf
          refine loopA ?_
          refine doneA (by kernel_rfl) (go tbl_ok false ?_)
          conv => whnf
        rotate_left 1
        focus
          refine go tbl_ok false ?_
          conv => whnf
          (repeat (refine ⟨by first | omega | (simp only [ByteArray.size_append, bsz, List.size_toArray, List.length_cons, List.length_nil]; omega) | (show _ ∧ _; omega) | (simp only [Int.toNat_natCast]; first | omega | (show _ ∧ _; omega)) | decide, ?_⟩; conv => whnf))
          refine loopA ?_
          refine splitA [2] (by kernel_rfl) ⟨?_, trivial⟩
          refine go tbl_ok false ?_
          conv => whnf
          refine appW tbl_ok rfl rfl rfl rfl rfl rfl rfl rfl rfl rfl rfl (sGRecord xs) (nil_app) (fun _ => flat_recs xs) (by omega) (go tbl_ok false ?_)
          conv => whnf
          refine loopA ?_
          refine splitA [9] (by kernel_rfl) ⟨?_, trivial⟩
          refine go tbl_ok false ?_
          conv => whnf
          refine loopA ?_
          refine splitA [10] (by kernel_rfl) ⟨?_, trivial⟩
          refine go tbl_ok false ?_
          conv => whnf
          refine loopA ?_
          refine doneA (by kernel_rfl) (go tbl_ok false ?_)
          conv => whnf
      rotate_left 2
      focus
        refine go tbl_ok false ?_
        conv => whnf
        (repeat (refine ⟨by first | omega | (simp only [ByteArray.size_append, bsz, List.size_toArray, List.length_cons, List.length_nil]; omega) | (show _ ∧ _; omega) | (simp only [Int.toNat_natCast]; first | omega | (show _ ∧ _; omega)) | decide, ?_⟩; conv => whnf))
        refine loopA ?_
        refine splitA [0] (by kernel_rfl) ⟨?_, trivial⟩
        refine go tbl_ok false ?_
        conv => whnf
        refine loopA ?_
        refine splitA [2] (by kernel_rfl) ⟨?_, trivial⟩
        refine go tbl_ok false ?_
        conv => whnf
        refine appW tbl_ok rfl rfl rfl rfl rfl rfl rfl rfl rfl rfl rfl (sGRecord xs) (nil_app) (fun _ => flat_recs xs) (by omega) (go tbl_ok false ?_)
        conv => whnf
        refine loopA ?_
        refine splitA [9] (by kernel_rfl) ⟨?_, trivial⟩
        refine go tbl_ok false ?_
        conv => whnf
        refine loopA ?_
        refine splitA [10] (by kernel_rfl) ⟨?_, trivial⟩
        refine go tbl_ok false ?_
        conv => whnf
        refine loopA ?_
        refine doneA (by kernel_rfl) (go tbl_ok false ?_)
        conv => whnf
  rotate_left 12
  focus
    refine go tbl_ok false ?_
    conv => whnf
    (repeat (refine ⟨by first | omega | (simp only [ByteArray.size_append, bsz, List.size_toArray, List.length_cons, List.length_nil]; omega) | (show _ ∧ _; omega) | (simp only [Int.toNat_natCast]; first | omega | (show _ ∧ _; omega)) | decide, ?_⟩; conv => whnf))
    refine loopA ?_
    refine splitA [0, 4, 8] (by kernel_rfl) ⟨?_, ?_, ?_, trivial⟩
    focus
      refine go tbl_ok false ?_
      conv => whnf
      refine loopA ?_
      refine splitA [2, 4, 8] (by kernel_rfl) ⟨?_, ?_, ?_, trivial⟩
      focus
        refine go tbl_ok false ?_
        conv => whnf
        refine appW tbl_ok rfl rfl rfl rfl rfl rfl rfl rfl rfl rfl rfl (sGRecord xs) (nil_app) (fun _ => flat_recs xs) (by omega) (go tbl_ok false ?_)
        conv => whnf
        refine loopA ?_
        refine splitA [4, 8] (by kernel_rfl) ⟨?_, ?_, trivial⟩
        focus
          refine go tbl_ok false ?_
          conv => whnf
          (repeat (refine ⟨by first | omega | (simp only [ByteArray.size_append, bsz, List.size_toArray, List.length_cons, List.length_nil]; omega) | (show _ ∧ _; omega) | (simp only [Int.toNat_natCast]; first | omega | (show _ ∧ _; omega)) | decide, ?_⟩; conv => whnf))
          refine loopA ?_
          refine splitA [8] (by kernel_rfl) ⟨?_, trivial⟩
          refine go tbl_ok false ?_
          conv => whnf
          (repeat (refine ⟨by first | omega | (simp only [ByteArray.size_append, bsz, List.size_toArray, List.length_cons, List.length_nil]; omega) | (show _ ∧ _; omega) | (simp only [Int.toNat_natCast]; first | omega | (show _ ∧ _; omega)) | decide, ?_⟩; conv => whnf))
          refine loopA ?_
          refine splitA [9] (by kernel_rfl) ⟨?_, trivial⟩
          refine go tbl_ok false ?_
          conv => whnf
          refine loopA ?_
          refine splitA [10] (by kernel_rfl) ⟨?_, trivial⟩
          refine go tbl_ok false ?_
          conv => whnf
          refine loopA ?_
          refine doneA (by kernel_rfl) (go tbl_ok false ?_)
          conv => whnf
        rotate_left 1
        focus
          refine go tbl_ok false ?_
          conv => whnf
          (repeat (refine ⟨by first | omega | (simp only [ByteArray.size_append, bsz, List.size_toArray, List.length_cons, List.length_nil]; omega) | (show _ ∧ _; omega) | (simp only [Int.toNat_natCast]; first | omega | (show _ ∧ _; omega)) | decide, ?_⟩; conv => whnf))
          refine loopA ?_
          refine splitA [4] (by kernel_rfl) ⟨?_, trivial⟩
          refine go tbl_ok false ?_
          conv => whnf
          (repeat (refine ⟨by first | omega | (simp only [ByteArray.size_append, bsz, List.size_toArray, List.length_cons, List.length_nil]; omega) | (show _ ∧ _; omega) | (simp only [Int.toNat_natCast]; first | omega | (show _ ∧ _; omega)) | decide, ?_⟩; conv => whnf))
          refine loopA ?_
          refine splitA [9] (by kernel_rfl) ⟨?_, trivial⟩
          refine go tbl_ok false ?_
          conv => whnf
          refine loopA ?_
          refine splitA [10] (by kernel_rfl) ⟨?_, trivial⟩
          refine go tbl_ok false ?_
          conv => whnf
          refine loopA ?_
          refine doneA (by kernel_rfl) (go tbl_ok false ?_)
          conv => whnf
      rotate_left 2
      focus
        refine go tbl_ok false ?_
        conv => whnf
        (repeat (refine ⟨by first | omega | (simp only [ByteArray.size_append, bsz, List.size_toArray, List.length_cons, List.length_nil]; omega) | (show _ ∧ _; omega) | (simp only [Int.toNat_natCast]; first | omega | (show _ ∧ _; omega)) | decide, ?_⟩; conv => whnf))
        refine loopA ?_
        refine splitA [2, 8] (by kernel_rfl) ⟨?_, ?_, trivial⟩
        focus
          refine go tbl_ok false ?_
          conv => whnf
          refine appW tbl_ok rfl rfl rfl rfl rfl rfl rfl rfl rfl rfl rfl (sGRecord xs) (nil_app) (fun _ => flat_recs xs) (by omega) (go tbl_ok false ?_)
          conv => whnf
          refine loopA ?_
          refine splitA [8] (by kernel_rfl) ⟨?_, trivial⟩
          refine go tbl_ok false ?_
          conv => whnf
          (repeat (refine ⟨by first | omega | (simp only [ByteArray.size_append, bsz, List.size_toArray, List.length_cons, List.length_nil]; omega) | (show _ ∧ _; omega) | (simp only [Int.toNat_natCast]; first | omega | (show _ ∧ _; omega)) | decide, ?_⟩; conv => whnf))
          refine loopA ?_
          refine splitA [9] (by kernel_rfl) ⟨?_, trivial⟩
          refine go tbl_ok false ?_
          conv => whnf
          refine loopA ?_
          refine splitA [10] (by kernel_rfl) ⟨?_, trivial⟩
          refine go tbl_ok false ?_
          conv => whnf
          refine loopA ?_
          refine doneA (by kernel_rfl) (go tbl_ok false ?_)
          conv => whnf
        rotate_left 1
        focus
          refine go tbl_ok false ?_
          conv => whnf
          (repeat (refine ⟨by first | omega | (simp only [ByteArray.size_append, bsz, List.size_toArray, List.length_cons, List.length_nil]; omega) | (show _ ∧ _; omega) | (simp only [Int.toNat_natCast]; first | omega | (show _ ∧ _; omega)) | decide, ?_⟩; conv => whnf))
          refine loopA ?_
          refine splitA [2] (by kernel_rfl) ⟨?_, trivial⟩
          refine go tbl_ok false ?_
          conv => whnf
          refine appW tbl_ok rfl rfl rfl rfl rfl rfl rfl rfl rfl rfl rfl (sGRecord xs) (nil_app) (fun _ => flat_recs xs) (by omega) (go tbl_ok false ?_)
          conv => whnf
          refine loopA ?_
          refine splitA [9] (by kernel_rfl) ⟨?_, trivial⟩
          refine go tbl_ok false ?_
          conv => whnf
          refine loopA ?_
          refine splitA [10] (by kernel_rfl) ⟨?_, trivial⟩
          refine go tbl_ok false ?_
          conv => whnf
          refine loopA ?_
          refine doneA (by kernel_rfl) (go tbl_ok false ?_)
          conv => whnf
      rotate_left 2
      focus
        refine go tbl_ok false ?_
        conv => whnf
        (repeat (refine ⟨by first | omega | (simp only [ByteArray.size_append, bsz, List.size_toArray, List.length_cons, List.length_nil]; omega) | (show _ ∧ _; omega) | (simp only [Int.toNat_natCast]; first | omega | (show _ ∧ _; omega)) | decide, ?_⟩; conv => whnf))
        refine loopA ?_
        refine splitA [2, 4] (by kernel_rfl) ⟨?_, ?_, trivial⟩
        focus
          refine go tbl_ok false ?_
          conv => whnf
          refine appW tbl_ok rfl rfl rfl rfl rfl rfl rfl rfl rfl rfl rfl (sGRecord xs) (nil_app) (fun _ => flat_recs xs) (by omega) (go tbl_ok false ?_)
          conv => whnf
          refine loopA ?_
          refine splitA [4] (by kernel_rfl) ⟨?_, trivial⟩
          refine go tbl_ok false ?_
          conv => whnf
          (repeat (refine ⟨by first | omega | (simp only [ByteArray.size_append, bsz, List.size_toArray, List.length_cons, List.length_nil]; omega) | (show _ ∧ _; omega) | (simp only [Int.toNat_natCast]; first | omega | (show _ ∧ _; omega)) | decide, ?_⟩; conv => whnf))
          refine loopA ?_
          refine splitA [9] (by kernel_rfl) ⟨?_, trivial⟩
          refine go tbl_ok false ?_
          conv => whnf
          refine loopA ?_
          refine splitA [10] (by kernel_rfl) ⟨?_, trivial⟩
          refine go tbl_ok false ?_
          conv => whnf
          refine loopA ?_
          refine doneA (by kernel_rfl) (go tbl_ok false ?_)
          conv => whnf
        rotate_left 1
        focus
          refine go tbl_ok false ?_
          conv => whnf
          (repeat (refine ⟨by first | omega | (simp only [ByteArray.size_append, bsz, List.size_toArray, List.length_cons, List.length_nil]; omega) | (show _ ∧ _; omega) | (simp only [Int.toNat_natCast]; first | omega | (show _ ∧ _; omega)) | decide, ?_⟩; conv => whnf))
          refine loopA ?_
          refine splitA [2] (by kernel_rfl) ⟨?_, trivial⟩
          refine go tbl_ok false ?_
          conv => whnf
          refine appW tbl_ok rfl rfl rfl rfl rfl rfl rfl rfl rfl rfl rfl (sGRecord xs) (nil_app) (fun _ => flat_recs xs) (by omega) (go tbl_ok false ?_)
          conv => whnf
          refine loopA ?_
          refine splitA [9] (by kernel_rfl) ⟨?_, trivial⟩
          refine go tbl_ok false ?_
          conv => whnf
          refine loopA ?_
          refine splitA [10] (by kernel_rfl) ⟨?_, trivial⟩
          refine go tbl_ok false ?_
          conv => whnf
          refine loopA ?_
          refine doneA (by kernel_rfl) (go tbl_ok false ?_)
          conv => whnf
    rotate_left 6
    focus
      refine go tbl_ok false ?_
      conv => whnf
      (repeat (refine ⟨by first | omega | (simp only [ByteArray.size_append, bsz, List.size_toArray, List.length_cons, List.length_nil]; omega) | (show _ ∧ _; omega) | (simp only [Int.toNat_natCast]; first | omega | (show _ ∧ _; omega)) | decide, ?_⟩; conv => whnf))
      refine loopA ?_
      refine splitA [0, 8] (by kernel_rfl) ⟨?_, ?_, trivial⟩
      focus
        refine go tbl_ok false ?_
        conv => whnf
        refine loopA ?_
        refine splitA [2, 8] (by kernel_rfl) ⟨?_, ?_, trivial⟩
        focus
          refine go tbl_ok false ?_
          conv => whnf
          refine appW tbl_ok rfl rfl rfl rfl rfl rfl rfl rfl rfl rfl rfl (sGRecord xs) (nil_app) (fun _ => flat_recs xs) (by omega) (go tbl_ok false ?_)
          conv => whnf
          refine loopA ?_
          refine splitA [8] (by kernel_rfl) ⟨?_, trivial⟩
          refine go tbl_ok false ?_
          conv => whnf
          (repeat (refine ⟨by first | omega | (simp only [ByteArray.size_append, bsz, List.size_toArray, List.length_cons, List.length_nil]; omega) | (show _ ∧ _; omega) | (simp only [Int.toNat_natCast]; first | omega | (show _ ∧ _; omega)) | decide, ?_⟩; conv => whnf))
          refine loopA ?_
          refine splitA [9] (by kernel_rfl) ⟨?_, trivial⟩
          refine go tbl_ok false ?_
          conv => whnf
          refine loopA ?_
          refine splitA [10] (by kernel_rfl) ⟨?_, trivial⟩
          refine go tbl_ok false ?_
          conv => whnf
          refine loopA ?_
          refine doneA (by kernel_rfl) (go tbl_ok false ?_)
          conv => whnf
        rotate_left 1
        focus
          refine go tbl_ok false ?_
          conv => whnf
          (repeat (refine ⟨by first | omega | (simp only [ByteArray.size_append, bsz, List.size_toArray, List.length_cons, List.length_nil]; omega) | (show _ ∧ _; omega) | (simp only [Int.toNat_natCast]; first | omega | (show _ ∧ _; omega)) | decide, ?_⟩; conv => whnf))
          refine loopA ?_
          refine splitA [2] (by kernel_rfl) ⟨?_, trivial⟩
          refine go tbl_ok false ?_
          conv => whnf
          refine appW tbl_ok rfl rfl rfl rfl rfl rfl rfl rfl rfl rfl rfl (sGRecord xs) (nil_app) (fun _ => flat_recs xs) (by omega) (go tbl_ok false ?_)
          conv => whnf
          refine loopA ?_
          refine splitA [9] (by kernel_rfl) ⟨?_, trivial⟩
          refine go tbl_ok false ?_
          conv => whnf
          refine loopA ?_
          refine splitA [10] (by kernel_rfl) ⟨?_, trivial⟩
          refine go tbl_ok false ?_
          conv => whnf
          refine loopA ?_
          refine doneA (by kernel_rfl) (go tbl_ok false ?_)
          conv => whnf
      rotate_left 2
      focus
        refine go tbl_ok false ?_
        conv => whnf
        (repeat (refine ⟨by first | omega | (simp only [ByteArray.size_append, bsz, List.size_toArray, List.length_cons, List.length_nil]; omega) | (show _ ∧ _; omega) | (simp only [Int.toNat_natCast]; first | omega | (show _ ∧ _; omega)) | decide, ?_⟩; conv => whnf))
        refine loopA ?_
        refine splitA [0] (by kernel_rfl) ⟨?_, trivial⟩
        refine go tbl_ok false ?_
        conv => whnf
        refine loopA ?_
        refine splitA [2] (by kernel_rfl) ⟨?_, trivial⟩
        refine go tbl_ok false ?_
        conv => whnf
        refine appW tbl_ok rfl rfl rfl rfl rfl rfl rfl rfl rfl rfl rfl (sGRecord xs) (nil_app) (fun _ => flat_recs xs) (by omega) (go tbl_ok false ?_)
        conv => whnf
        refine loopA ?_
        refine splitA [9] (by kernel_rfl) ⟨?_, trivial⟩
        refine go tbl_ok false ?_
        conv => whnf
        refine loopA ?_
        refine splitA [10] (by kernel_rfl) ⟨?_, trivial⟩
        refine go tbl_ok false ?_
        conv => whnf
        refine loopA ?_
        refine doneA (by kernel_rfl) (go tbl_ok false ?_)
        conv => whnf
    rotate_left 3
    focus
      refine go tbl_ok false ?_
      conv => whnf
      (repeat (refine ⟨by first | omega | (simp only [ByteArray.size_append, bsz, List.size_toArray, List.length_cons, List.length_nil]; omega) | (show _ ∧ _; omega) | (simp only [Int.toNat_natCast]; first | omega | (show _ ∧ _; omega)) | decide, ?_⟩; conv => whnf))
      refine loopA ?_
      refine splitA [0, 4] (by kernel_rfl) ⟨?_, ?_, trivial⟩
      focus
        refine go tbl_ok false ?_
        conv => whnf
        refine loopA ?_
        refine splitA [2, 4] (by kernel_rfl) ⟨?_, ?_, trivial⟩
        focus
          refine go tbl_ok false ?_
          conv => whnf
          refine appW tbl_ok rfl rfl rfl rfl rfl rfl rfl rfl rfl rfl rfl (sGRecord xs) (nil_app) (fun _ => flat_recs xs) (by omega) (go tbl_ok false ?_)
          conv => whnf
          refine loopA ?_
          refine splitA [4] (by kernel_rfl) ⟨?_, trivial⟩
          refine go tbl_ok false ?_
          conv => whnf
          (repeat (refine ⟨by first | omega | (simp only [ByteArray.size_append, bsz, List.size_toArray, List.length_cons, List.length_nil]; omega) | (show _ ∧ _; omega) | (simp only [Int.toNat_natCast]; first | omega | (show _ ∧ _; omega)) | decide, ?_⟩; conv => whnf))
          refine loopA ?_
          refine splitA [9] (by kernel_rfl) ⟨?_, trivial⟩
          refine go tbl_ok false ?_
          conv => whnf
          refine loopA ?_
          refine splitA [10] (by kernel_rfl) ⟨?_, trivial⟩
          refine go tbl_ok false ?_
          conv => whnf
          refine loopA ?_
          refine doneA (by kernel_rfl) (go tbl_ok false ?_)
          conv => whnf
        rotate_left 1
        focus
          refine go tbl_ok false ?_
          conv => whnf
          (repeat (refine ⟨by first | omega | (simp only [ByteArray.size_append, bsz, List.size_toArray, List.length_cons, List.length_nil]; omega) | (show _ ∧ _; omega) | (simp only [Int.toNat_natCast]; first | omega | (show _ ∧ _; omega)) | decide, ?_⟩; conv => whnf))
          refine loopA ?_
          refine splitA [2] (by kernel_rfl) ⟨?_, trivial⟩
          refine go tbl_ok false ?_
          conv => whnf
          refine appW tbl_ok rfl rfl rfl rfl rfl rfl rfl rfl rfl rfl rfl (sGRecord xs) (nil_app) (fun _ => flat_recs xs) (by omega) (go tbl_ok false ?_)
          conv => whnf
          refine loopA ?_
          refine splitA [9] (by kernel_rfl) ⟨?_, trivial⟩
          refine go tbl_ok false ?_
          conv => whnf
          refine loopA ?_
          refine splitA [10] (by kernel_rfl) ⟨?_, trivial⟩
          refine go tbl_ok false ?_
          conv => whnf
          refine loopA ?_
          refine doneA (by kernel_rfl) (go tbl_ok false ?_)
          conv => whnf
      rotate_left 2
      focus
        refine go tbl_ok false ?_
        conv => whnf
        (repeat (refine ⟨by first | omega | (simp only [ByteArray.size_append, bsz, List.size_toArray, List.length_cons, List.length_nil]; omega) | (show _ ∧ _; omega) | (simp only [Int.toNat_natCast]; first | omega | (show _ ∧ _; omega)) | decide, ?_⟩; conv => whnf))
        refine loopA ?_
        refine splitA [0] (by kernel_rfl) ⟨?_, trivial⟩
        refine go tbl_ok false ?_
        conv => whnf
        refine loopA ?_
        refine splitA [2] (by kernel_rfl) ⟨?_, trivial⟩
        refine go tbl_ok false ?_
        conv => whnf
        refine appW tbl_ok rfl rfl rfl rfl rfl rfl rfl rfl rfl rfl rfl (sGRecord xs) (nil_app) (fun _ => flat_recs xs) (by omega) (go tbl_ok false ?_)
        conv => whnf
        refine loopA ?_
        refine splitA [9] (by kernel_rfl) ⟨?_, trivial⟩
        refine go tbl_ok false ?_
        conv => whnf
        refine loopA ?_
        refine splitA [10] (by kernel_rfl) ⟨?_, trivial⟩
        refine go tbl_ok false ?_
        conv => whnf
        refine loopA ?_
        refine doneA (by kernel_rfl) (go tbl_ok false ?_)
        conv => whnf
  rotate_left 12
  focus
    refine go tbl_ok false ?_
    conv => whnf
    (repeat (refine ⟨by first | omega | (simp only [ByteArray.size_append, bsz, List.size_toArray, List.length_cons, List.length_nil]; omega) | (show _ ∧ _; omega) | (simp only [Int.toNat_natCast]; first | omega | (show _ ∧ _; omega)) | decide, ?_⟩; conv => whnf))
    refine loopA ?_
    refine splitA [0, 4, 6] (by kernel_rfl) ⟨?_, ?_, ?_, trivial⟩
    focus
      refine go tbl_ok false ?_
      conv => whnf
      refine loopA ?_
      refine splitA [2, 4, 6] (by kernel_rfl) ⟨?_, ?_, ?_, trivial⟩
      focus
        refine go tbl_ok false ?_
        conv => whnf
        refine appW tbl_ok rfl rfl rfl rfl rfl rfl rfl rfl rfl rfl rfl (sGRecord xs) (nil_app) (fun _ => flat_recs xs) (by omega) (go tbl_ok false ?_)
        conv => whnf
        refine loopA ?_
        refine splitA [4, 6] (by kernel_rfl) ⟨?_, ?_, trivial⟩
        focus
          refine go tbl_ok false ?_
          conv => whnf
          (repeat (refine ⟨by first | omega | (simp only [ByteArray.size_append, bsz, List.size_toArray, List.length_cons, List.length_nil]; omega) | (show _ ∧ _; omega) | (simp only [Int.toNat_natCast]; first | omega | (show _ ∧ _; omega)) | decide, ?_⟩; conv => whnf))
          refine loopA ?_
          refine splitA [6] (by kernel_rfl) ⟨?_, trivial⟩
          refine go tbl_ok false ?_
          conv => whnf
          (repeat (refine ⟨by first | omega | (simp only [ByteArray.size_append, bsz, List.size_toArray, List.length_cons, List.length_nil]; omega) | (show _ ∧ _; omega) | (simp only [Int.toNat_natCast]; first | omega | (show _ ∧ _; omega)) | decide, ?_⟩; conv => whnf))
          refine loopA ?_
          refine splitA [9] (by kernel_rfl) ⟨?_, trivial⟩
          refine go tbl_ok false ?_
          conv => whnf
          refine loopA ?_
          refine splitA [10] (by kernel_rfl) ⟨?_, trivial⟩
          refine go tbl_ok false ?_
          conv => whnf
          refine loopA ?_
          refine doneA (by kernel_rfl) (go tbl_ok false ?_)
          conv => whnf
        rotate_left 1
        focus
          refine go tbl_ok false ?_
          conv => whnf
          (repeat (refine ⟨by first | omega | (simp only [ByteArray.size_append, bsz, List.size_toArray, List.length_cons, List.length_nil]; omega) | (show _ ∧ _; omega) | (simp only [Int.toNat_natCast]; first | omega | (show _ ∧ _; omega)) | decide, ?_⟩; conv => whnf))
          refine loopA ?_
          refine splitA [4] (by kernel_rfl) ⟨?_, trivial⟩
          refine go tbl_ok false ?_
          conv => whnf
          (repeat (refine ⟨by first | omega | (simp only [ByteArray.size_append, bsz, List.size_toArray, List.length_cons, List.length_nil]; omega) | (show _ ∧ _; omega) | (simp only [Int.toNat_natCast]; first | omega | (show _ ∧ _; omega)) | decide, ?_⟩; conv => whnf))
          refine loopA ?_
          refine splitA [9] (by kernel_rfl) ⟨?_, trivial⟩
          refine go tbl_ok false ?_
          conv => whnf
          refine loopA ?_
          refine splitA [10] (by kernel_rfl) ⟨?_, trivial⟩
          refine go tbl_ok false ?_
          conv => whnf
          refine loopA ?_
          refine doneA (by kernel_rfl) (go tbl_ok false ?_)
          conv => whnf
      rotate_left 2
      focus
        refine go tbl_ok false ?_
        conv => whnf
        (repeat (refine ⟨by first | omega | (simp only [ByteArray.size_append, bsz, List.size_toArray, List.length_cons, List.length_nil]; omega) | (show _ ∧ _; omega) | (simp only [Int.toNat_natCast]; first | omega | (show _ ∧ _; omega)) | decide, ?_⟩; conv => whnf))
        refine loopA ?_
        refine splitA [2, 6] (by kernel_rfl) ⟨?_, ?_, trivial⟩
        focus
          refine go tbl_ok false ?_
          conv => whnf
          refine appW tbl_ok rfl rfl rfl rfl rfl rfl rfl rfl rfl rfl rfl (sGRecord xs) (nil_app) (fun _ => flat_recs xs) (by omega) (go tbl_ok false ?_)
          conv => whnf
          refine loopA ?_
          refine splitA [6] (by kernel_rfl) ⟨?_, trivial⟩
          refine go tbl_ok false ?_
          conv => whnf
          (repeat (refine ⟨by first | omega | (simp only [ByteArray.size_append, bsz, List.size_toArray, List.length_cons, List.length_nil]; omega) | (show _ ∧ _; omega) | (simp only [Int.toNat_natCast]; first | omega | (show _ ∧ _; omega)) | decide, ?_⟩; conv => whnf))
          refine loopA ?_
          refine splitA [9] (by kernel_rfl) ⟨?_, trivial⟩
          refine go tbl_ok false ?_
          conv => whnf
          refine loopA ?_
          refine splitA [10] (by kernel_rfl) ⟨?_, trivial⟩
          refine go tbl_ok false ?_
          conv => whnf
          refine loopA ?_
          refine doneA (by kernel_rfl) (go tbl_ok false ?_)
          conv => whnf
        rotate_left 1
        focus
          refine go tbl_ok false ?_
          conv => whnf
          (repeat (refine ⟨by first | omega | (simp only [ByteArray.size_append, bsz, List.size_toArray, List.length_cons, List.length_nil]; omega) | (show _ ∧ _; omega) | (simp only [Int.toNat_natCast]; first | omega | (show _ ∧ _; omega)) | decide, ?_⟩; conv => whnf))
          refine loopA ?_
          refine splitA [2] (by kernel_rfl) ⟨?_, trivial⟩
          refine go tbl_ok false ?_
          conv => whnf
          refine appW tbl_ok rfl rfl rfl rfl rfl rfl rfl rfl rfl rfl rfl (sGRecord xs) (nil_app) (fun _ => flat_recs xs) (by omega) (go tbl_ok false ?_)
          conv => whnf
          refine loopA ?_
          refine splitA [9] (by kernel_rfl) ⟨?_, trivial⟩
          refine go tbl_ok false ?_
          conv => whnf
          refine loopA ?_
          refine splitA [10] (by kernel_rfl) ⟨?_, trivial⟩
          refine go tbl_ok false ?_
          conv => whnf
          refine loopA ?_
          refine doneA (by kernel_rfl) (go tbl_ok false ?_)
          conv => whnf
      rotate_left 2
      focus
        refine go tbl_ok false ?_
        conv => whnf
        (repeat (refine ⟨by first | omega | (simp only [ByteArray.size_append, bsz, List.size_toArray, List.length_cons, List.length_nil]; omega) | (show _ ∧ _; omega) | (simp only [Int.toNat_natCast]; first | omega | (show _ ∧ _; omega)) | decide, ?_⟩; conv => whnf))
        refine loopA ?_
        refine splitA [2, 4] (by kernel_rfl) ⟨?_, ?_, trivial⟩
        focus
          refine go tbl_ok false ?_
          conv => whnf
          refine appW tbl_ok rfl rfl rfl rfl rfl rfl rfl rfl rfl rfl rfl (sGRecord xs) (nil_app) (fun _ => flat_recs xs) (by omega) (go tbl_ok false ?_)
          conv => whnf
          refine loopA ?_
          refine splitA [4] (by kernel_rfl) ⟨?_, trivial⟩
          refine go tbl_ok false ?_
          conv => whnf
          (repeat (refine ⟨by first | omega | (simp only [ByteArray.size_append, bsz, List.size_toArray, List.length_cons, List.length_nil]; omega) | (show _ ∧ _; omega) | (simp only [Int.toNat_natCast]; first | omega | (show _ ∧ _; omega)) | decide, ?_⟩; conv => whnf))
          refine loopA ?_
          refine splitA [9] (by kernel_rfl) ⟨?_, trivial⟩
          refine go tbl_ok false ?_
          conv => whnf
          refine loopA ?_
          refine splitA [10] (by kernel_rfl) ⟨?_, trivial⟩
          refine go tbl_ok false ?_
          conv => whnf
          refine loopA ?_
          refine doneA (by kernel_rfl) (go tbl_ok false ?_)
          conv => whnf
        rotate_left 1
        focus
          refine go tbl_ok false ?_
          conv => whnf
          (repeat (refine ⟨by first | omega | (simp only [ByteArray.size_append, bsz, List.size_toArray, List.length_cons, List.length_nil]; omega) | (show _ ∧ _; omega) | (simp only [Int.toNat_natCast]; first | omega | (show _ ∧ _; omega)) | decide, ?_⟩; conv => whnf))
          refine loopA ?_
          refine splitA [2] (by kernel_rfl) ⟨?_, trivial⟩
          refine go tbl_ok false ?_
          conv => whnf
          refine appW tbl_ok rfl rfl rfl rfl rfl rfl rfl rfl rfl rfl rfl (sGRecord xs) (nil_app) (fun _ => flat_recs xs) (by omega) (go tbl_ok false ?_)
          conv => whnf
          refine loopA ?_
          refine splitA [9] (by kernel_rfl) ⟨?_, trivial⟩
          refine go tbl_ok false ?_
          conv => whnf
          refine loopA ?_
          refine splitA [10] (by kernel_rfl) ⟨?_, trivial⟩
          refine go tbl_ok false ?_
          conv => whnf
          refine loopA ?_
          refine doneA (by kernel_rfl) (go tbl_ok false ?_)
          conv => whnf
    rotate_left 6
    focus
      refine go tbl_ok false ?_
      conv => whnf
      (repeat (refine ⟨by first | omega | (simp only [ByteArray.size_append, bsz, List.size_toArray, List.length_cons, List.length_nil]; omega) | (show _ ∧ _; omega) | (simp only [Int.toNat_natCast]; first | omega | (show _ ∧ _; omega)) | decide, ?_⟩; conv => whnf))
      refine loopA ?_
      refine splitA [0, 6] (by kernel_rfl) ⟨?_, ?_, trivial⟩
      focus
        refine go tbl_ok false ?_
        conv => whnf
        refine loopA ?_
        refine splitA [2, 6] (by kernel_rfl) ⟨?_, ?_, trivial⟩
        focus
          refine go tbl_ok false ?_
          conv => whnf
          refine appW tbl_ok rfl rfl rfl rfl rfl rfl rfl rfl rfl rfl rfl (sGRecord xs) (nil_app) (fun _ => flat_recs xs) (by omega) (go tbl_ok false ?_)
          conv => whnf
          refine loopA ?_
          refine splitA [6] (by kernel_rfl) ⟨?_, trivial⟩
          refine go tbl_ok false ?_
          conv => whnf
          (repeat (refine ⟨by first | omega | (simp only [ByteArray.size_append, bsz, List.size_toArray, List.length_cons, List.length_nil]; omega) | (show _ ∧ _; omega) | (simp only [Int.toNat_natCast]; first | omega | (show _ ∧ _; omega)) | decide, ?_⟩; conv => whnf))
          refine loopA ?_
          refine splitA [9] (by kernel_rfl) ⟨?_, trivial⟩
          refine go tbl_ok false ?_
          conv => whnf
          refine loopA ?_
          refine splitA [10] (by kernel_rfl) ⟨?_, trivial⟩
          refine go tbl_ok false ?_
          conv => whnf
          refine loopA ?_
          refine doneA (by kernel_rfl) (go tbl_ok false ?_)
          conv => whnf
        rotate_left 1
        focus
          refine go tbl_ok false ?_
          conv => whnf
          (repeat (refine ⟨by first | omega | (simp only [ByteArray.size_append, bsz, List.size_toArray, List.length_cons, List.length_nil]; omega) | (show _ ∧ _; omega) | (simp only [Int.toNat_natCast]; first | omega | (show _ ∧ _; omega)) | decide, ?_⟩; conv => whnf))
          refine loopA ?_
          refine splitA [2] (by kernel_rfl) ⟨?_, trivial⟩
          refine go tbl_ok false ?_
          conv => whnf
          refine appW tbl_ok rfl rfl rfl rfl rfl rfl rfl rfl rfl rfl rfl (sGRecord xs) (nil_app) (fun _ => flat_recs xs) (by omega) (go tbl_ok false ?_)
          conv => whnf
          refine loopA ?_
          refine splitA [9] (by kernel_rfl) ⟨?_, trivial⟩
          refine go tbl_ok false ?_
          conv => whnf
          refine loopA ?_
          refine splitA [10] (by kernel_rfl) ⟨?_, trivial⟩
          refine go tbl_ok false ?_
          conv => whnf
          refine loopA ?_
          refine doneA (by kernel_rfl) (go tbl_ok false ?_)
          conv => whnf
      rotate_left 2
      focus
        refine go tbl_ok false ?_
        conv => whnf
        (repeat (refine ⟨by first | omega | (simp only [ByteArray.size_append, bsz, List.size_toArray, List.length_cons, List.length_nil]; omega) | (show _ ∧ _; omega) | (simp only [Int.toNat_natCast]; first | omega | (show _ ∧ _; omega)) | decide, ?_⟩; conv => whnf))
        refine loopA ?_
        refine splitA [0] (by kernel_rfl) ⟨?_, trivial⟩
        refine go tbl_ok false ?_
        conv => whnf
        refine loopA ?_
        refine splitA [2] (by kernel_rfl) ⟨?_, trivial⟩
        refine go tbl_ok false ?_
        conv => whnf
        refine appW tbl_ok rfl rfl rfl rfl rfl rfl rfl rfl rfl rfl rfl (sGRecord xs) (nil_app) (fun _ => flat_recs xs) (by omega) (go tbl_ok false ?_)
        conv => whnf
        refine loopA ?_
        refine splitA [9] (by kernel_rfl) ⟨?_, trivial⟩
        refine go tbl_ok false ?_
        conv => whnf
        refine loopA ?_
        refine splitA [10] (by kernel_rfl) ⟨?_, trivial⟩
        refine go tbl_ok false ?_
        conv => whnf
        refine loopA ?_
        refine doneA (by kernel_rfl) (go tbl_ok false ?_)
        conv => whnf
    rotate_left 3
    focus
      refine go tbl_ok false ?_
      conv => whnf
      (repeat (refine ⟨by first | omega | (simp only [ByteArray.size_append, bsz, List.size_toArray, List.length_cons, List.length_nil]; omega) | (show _ ∧ _; omega) | (simp only [Int.toNat_natCast]; first | omega | (show _ ∧ _; omega)) | decide, ?_⟩; conv => whnf))
      refine loopA ?_
      refine splitA [0, 4] (by kernel_rfl) ⟨?_, ?_, trivial⟩
      focus
        refine go tbl_ok false ?_
        conv => whnf
        refine loopA ?_
        refine splitA [2, 4] (by kernel_rfl) ⟨?_, ?_, trivial⟩
        focus
          refine go tbl_ok false ?_
          conv => whnf
          refine appW tbl_ok rfl rfl rfl rfl rfl rfl rfl rfl rfl rfl rfl (sGRecord xs) (nil_app) (fun _ => flat_recs xs) (by omega) (go tbl_ok false ?_)
          conv => whnf
          refine loopA ?_
          refine splitA [4] (by kernel_rfl) ⟨?_, trivial⟩
          refine go tbl_ok false ?_
          conv => whnf
          (repeat (refine ⟨by first | omega | (simp only [ByteArray.size_append, bsz, List.size_toArray, List.length_cons, List.length_nil]; omega) | (show _ ∧ _; omega) | (simp only [Int.toNat_natCast]; first | omega | (show _ ∧ _; omega)) | decide, ?_⟩; conv => whnf))
          refine loopA ?_
          refine splitA [9] (by kernel_rfl) ⟨?_, trivial⟩
          refine go tbl_ok false ?_
          conv => whnf
          refine loopA ?_
          refine splitA [10] (by kernel_rfl) ⟨?_, trivial⟩
          refine go tbl_ok false ?_
          conv => whnf
          refine loopA ?_
          refine doneA (by kernel_rfl) (go tbl_ok false ?_)
          conv => whnf
        rotate_left 1
        focus
          refine go tbl_ok false ?_
          conv => whnf
          (repeat (refine ⟨by first | omega | (simp only [ByteArray.size_append, bsz, List.size_toArray, List.length_cons, List.length_nil]; omega) | (show _ ∧ _; omega) | (simp only [Int.toNat_natCast]; first | omega | (show _ ∧ _; omega)) | decide, ?_⟩; conv => whnf))
          refine loopA ?_
          refine splitA [2] (by kernel_rfl) ⟨?_, trivial⟩
          refine go tbl_ok false ?_
          conv => whnf
          refine appW tbl_ok rfl rfl rfl rfl rfl rfl rfl rfl rfl rfl rfl (sGRecord xs) (nil_app) (fun _ => flat_recs xs) (by omega) (go tbl_ok false ?_)
          conv => whnf
          refine loopA ?_
          refine splitA [9] (by kernel_rfl) ⟨?_, trivial⟩
          refine go tbl_ok false ?_
          conv => whnf
          refine loopA ?_
          refine splitA [10] (by kernel_rfl) ⟨?_, trivial⟩
          refine go tbl_ok false ?_
          conv => whnf
          refine loopA ?_
          refine doneA (by kernel_rfl) (go tbl_ok false ?_)
          conv => whnf
      rotate_left 2
      focus
        refine go tbl_ok false ?_
        conv => whnf
        (repeat (refine ⟨by first | omega | (simp only [ByteArray.size_append, bsz, List.size_toArray, List.length_cons, List.length_nil]; omega) | (show _ ∧ _; omega) | (simp only [Int.toNat_natCast]; first | omega | (show _ ∧ _; omega)) | decide, ?_⟩; conv => whnf))
        refine loopA ?_
        refine splitA [0] (by kernel_rfl) ⟨?_, trivial⟩
        refine go tbl_ok false ?_
        conv => whnf
        refine loopA ?_
        refine splitA [2] (by kernel_rfl) ⟨?_, trivial⟩
        refine go tbl_ok false ?_
        conv => whnf
        refine appW tbl_ok rfl rfl rfl rfl rfl rfl rfl rfl rfl rfl rfl (sGRecord xs) (nil_app) (fun _ => flat_recs xs) (by omega) (go tbl_ok false ?_)
        conv => whnf
        refine loopA ?_
        refine splitA [9] (by kernel_rfl) ⟨?_, trivial⟩
        refine go tbl_ok false ?_
        conv => whnf
        refine loopA ?_
        refine splitA [10] (by kernel_rfl) ⟨?_, trivial⟩
        refine go tbl_ok false ?_
        conv => whnf
        refine loopA ?_
        refine doneA (by kernel_rfl) (go tbl_ok false ?_)
        conv => whnf
  all_goals
    refine retW tbl_ok rfl rfl ⟨⟨.inr ⟨rfl, rfl, _, _, rfl⟩, .inr ⟨rfl, rfl, _, _, rfl⟩, ?_, .inr ⟨rfl, rfl, _, _, rfl⟩, ?_, ?_, ?_, .inr ⟨rfl, rfl, _, _, rfl⟩, trivial⟩, trivial⟩
    · exact (rfl : sGRecord xs = sGRecord xs)
    · exact mk4_int
    · exact mk4_bool
    · exact mk4_bool

theorem ownNil (g : GGraph) (w : Int) : Meets Try.prog 40 [.agg g.c, .one (sGRecord []), .one (vi w)] [.one (sGRecord [])] := by
  refine enterW tbl_ok false Try.func40 rfl (by decide) fun W => ?_
  conv => whnf
  refine castW 1 (sGRecord []) rfl nil_cast ?_
  refine loopW tbl_ok false [9, 15, 16, 17, 18] (fun k : Nat => [(8, .c (vi k))]) (fun k => [⟨0, [.c (sGNode g.nodes), .c (vi g.workers), .c (vi g.cap)]⟩]) (fun k => [⟨1, sGRecord []⟩])
    (fun k => k ≤ 4) (fun k => 4 - k) 0 (Nat.zero_le _) ⟨by first | rfl | simp [nth, ren2, ren1, ren0], trivial⟩ (by repeat' (first | exact trivial | exact rfl | refine ⟨?_, ?_⟩)) ⟨by first | rfl | exact (congrArg (fun l => slC _ _ l) (List.append_nil _)).symm | (show (_ : Cell) = _; simp) | simp, trivial⟩ trivial (by kernel_rfl) (fun k hk => ?_)
  conv => whnf
  refine ⟨fun h => ?_, fun h => ?_⟩ <;> conv => whnf
  · have h := of_decide_eq_true h
    refine loopW tbl_ok false [] (fun j : Nat => [(9, .c (vi j))]) (fun j => [⟨0, [.c (sGNode g.nodes), .c (vi g.workers), .c (vi g.cap)]⟩]) (fun j => [⟨1, sGRecord []⟩])
      (fun j => j ≤ 0) (fun j => 0 - j) 0 (Nat.zero_le _) ⟨by first | rfl | simp [nth, ren2, ren1, ren0], trivial⟩ (by repeat' (first | exact trivial | exact rfl | refine ⟨?_, ?_⟩)) ⟨by first | rfl | exact (congrArg (fun l => slC _ _ l) (List.append_nil _)).symm | (show (_ : Cell) = _; simp) | simp, trivial⟩ trivial (by kernel_rfl) (fun j hj => ?_)
    conv => whnf
    refine ite_f (by first | with_reducible rfl | assumption | (simp only [decide_eq_false_iff_not]; omega) | simp) ?_
    conv => whnf
    (repeat (refine ⟨by first | omega | (simp only [ByteArray.size_append, bsz, List.size_toArray, List.length_cons, List.length_nil]; omega) | (show _ ∧ _; omega) | (simp only [Int.toNat_natCast]; first | omega | (show _ ∧ _; omega)) | decide, ?_⟩; conv => whnf))
    refine loopE [] (k + 1) (by omega) (by omega) ⟨rfl, trivial⟩ ⟨rfl, trivial⟩ (by repeat' (first | exact trivial | exact rfl | refine ⟨?_, ?_⟩)) (by kernel_rfl) trivial (by kernel_rfl)
  · exact retW tbl_ok rfl rfl ⟨by rfl, trivial⟩

end Go.Proofs.Ytcpjpkcahnldfaa
