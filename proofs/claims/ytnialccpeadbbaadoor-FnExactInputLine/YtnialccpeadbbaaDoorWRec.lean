/- Texts for the law FnExactInputLine: WRec. No conditions. -/
import Derived.Test.YtnialccpeadbbaaDoorWDec
import Derived.Test.YtnialccpeadbbaaDoorEng3

set_option maxRecDepth 100000
namespace Go.Proofs.YtnialccpeadbbaaDoor
open Go.Sx
theorem specIn (n lo hi : Int) : Meets Tryd.prog 54 [.one (vi n), .one (vi lo), .one (vi hi)] [.one (vb (within n lo hi))] := by
  refine enterW tbl_ok false Tryd.func54 rfl (by decide) fun W => ?_
  conv => whnf
  repeat' (first | (refine ite_f (by first | with_reducible rfl | assumption) ?_; conv => whnf) | (refine ite_t (by first | with_reducible rfl | assumption) ?_; conv => whnf) | (refine ⟨fun h => ?_, fun h => ?_⟩ <;> conv => whnf) | (refine retW tbl_ok rfl rfl ⟨?_, trivial⟩; conv => whnf) | (refine ⟨by first | omega | (simp only [ByteArray.size_append, bsz, List.size_toArray, List.length_cons, List.length_nil]; omega) | (show _ ∧ _; omega) | (simp only [Int.toNat_natCast]; first | omega | (show _ ∧ _; omega)) | decide, ?_⟩; conv => whnf) | fail)
  all_goals (refine congrArg vb ?_; simp_all [within] <;> omega)
theorem implIn (n lo hi : Int) : Meets Tryd.prog 60 [.one (vi n), .one (vi lo), .one (vi hi)] [.one (vb (within n lo hi))] := by
  refine enterW tbl_ok false Tryd.func60 rfl (by decide) fun W => ?_
  conv => whnf
  repeat' (first | (refine ite_f (by first | with_reducible rfl | assumption) ?_; conv => whnf) | (refine ite_t (by first | with_reducible rfl | assumption) ?_; conv => whnf) | (refine ⟨fun h => ?_, fun h => ?_⟩ <;> conv => whnf) | (refine retW tbl_ok rfl rfl ⟨?_, trivial⟩; conv => whnf) | (refine ⟨by first | omega | (simp only [ByteArray.size_append, bsz, List.size_toArray, List.length_cons, List.length_nil]; omega) | (show _ ∧ _; omega) | (simp only [Int.toNat_natCast]; first | omega | (show _ ∧ _; omega)) | decide, ?_⟩; conv => whnf) | fail)
  all_goals (refine congrArg vb ?_; simp_all [within] <;> omega)


def RecP (r : GRecord) : Prop := (0 ≤ r.op ∧ r.op ≤ 7) ∧ (0 ≤ r.stamp.epoch ∧ r.stamp.epoch ≤ 3) ∧ (0 ≤ r.stamp.turn ∧ r.stamp.turn ≤ 6) ∧ (0 ≤ r.key ∧ r.key ≤ 99) ∧ (0 ≤ r.val ∧ r.val ≤ 999)
instance (r : GRecord) : Decidable (RecP r) := by unfold RecP; infer_instance
def recordOk (r : GRecord) : Bool := decide (RecP r)
theorem recordOk_iff (r : GRecord) : recordOk r = true ↔ (0 ≤ r.op ∧ r.op ≤ 7) ∧ (0 ≤ r.stamp.epoch ∧ r.stamp.epoch ≤ 3) ∧ (0 ≤ r.stamp.turn ∧ r.stamp.turn ≤ 6) ∧ (0 ≤ r.key ∧ r.key ≤ 99) ∧ (0 ≤ r.val ∧ r.val ≤ 999) := decide_eq_true_iff
def stampOk (s : GStamp) : Bool := decide ((0 ≤ s.epoch ∧ s.epoch ≤ 3) ∧ (0 ≤ s.turn ∧ s.turn ≤ 6))

theorem specStampOk (s : GStamp) : Meets Tryd.prog 68 [.agg s.c] [.one (vb (stampOk s))] := by
  refine enterW tbl_ok false Tryd.func68 rfl (by decide) fun W => ?_
  conv => whnf
  repeat' (first | (refine ite_f (by first | with_reducible rfl | assumption) ?_; conv => whnf) | (refine ite_t (by first | with_reducible rfl | assumption) ?_; conv => whnf) | (refine ⟨fun h => ?_, fun h => ?_⟩ <;> conv => whnf) | (refine callR (specIn _ _ _) rfl (go tbl_ok false ?_); conv => whnf) | (refine ⟨by first | omega | (simp only [ByteArray.size_append, bsz, List.size_toArray, List.length_cons, List.length_nil]; omega) | (show _ ∧ _; omega) | (simp only [Int.toNat_natCast]; first | omega | (show _ ∧ _; omega)) | decide | (simp only [beq_iff_eq, beq_eq_false_iff_ne, bne_iff_ne, bne_eq_false_iff_eq, Bool.not_eq_true', Bool.not_eq_false', Go.Sx.within_iff, Go.Sx.within_f, decide_eq_true_eq, decide_eq_false_iff_not, ne_eq, Int.not_lt, Int.not_le, ge_iff_le, gt_iff_lt, Int.toNat_zero, Int.toNat_one] at * <;> first | omega | (show _ ∧ _; omega)), ?_⟩; conv => whnf) | fail)
  all_goals (refine retW tbl_ok rfl rfl ⟨congrArg vb ?_, trivial⟩; (rw [Bool.eq_iff_iff]; simp only [recordOk_iff, stampOk, beq_iff_eq, beq_eq_false_iff_ne, bne_iff_ne, bne_eq_false_iff_eq, Bool.not_eq_true', Bool.not_eq_false', Go.Sx.within_iff, Go.Sx.within_f, decide_eq_true_eq, decide_eq_false_iff_not, Bool.false_eq_true, iff_false, false_iff, iff_true, true_iff, ne_eq] at * <;> omega))
theorem implStampOk (s : GStamp) : Meets Tryd.prog 69 [.agg s.c] [.one (vb (stampOk s))] := by
  refine enterW tbl_ok false Tryd.func69 rfl (by decide) fun W => ?_
  conv => whnf
  repeat' (first | (refine ite_f (by first | with_reducible rfl | assumption) ?_; conv => whnf) | (refine ite_t (by first | with_reducible rfl | assumption) ?_; conv => whnf) | (refine ⟨fun h => ?_, fun h => ?_⟩ <;> conv => whnf) | (refine callR (implIn _ _ _) rfl (go tbl_ok false ?_); conv => whnf) | (refine ⟨by first | omega | (simp only [ByteArray.size_append, bsz, List.size_toArray, List.length_cons, List.length_nil]; omega) | (show _ ∧ _; omega) | (simp only [Int.toNat_natCast]; first | omega | (show _ ∧ _; omega)) | decide | (simp only [beq_iff_eq, beq_eq_false_iff_ne, bne_iff_ne, bne_eq_false_iff_eq, Bool.not_eq_true', Bool.not_eq_false', Go.Sx.within_iff, Go.Sx.within_f, decide_eq_true_eq, decide_eq_false_iff_not, ne_eq, Int.not_lt, Int.not_le, ge_iff_le, gt_iff_lt, Int.toNat_zero, Int.toNat_one] at * <;> first | omega | (show _ ∧ _; omega)), ?_⟩; conv => whnf) | fail)
  all_goals (refine retW tbl_ok rfl rfl ⟨congrArg vb ?_, trivial⟩; (rw [Bool.eq_iff_iff]; simp only [recordOk_iff, stampOk, beq_iff_eq, beq_eq_false_iff_ne, bne_iff_ne, bne_eq_false_iff_eq, Bool.not_eq_true', Bool.not_eq_false', Go.Sx.within_iff, Go.Sx.within_f, decide_eq_true_eq, decide_eq_false_iff_not, Bool.false_eq_true, iff_false, false_iff, iff_true, true_iff, ne_eq] at * <;> omega))
theorem specRecordOk (r : GRecord) : Meets Tryd.prog 35 [.agg r.c] [.one (vb (recordOk r))] := by
  refine enterW tbl_ok false Tryd.func35 rfl (by decide) fun W => ?_
  conv => whnf
  repeat' (first | (refine ite_f (by first | with_reducible rfl | assumption) ?_; conv => whnf) | (refine ite_t (by first | with_reducible rfl | assumption) ?_; conv => whnf) | (refine ⟨fun h => ?_, fun h => ?_⟩ <;> conv => whnf) | (refine callR (specIn _ _ _) rfl (go tbl_ok false ?_); conv => whnf) | (refine callR (specStampOk r.stamp) rfl (go tbl_ok false ?_); conv => whnf) | (refine ⟨by first | omega | (simp only [ByteArray.size_append, bsz, List.size_toArray, List.length_cons, List.length_nil]; omega) | (show _ ∧ _; omega) | (simp only [Int.toNat_natCast]; first | omega | (show _ ∧ _; omega)) | decide | (simp only [beq_iff_eq, beq_eq_false_iff_ne, bne_iff_ne, bne_eq_false_iff_eq, Bool.not_eq_true', Bool.not_eq_false', Go.Sx.within_iff, Go.Sx.within_f, decide_eq_true_eq, decide_eq_false_iff_not, ne_eq, Int.not_lt, Int.not_le, ge_iff_le, gt_iff_lt, Int.toNat_zero, Int.toNat_one] at * <;> first | omega | (show _ ∧ _; omega)), ?_⟩; conv => whnf) | fail)
  all_goals (refine retW tbl_ok rfl rfl ⟨congrArg vb ?_, trivial⟩; (rw [Bool.eq_iff_iff]; simp only [recordOk_iff, stampOk, beq_iff_eq, beq_eq_false_iff_ne, bne_iff_ne, bne_eq_false_iff_eq, Bool.not_eq_true', Bool.not_eq_false', Go.Sx.within_iff, Go.Sx.within_f, decide_eq_true_eq, decide_eq_false_iff_not, Bool.false_eq_true, iff_false, false_iff, iff_true, true_iff, ne_eq] at * <;> omega))
theorem implItemOk (k v : Int) : Meets Tryd.prog 70 [.one (vi k), .one (vi v)] [.one (vb (decide ((0 ≤ k ∧ k ≤ 99) ∧ (0 ≤ v ∧ v ≤ 999))))] := by
  refine enterW tbl_ok false Tryd.func70 rfl (by decide) fun W => ?_
  conv => whnf
  repeat' (first | (refine ite_f (by first | with_reducible rfl | assumption) ?_; conv => whnf) | (refine ite_t (by first | with_reducible rfl | assumption) ?_; conv => whnf) | (refine ⟨fun h => ?_, fun h => ?_⟩ <;> conv => whnf) | (refine callR (implIn _ _ _) rfl (go tbl_ok false ?_); conv => whnf) | (refine ⟨by first | omega | (simp only [ByteArray.size_append, bsz, List.size_toArray, List.length_cons, List.length_nil]; omega) | (show _ ∧ _; omega) | (simp only [Int.toNat_natCast]; first | omega | (show _ ∧ _; omega)) | decide | (simp only [beq_iff_eq, beq_eq_false_iff_ne, bne_iff_ne, bne_eq_false_iff_eq, Bool.not_eq_true', Bool.not_eq_false', Go.Sx.within_iff, Go.Sx.within_f, decide_eq_true_eq, decide_eq_false_iff_not, ne_eq, Int.not_lt, Int.not_le, ge_iff_le, gt_iff_lt, Int.toNat_zero, Int.toNat_one] at * <;> first | omega | (show _ ∧ _; omega)), ?_⟩; conv => whnf) | fail)
  all_goals (refine retW tbl_ok rfl rfl ⟨congrArg vb ?_, trivial⟩; (rw [Bool.eq_iff_iff]; simp only [recordOk_iff, stampOk, beq_iff_eq, beq_eq_false_iff_ne, bne_iff_ne, bne_eq_false_iff_eq, Bool.not_eq_true', Bool.not_eq_false', Go.Sx.within_iff, Go.Sx.within_f, decide_eq_true_eq, decide_eq_false_iff_not, Bool.false_eq_true, iff_false, false_iff, iff_true, true_iff, ne_eq] at * <;> omega))
theorem implRecordOk (r : GRecord) : Meets Tryd.prog 37 [.agg r.c] [.one (vb (recordOk r))] := by
  refine enterW tbl_ok false Tryd.func37 rfl (by decide) fun W => ?_
  conv => whnf
  repeat' (first | (refine ite_f (by first | with_reducible rfl | assumption) ?_; conv => whnf) | (refine ite_t (by first | with_reducible rfl | assumption) ?_; conv => whnf) | (refine ⟨fun h => ?_, fun h => ?_⟩ <;> conv => whnf) | (refine callR (implIn _ _ _) rfl (go tbl_ok false ?_); conv => whnf) | (refine callR (implStampOk r.stamp) rfl (go tbl_ok false ?_); conv => whnf) | (refine callR (implItemOk r.key r.val) rfl (go tbl_ok false ?_); conv => whnf) | (refine ⟨by first | omega | (simp only [ByteArray.size_append, bsz, List.size_toArray, List.length_cons, List.length_nil]; omega) | (show _ ∧ _; omega) | (simp only [Int.toNat_natCast]; first | omega | (show _ ∧ _; omega)) | decide | (simp only [beq_iff_eq, beq_eq_false_iff_ne, bne_iff_ne, bne_eq_false_iff_eq, Bool.not_eq_true', Bool.not_eq_false', Go.Sx.within_iff, Go.Sx.within_f, decide_eq_true_eq, decide_eq_false_iff_not, ne_eq, Int.not_lt, Int.not_le, ge_iff_le, gt_iff_lt, Int.toNat_zero, Int.toNat_one] at * <;> first | omega | (show _ ∧ _; omega)), ?_⟩; conv => whnf) | fail)
  all_goals (refine retW tbl_ok rfl rfl ⟨congrArg vb ?_, trivial⟩; (rw [Bool.eq_iff_iff]; simp only [recordOk_iff, stampOk, beq_iff_eq, beq_eq_false_iff_ne, bne_iff_ne, bne_eq_false_iff_eq, Bool.not_eq_true', Bool.not_eq_false', Go.Sx.within_iff, Go.Sx.within_f, decide_eq_true_eq, decide_eq_false_iff_not, Bool.false_eq_true, iff_false, false_iff, iff_true, true_iff, ne_eq] at * <;> omega))

end Go.Proofs.YtnialccpeadbbaaDoor
