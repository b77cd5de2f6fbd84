/- Texts for the law FnLinesBack: WInp. No conditions. -/
import Derived.Test.YtcpjpkcahnldfaaGreatDoorWRec

set_option maxRecDepth 100000
namespace Go.Proofs.YtcpjpkcahnldfaaGreatDoor
open Go.Sx
def inputLine (r : GRecord) : ByteArray := if RecP r ∧ r.op = 0 ∧ r.stamp.turn = 0 then (⟨#[112, 117, 116, 32]⟩ : ByteArray) ++ dec r.stamp.epoch ++ (⟨#[32]⟩ : ByteArray) ++ dec r.key ++ (⟨#[32]⟩ : ByteArray) ++ dec r.val else (⟨#[]⟩ : ByteArray)
theorem specInputLine (r : GRecord) (o : r.ok) : Meets Tryz.prog 29 [.agg r.c] [.one (vs (inputLine r))] := by
  have o1 : inR .i64 r.stamp.epoch := o.2.1.1
  have o2 : inR .i64 r.key := o.2.2.1
  have o3 : inR .i64 r.val := o.2.2.2
  have d1 := dec_size o1
  have d2 := dec_size o2
  have d3 := dec_size o3
  refine enterW tbl_ok false Tryz.func29 rfl (by decide) fun W => ?_
  conv => whnf
  repeat' (first | (refine ite_f (by first | with_reducible rfl | assumption) ?_; conv => whnf) | (refine ite_t (by first | with_reducible rfl | assumption) ?_; conv => whnf) | (refine ⟨fun h => ?_, fun h => ?_⟩ <;> conv => whnf) | (refine callR (specRecordOk r) rfl (go tbl_ok false ?_); conv => whnf) | (refine callR (specDecimal _ o1) rfl (go tbl_ok false ?_); conv => whnf) | (refine callR (specDecimal _ o2) rfl (go tbl_ok false ?_); conv => whnf) | (refine callR (specDecimal _ o3) rfl (go tbl_ok false ?_); conv => whnf) | (refine ⟨by first | omega | (show _ ∧ _; omega) | ((repeat (first | rw [ByteArray.size_append] | rw [bsz] | rw [List.size_toArray] | rw [List.length_cons] | rw [List.length_nil])) <;> omega) | ((repeat rw [Int.toNat_natCast]) <;> first | omega | (show _ ∧ _; omega)) | (simp only [ByteArray.size_append, bsz, List.size_toArray, List.length_cons, List.length_nil]; omega) | (simp only [Int.toNat_natCast]; first | omega | (show _ ∧ _; omega)) | decide | (simp only [beq_iff_eq, beq_eq_false_iff_ne, bne_iff_ne, bne_eq_false_iff_eq, Bool.not_eq_true', Bool.not_eq_false', Go.Sx.within_iff, Go.Sx.within_f, decide_eq_true_eq, decide_eq_false_iff_not, ne_eq, Int.not_lt, Int.not_le, ge_iff_le, gt_iff_lt, Int.toNat_zero, Int.toNat_one, Int.toNat_natCast] at * <;> first | omega | (show _ ∧ _; omega)), ?_⟩; conv => whnf) | (refine drawI 3 rfl [0, 1, 2, 6, 7, 11, 12, 3, 4, 5, 8, 9, 10, 13, 14, 15] (by kernel_rfl) (go tbl_ok false ?_); conv => whnf) | fail)
  all_goals (refine retW tbl_ok rfl rfl ⟨congrArg vs ?_, trivial⟩; simp_all [inputLine, recordOk])
theorem implInputLine (r : GRecord) (o : r.ok) : MeetsT Tryz.prog Tab 15 [.agg r.c] [.one (vs (inputLine r))] := by
  have o1 : inR .i64 r.stamp.epoch := o.2.1.1
  have o2 : inR .i64 r.key := o.2.2.1
  have o3 : inR .i64 r.val := o.2.2.2
  have d1 := dec_size o1
  have d2 := dec_size o2
  have d3 := dec_size o3
  refine enterT tbl_ok false Tryz.func15 rfl (by decide) fun W hW => ?_
  conv => whnf
  repeat' (first | (refine ite_f (by first | with_reducible rfl | assumption) ?_; conv => whnf) | (refine ite_t (by first | with_reducible rfl | assumption) ?_; conv => whnf) | (refine ⟨fun h => ?_, fun h => ?_⟩ <;> conv => whnf) | (refine callR (implRecordOk r) rfl (go tbl_ok false ?_); conv => whnf) | (refine callRT (implDecimal _ o1) tabStays hW rfl (go tbl_ok false ?_); conv => whnf) | (refine callRT (implDecimal _ o2) tabStays hW rfl (go tbl_ok false ?_); conv => whnf) | (refine callRT (implDecimal _ o3) tabStays hW rfl (go tbl_ok false ?_); conv => whnf) | (refine ⟨by first | omega | (show _ ∧ _; omega) | ((repeat (first | rw [ByteArray.size_append] | rw [bsz] | rw [List.size_toArray] | rw [List.length_cons] | rw [List.length_nil])) <;> omega) | ((repeat rw [Int.toNat_natCast]) <;> first | omega | (show _ ∧ _; omega)) | (simp only [ByteArray.size_append, bsz, List.size_toArray, List.length_cons, List.length_nil]; omega) | (simp only [Int.toNat_natCast]; first | omega | (show _ ∧ _; omega)) | decide | (simp only [beq_iff_eq, beq_eq_false_iff_ne, bne_iff_ne, bne_eq_false_iff_eq, Bool.not_eq_true', Bool.not_eq_false', Go.Sx.within_iff, Go.Sx.within_f, decide_eq_true_eq, decide_eq_false_iff_not, ne_eq, Int.not_lt, Int.not_le, ge_iff_le, gt_iff_lt, Int.toNat_zero, Int.toNat_one, Int.toNat_natCast] at * <;> first | omega | (show _ ∧ _; omega)), ?_⟩; conv => whnf) | (refine drawI 3 rfl [0, 1, 2, 6, 7, 11, 12, 3, 4, 5, 8, 9, 10, 13, 14, 15] (by kernel_rfl) (go tbl_ok false ?_); conv => whnf) | fail)
  all_goals (refine retW tbl_ok rfl rfl ⟨congrArg vs ?_, trivial⟩; simp_all [inputLine, recordOk])

end Go.Proofs.YtcpjpkcahnldfaaGreatDoor
