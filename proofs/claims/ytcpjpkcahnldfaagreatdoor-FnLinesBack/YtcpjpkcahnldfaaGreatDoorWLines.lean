/- Texts for the law FnLinesBack: WLines. No conditions. -/
import Derived.Test.YtcpjpkcahnldfaaGreatDoorWNodes2
import Derived.Test.YtcpjpkcahnldfaaGreatDoorWWords

set_option maxRecDepth 100000
namespace Go.Proofs.YtcpjpkcahnldfaaGreatDoor
open Go.Sx
def nodeLine (x : GNode) : ByteArray := if nodeOk x then (⟨#[110, 111, 100, 101, 32]⟩ : ByteArray) ++ nodeText x else (⟨#[]⟩ : ByteArray)
theorem specNodeLine (x : GNode) (ox : x.ok) (hx : x.w ≤ 1048576) : Meets Tryz.prog 27 [.agg x.c] [.one (vs (nodeLine x))] := by
  have hs := nodeText_size x ox hx
  refine enterW tbl_ok false Tryz.func27 rfl (by decide) fun W => ?_
  conv => whnf
  repeat' (first | (refine ite_f (by first | with_reducible rfl | assumption) ?_; conv => whnf) | (refine ite_t (by first | with_reducible rfl | assumption) ?_; conv => whnf) | (refine ⟨fun h => ?_, fun h => ?_⟩ <;> conv => whnf) | (refine callR (specNodeOk x hx) rfl (go tbl_ok false ?_); conv => whnf) | (refine callR (specNodeText x ox hx) rfl (go tbl_ok false ?_); conv => whnf) | (refine ⟨by first | omega | (show _ ∧ _; omega) | ((repeat (first | rw [ByteArray.size_append] | rw [bsz] | rw [List.size_toArray] | rw [List.length_cons] | rw [List.length_nil])) <;> omega) | ((repeat rw [Int.toNat_natCast]) <;> first | omega | (show _ ∧ _; omega)) | (simp only [ByteArray.size_append, bsz, List.size_toArray, List.length_cons, List.length_nil]; omega) | (simp only [Int.toNat_natCast]; first | omega | (show _ ∧ _; omega)) | decide | (simp only [beq_iff_eq, beq_eq_false_iff_ne, bne_iff_ne, bne_eq_false_iff_eq, Bool.not_eq_true', Bool.not_eq_false', Go.Sx.within_iff, Go.Sx.within_f, decide_eq_true_eq, decide_eq_false_iff_not, ne_eq, Int.not_lt, Int.not_le, ge_iff_le, gt_iff_lt, Int.toNat_zero, Int.toNat_one, Int.toNat_natCast] at * <;> first | omega | (show _ ∧ _; omega)), ?_⟩; conv => whnf) | fail)
  · exact retW tbl_ok rfl rfl ⟨congrArg vs (by rw [nodeLine, if_neg]; simpa using h), trivial⟩
  · exact retW tbl_ok rfl rfl ⟨congrArg vs (by rw [nodeLine, if_pos]; simpa using h), trivial⟩
theorem implNodeLine (x : GNode) (ox : x.ok) (hx : x.w ≤ 1048576) : MeetsT Tryz.prog Tab 12 [.agg x.c] [.one (vs (nodeLine x))] := by
  have hs := nodeText_size x ox hx
  refine enterT tbl_ok false Tryz.func12 rfl (by decide) fun W hW => ?_
  conv => whnf
  repeat' (first | (refine ite_f (by first | with_reducible rfl | assumption) ?_; conv => whnf) | (refine ite_t (by first | with_reducible rfl | assumption) ?_; conv => whnf) | (refine ⟨fun h => ?_, fun h => ?_⟩ <;> conv => whnf) | (refine callR (implNodeOk x hx) rfl (go tbl_ok false ?_); conv => whnf) | (refine callRT (implNodeText x ox hx) tabStays hW rfl (go tbl_ok false ?_); conv => whnf) | (refine ⟨by first | omega | (show _ ∧ _; omega) | ((repeat (first | rw [ByteArray.size_append] | rw [bsz] | rw [List.size_toArray] | rw [List.length_cons] | rw [List.length_nil])) <;> omega) | ((repeat rw [Int.toNat_natCast]) <;> first | omega | (show _ ∧ _; omega)) | (simp only [ByteArray.size_append, bsz, List.size_toArray, List.length_cons, List.length_nil]; omega) | (simp only [Int.toNat_natCast]; first | omega | (show _ ∧ _; omega)) | decide | (simp only [beq_iff_eq, beq_eq_false_iff_ne, bne_iff_ne, bne_eq_false_iff_eq, Bool.not_eq_true', Bool.not_eq_false', Go.Sx.within_iff, Go.Sx.within_f, decide_eq_true_eq, decide_eq_false_iff_not, ne_eq, Int.not_lt, Int.not_le, ge_iff_le, gt_iff_lt, Int.toNat_zero, Int.toNat_one, Int.toNat_natCast] at * <;> first | omega | (show _ ∧ _; omega)), ?_⟩; conv => whnf) | fail)
  · exact retW tbl_ok rfl rfl ⟨congrArg vs (by rw [nodeLine, if_neg]; simpa using h), trivial⟩
  · exact retW tbl_ok rfl rfl ⟨congrArg vs (by rw [nodeLine, if_pos]; simpa using h), trivial⟩

end Go.Proofs.YtcpjpkcahnldfaaGreatDoor
