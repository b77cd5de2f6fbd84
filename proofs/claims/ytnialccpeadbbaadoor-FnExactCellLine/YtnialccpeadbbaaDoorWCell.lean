/- Texts for the law FnExactCellLine: WCell. No conditions. -/
import Derived.Test.YtnialccpeadbbaaDoorWDec
import Derived.Test.YtnialccpeadbbaaDoorEng3

set_option maxRecDepth 100000
namespace Go.Proofs.YtnialccpeadbbaaDoor
open Go.Sx
def cellLine (x : GCell) : ByteArray := dec x.epoch ++ (⟨#[32]⟩ : ByteArray) ++ dec x.op ++ (⟨#[32]⟩ : ByteArray) ++ dec x.key ++ (⟨#[32]⟩ : ByteArray) ++ dec x.val
theorem specCellLine (x : GCell) (o : x.ok) : Meets Tryd.prog 9 [.agg x.c] [.one (vs (cellLine x))] := by
  obtain ⟨o1, o2, o3, o4⟩ := o
  have d1 := dec_size o1
  have d2 := dec_size o2
  have d3 := dec_size o3
  have d4 := dec_size o4
  refine enterW tbl_ok false Tryd.func9 rfl (by decide) fun W => ?_
  conv => whnf
  repeat' (first | (refine ite_f (by first | with_reducible rfl | assumption) ?_; conv => whnf) | (refine ite_t (by first | with_reducible rfl | assumption) ?_; conv => whnf) | (refine ⟨fun h => ?_, fun h => ?_⟩ <;> conv => whnf) | (refine callR (specDecimal _ o1) rfl (go tbl_ok false ?_); conv => whnf) | (refine callR (specDecimal _ o2) rfl (go tbl_ok false ?_); conv => whnf) | (refine callR (specDecimal _ o3) rfl (go tbl_ok false ?_); conv => whnf) | (refine callR (specDecimal _ o4) rfl (go tbl_ok false ?_); conv => whnf) | (refine ⟨by first | omega | (simp only [ByteArray.size_append, bsz, List.size_toArray, List.length_cons, List.length_nil]; omega) | (show _ ∧ _; omega) | (simp only [Int.toNat_natCast]; first | omega | (show _ ∧ _; omega)) | decide | (simp only [beq_iff_eq, beq_eq_false_iff_ne, bne_iff_ne, bne_eq_false_iff_eq, Bool.not_eq_true', Bool.not_eq_false', Go.Sx.within_iff, Go.Sx.within_f, decide_eq_true_eq, decide_eq_false_iff_not, ne_eq, Int.not_lt, Int.not_le, ge_iff_le, gt_iff_lt, Int.toNat_zero, Int.toNat_one] at * <;> first | omega | (show _ ∧ _; omega)), ?_⟩; conv => whnf) | (refine drawI 1 rfl [0, 1, 4, 5, 9, 10, 14, 15, 2, 3, 6, 7, 8, 11, 12, 13, 16, 17, 18] (by kernel_rfl) (go tbl_ok false ?_); conv => whnf) | fail)
  exact retW tbl_ok rfl rfl ⟨rfl, trivial⟩
theorem implCellLine (x : GCell) (o : x.ok) : MeetsT Tryd.prog Tab 11 [.agg x.c] [.one (vs (cellLine x))] := by
  obtain ⟨o1, o2, o3, o4⟩ := o
  have d1 := dec_size o1
  have d2 := dec_size o2
  have d3 := dec_size o3
  have d4 := dec_size o4
  refine enterT tbl_ok false Tryd.func11 rfl (by decide) fun W hW => ?_
  conv => whnf
  repeat' (first | (refine ite_f (by first | with_reducible rfl | assumption) ?_; conv => whnf) | (refine ite_t (by first | with_reducible rfl | assumption) ?_; conv => whnf) | (refine ⟨fun h => ?_, fun h => ?_⟩ <;> conv => whnf) | (refine callRT (implDecimal _ o1) tabStays hW rfl (go tbl_ok false ?_); conv => whnf) | (refine callRT (implDecimal _ o2) tabStays hW rfl (go tbl_ok false ?_); conv => whnf) | (refine callRT (implDecimal _ o3) tabStays hW rfl (go tbl_ok false ?_); conv => whnf) | (refine callRT (implDecimal _ o4) tabStays hW rfl (go tbl_ok false ?_); conv => whnf) | (refine ⟨by first | omega | (simp only [ByteArray.size_append, bsz, List.size_toArray, List.length_cons, List.length_nil]; omega) | (show _ ∧ _; omega) | (simp only [Int.toNat_natCast]; first | omega | (show _ ∧ _; omega)) | decide | (simp only [beq_iff_eq, beq_eq_false_iff_ne, bne_iff_ne, bne_eq_false_iff_eq, Bool.not_eq_true', Bool.not_eq_false', Go.Sx.within_iff, Go.Sx.within_f, decide_eq_true_eq, decide_eq_false_iff_not, ne_eq, Int.not_lt, Int.not_le, ge_iff_le, gt_iff_lt, Int.toNat_zero, Int.toNat_one] at * <;> first | omega | (show _ ∧ _; omega)), ?_⟩; conv => whnf) | (refine drawI 1 rfl [0, 1, 4, 5, 9, 10, 14, 15, 2, 3, 6, 7, 8, 11, 12, 13, 16, 17, 18] (by kernel_rfl) (go tbl_ok false ?_); conv => whnf) | fail)
  exact retW tbl_ok rfl rfl ⟨rfl, trivial⟩

end Go.Proofs.YtnialccpeadbbaaDoor
