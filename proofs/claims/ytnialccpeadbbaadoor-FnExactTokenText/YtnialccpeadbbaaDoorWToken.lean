/- Texts for the law FnExactTokenText: WToken. No conditions. -/
import Derived.Test.YtnialccpeadbbaaDoorWDec
import Derived.Test.YtnialccpeadbbaaDoorEng3

set_option maxRecDepth 100000
namespace Go.Proofs.YtnialccpeadbbaaDoor
open Go.Sx
def tokenText (t : GToken) : ByteArray :=
  if t.going then
    (if t.capped then dec t.at_ ++ (⟨#[32]⟩ : ByteArray) ++ dec t.sum ++ (if t.black then (⟨#[32, 98, 108, 97, 99, 107]⟩ : ByteArray) else (⟨#[32, 119, 104, 105, 116, 101]⟩ : ByteArray)) ++ (⟨#[32, 99, 97, 112, 112, 101, 100]⟩ : ByteArray) else dec t.at_ ++ (⟨#[32]⟩ : ByteArray) ++ dec t.sum ++ (if t.black then (⟨#[32, 98, 108, 97, 99, 107]⟩ : ByteArray) else (⟨#[32, 119, 104, 105, 116, 101]⟩ : ByteArray)))
  else (⟨#[114, 101, 115, 116]⟩ : ByteArray)
theorem specTokenText (t : GToken) (o : t.ok) : Meets Tryd.prog 12 [.agg t.c] [.one (vs (tokenText t))] := by
  obtain ⟨g, a, s, b, c⟩ := t
  have o1 : inR .i64 a := by simp [GToken.ok] at o; exact o.1
  have o2 : inR .i64 s := by simp [GToken.ok] at o; exact o.2
  have d1 := dec_size o1
  have d2 := dec_size o2
  refine enterW tbl_ok false Tryd.func12 rfl (by decide) fun W => ?_
  conv => whnf
  repeat' (first | (refine ite_f (by first | with_reducible rfl | assumption) ?_; conv => whnf) | (refine ite_t (by first | with_reducible rfl | assumption) ?_; conv => whnf) | (refine ⟨fun h => ?_, fun h => ?_⟩ <;> conv => whnf) | (refine callR (specDecimal _ o1) rfl (go tbl_ok false ?_); conv => whnf) | (refine callR (specDecimal _ o2) rfl (go tbl_ok false ?_); conv => whnf) | (refine ⟨by first | omega | (simp only [ByteArray.size_append, bsz, List.size_toArray, List.length_cons, List.length_nil]; omega) | (show _ ∧ _; omega) | (simp only [Int.toNat_natCast]; first | omega | (show _ ∧ _; omega)) | decide | (simp only [beq_iff_eq, beq_eq_false_iff_ne, bne_iff_ne, bne_eq_false_iff_eq, Bool.not_eq_true', Bool.not_eq_false', Go.Sx.within_iff, Go.Sx.within_f, decide_eq_true_eq, decide_eq_false_iff_not, ne_eq, Int.not_lt, Int.not_le, ge_iff_le, gt_iff_lt, Int.toNat_zero, Int.toNat_one] at * <;> first | omega | (show _ ∧ _; omega)), ?_⟩; conv => whnf) | (refine drawI 3 rfl [0, 1, 4, 5, 2, 3, 6, 7, 8] (by kernel_rfl) (go tbl_ok false ?_); conv => whnf) | fail)
  all_goals (refine retW tbl_ok rfl rfl ⟨congrArg vs ?_, trivial⟩; simp_all [tokenText])
theorem implTokenText (t : GToken) (o : t.ok) : MeetsT Tryd.prog Tab 14 [.agg t.c] [.one (vs (tokenText t))] := by
  obtain ⟨g, a, s, b, c⟩ := t
  have o1 : inR .i64 a := by simp [GToken.ok] at o; exact o.1
  have o2 : inR .i64 s := by simp [GToken.ok] at o; exact o.2
  have d1 := dec_size o1
  have d2 := dec_size o2
  refine enterT tbl_ok false Tryd.func14 rfl (by decide) fun W hW => ?_
  conv => whnf
  repeat' (first | (refine ite_f (by first | with_reducible rfl | assumption) ?_; conv => whnf) | (refine ite_t (by first | with_reducible rfl | assumption) ?_; conv => whnf) | (refine ⟨fun h => ?_, fun h => ?_⟩ <;> conv => whnf) | (refine callRT (implDecimal _ o1) tabStays hW rfl (go tbl_ok false ?_); conv => whnf) | (refine callRT (implDecimal _ o2) tabStays hW rfl (go tbl_ok false ?_); conv => whnf) | (refine ⟨by first | omega | (simp only [ByteArray.size_append, bsz, List.size_toArray, List.length_cons, List.length_nil]; omega) | (show _ ∧ _; omega) | (simp only [Int.toNat_natCast]; first | omega | (show _ ∧ _; omega)) | decide | (simp only [beq_iff_eq, beq_eq_false_iff_ne, bne_iff_ne, bne_eq_false_iff_eq, Bool.not_eq_true', Bool.not_eq_false', Go.Sx.within_iff, Go.Sx.within_f, decide_eq_true_eq, decide_eq_false_iff_not, ne_eq, Int.not_lt, Int.not_le, ge_iff_le, gt_iff_lt, Int.toNat_zero, Int.toNat_one] at * <;> first | omega | (show _ ∧ _; omega)), ?_⟩; conv => whnf) | (refine drawI 3 rfl [0, 1, 4, 5, 2, 3, 6, 7, 8] (by kernel_rfl) (go tbl_ok false ?_); conv => whnf) | fail)
  all_goals (refine retW tbl_ok rfl rfl ⟨congrArg vs ?_, trivial⟩; simp_all [tokenText])

end Go.Proofs.YtnialccpeadbbaaDoor
