/- Texts for the law FnExactSplitInputs: LSplitInputs. No conditions. -/
import Derived.Test.YtbmnagjpkhlncaaWSplit

set_option maxRecDepth 100000
namespace Go.Proofs.Ytbmnagjpkhlncaa
open Go.Sx
theorem law (x0 : List GRecord) (x1 : Int) (o0 : (x0.length ≤ maxLen ∧ ∀ y ∈ x0, y.ok)) (_o1 : inR .i64 x1) : Meets Try.prog 6 [.one (sGRecord x0), .one (vi x1)] [.one (vb true)] := by
  refine enterW tbl_ok false Try.func6 rfl (by decide) fun W => ?_
  conv => whnf
  refine callR (szRecordS x0 (1048576) o0.1 (by omega) (by omega)) rfl (go tbl_ok false ?_)
  conv => whnf
  refine ⟨fun h => ?_, fun h => ?_⟩ <;> simp only [decide_eq_true_eq, decide_eq_false_iff_not] at h <;> conv => whnf
  · exact retW tbl_ok rfl rfl ⟨rfl, trivial⟩
  have g0 := szR_ge h
  rw [szR_pos g0]
  have h0 : x0.length ≤ 1048576 := by omega
  have hm0 := GRecord.sum_le x0
  have hB := brought_range x1 0 4 (by decide)
  have hL := splitIn_length x0 (brought x1 0 4).toNat
  have hM := sum_len_le (splitIn x0 (brought x1 0 4).toNat) 1048576 (fun y hy => Nat.le_trans (splitIn_len _ _ y hy) h0)
  have hb0 : (splitIn x0 (brought x1 0 4).toNat).length ≤ 1048576 ∧ ∀ y ∈ splitIn x0 (brought x1 0 4).toNat, y.length ≤ 1048576 := ⟨by omega, fun y hy => Nat.le_trans (splitIn_len _ _ y hy) h0⟩
  have hr0 := lSum_le (splitIn x0 (brought x1 0 4).toNat)
  refine callR (toRecordS x0 h0) rfl (go tbl_ok false ?_)
  conv => whnf
  refine callR (specSplitInputs x0 x1 h0) rfl (go tbl_ok false ?_)
  conv => whnf
  refine callW (toRecordS x0 h0) rfl (go tbl_ok false ?_)
  conv => whnf
  refine callW (implSplitInputs x0 x1 h0) rfl (go tbl_ok false ?_)
  conv => whnf
  refine callR (eqRecordSS (splitIn x0 (brought x1 0 4).toNat) hb0) rfl (go tbl_ok false ?_)
  conv => whnf
  repeat (first | (refine ite_f (by first | with_reducible rfl | assumption) ?_; conv => whnf) | (refine ⟨fun h => absurd h (by first | (simp only [decide_eq_true_eq]; omega) | simp), fun _ => ?_⟩; conv => whnf) | (refine ite_t (by first | with_reducible rfl | assumption) ?_; conv => whnf))
  refine callR (toRecordS x0 h0) rfl (go tbl_ok false ?_)
  conv => whnf
  refine callR (eqRecordS x0 h0) rfl (go tbl_ok false ?_)
  conv => whnf
  repeat (first | (refine ite_f (by first | with_reducible rfl | assumption) ?_; conv => whnf) | (refine ⟨fun h => absurd h (by first | (simp only [decide_eq_true_eq]; omega) | simp), fun _ => ?_⟩; conv => whnf) | (refine ite_t (by first | with_reducible rfl | assumption) ?_; conv => whnf))
  refine callU (markRecordS x0 (1) (by omega) (by omega)) rfl trivial rfl rfl rfl (go tbl_ok false ?_)
  conv => whnf
  repeat (first | (refine ite_f (by first | with_reducible rfl | assumption) ?_; conv => whnf) | (refine ⟨fun h => absurd h (by first | (simp only [decide_eq_true_eq]; omega) | simp), fun _ => ?_⟩; conv => whnf) | (refine ite_t (by first | with_reducible rfl | assumption) ?_; conv => whnf))
  refine callR (eqRecordSS (splitIn x0 (brought x1 0 4).toNat) hb0) rfl (go tbl_ok false ?_)
  conv => whnf
  repeat (first | (refine ite_f (by first | with_reducible rfl | assumption) ?_; conv => whnf) | (refine ⟨fun h => absurd h (by first | (simp only [decide_eq_true_eq]; omega) | simp), fun _ => ?_⟩; conv => whnf) | (refine ite_t (by first | with_reducible rfl | assumption) ?_; conv => whnf))
  refine callU (markRecordSS (splitIn x0 (brought x1 0 4).toNat) (1) (by omega) (by omega) (by omega)) rfl trivial rfl rfl rfl (go tbl_ok false ?_)
  conv => whnf
  refine callR (heldRecordSS (splitIn x0 (brought x1 0 4).toNat) (1) (by omega) (by omega) (by omega)) rfl (go tbl_ok false ?_)
  conv => whnf
  repeat (first | (refine ite_f (by first | with_reducible rfl | assumption) ?_; conv => whnf) | (refine ⟨fun h => absurd h (by first | (simp only [decide_eq_true_eq]; omega) | simp), fun _ => ?_⟩; conv => whnf) | (refine ite_t (by first | with_reducible rfl | assumption) ?_; conv => whnf))
  repeat (first | (refine ite_f (by first | with_reducible rfl | assumption) ?_; conv => whnf) | (refine ⟨fun h => absurd h (by first | (simp only [decide_eq_true_eq]; omega) | simp), fun _ => ?_⟩; conv => whnf) | (refine ite_t (by first | with_reducible rfl | assumption) ?_; conv => whnf))
  refine callR (toRecordS x0 h0) rfl (go tbl_ok false ?_)
  conv => whnf
  refine callR (implSplitInputs x0 x1 h0) rfl (go tbl_ok false ?_)
  conv => whnf
  refine callR (eqRecordSS (splitIn x0 (brought x1 0 4).toNat) hb0) rfl (go tbl_ok false ?_)
  conv => whnf
  repeat (first | (refine ite_f (by first | with_reducible rfl | assumption) ?_; conv => whnf) | (refine ⟨fun h => absurd h (by first | (simp only [decide_eq_true_eq]; omega) | simp), fun _ => ?_⟩; conv => whnf) | (refine ite_t (by first | with_reducible rfl | assumption) ?_; conv => whnf))
  refine callR (heldRecordSS (splitIn x0 (brought x1 0 4).toNat) (1) (by omega) (by omega) (by omega)) rfl (go tbl_ok false ?_)
  conv => whnf
  repeat (first | (refine ite_f (by first | with_reducible rfl | assumption) ?_; conv => whnf) | (refine ⟨fun h => absurd h (by first | (simp only [decide_eq_true_eq]; omega) | simp), fun _ => ?_⟩; conv => whnf) | (refine ite_t (by first | with_reducible rfl | assumption) ?_; conv => whnf))
  repeat (first | (refine ite_f (by first | with_reducible rfl | assumption) ?_; conv => whnf) | (refine ⟨fun h => absurd h (by first | (simp only [decide_eq_true_eq]; omega) | simp), fun _ => ?_⟩; conv => whnf) | (refine ite_t (by first | with_reducible rfl | assumption) ?_; conv => whnf))
  exact retW tbl_ok rfl rfl ⟨rfl, trivial⟩

end Go.Proofs.Ytbmnagjpkhlncaa
