/- Texts for the law FnExactLinesOf: LLinesOf. No conditions. -/
import Derived.Test.YtbmnagjpkhlncaaWLines

set_option maxRecDepth 100000
namespace Go.Proofs.Ytbmnagjpkhlncaa
open Go.Sx
theorem law (x0 : List ByteArray) (o0 : (x0.length ≤ maxLen ∧ ∀ y ∈ x0, y.size ≤ maxLen)) : Meets Try.prog 3 [.one (sStr x0)] [.one (vb true)] := by
  refine enterW tbl_ok false Try.func3 rfl (by decide) fun W => ?_
  conv => whnf
  refine callR (szStringS x0 (1048576) o0 (by omega) (by omega)) rfl (go tbl_ok false ?_)
  conv => whnf
  refine ⟨fun h => ?_, fun h => ?_⟩ <;> simp only [decide_eq_true_eq, decide_eq_false_iff_not] at h <;> conv => whnf
  · exact retW tbl_ok rfl rfl ⟨rfl, trivial⟩
  have g0 := szR_ge h
  rw [szR_pos g0]
  have h0 : wS (fun b => b.size) x0 ≤ 1048576 := by omega
  refine callR (toStringS x0 (Nat.le_trans (Nat.le_add_right _ _) h0)) rfl (go tbl_ok false ?_)
  conv => whnf
  refine callR (specLinesOf x0 h0) rfl (go tbl_ok false ?_)
  conv => whnf
  refine callR (toStringS x0 (Nat.le_trans (Nat.le_add_right _ _) h0)) rfl (go tbl_ok false ?_)
  conv => whnf
  refine callR (implLinesOf x0 h0) rfl (go tbl_ok false ?_)
  conv => whnf
  repeat (first | (refine ite_f (by first | with_reducible rfl | assumption) ?_; conv => whnf) | (refine ⟨fun h => absurd h (by first | (simp only [decide_eq_true_eq]; omega) | simp [ba_self]), fun _ => ?_⟩; conv => whnf) | (refine ite_t (by first | with_reducible rfl | assumption) ?_; conv => whnf))
  refine callR (toStringS x0 (Nat.le_trans (Nat.le_add_right _ _) h0)) rfl (go tbl_ok false ?_)
  conv => whnf
  refine callR (eqStringS x0 (Nat.le_trans (Nat.le_add_right _ _) h0)) rfl (go tbl_ok false ?_)
  conv => whnf
  repeat (first | (refine ite_f (by first | with_reducible rfl | assumption) ?_; conv => whnf) | (refine ⟨fun h => absurd h (by first | (simp only [decide_eq_true_eq]; omega) | simp [ba_self]), fun _ => ?_⟩; conv => whnf) | (refine ite_t (by first | with_reducible rfl | assumption) ?_; conv => whnf))
  exact retW tbl_ok rfl rfl ⟨rfl, trivial⟩

end Go.Proofs.Ytbmnagjpkhlncaa
