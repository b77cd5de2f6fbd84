/- Texts for the law FnExactWithoutWorker: LWithoutWorker. No conditions. -/
import Derived.Test.YtbmnagjpkhlncaaW1

set_option maxRecDepth 100000
namespace Go.Proofs.Ytbmnagjpkhlncaa
open Go.Sx
theorem law (x0 : List GPick) (x1 : Int) (o0 : (x0.length ≤ maxLen ∧ ∀ y ∈ x0, y.ok)) (_o1 : inR .i64 x1) : Meets Try.prog 5 [.one (sGPick x0), .one (vi x1)] [.one (vb true)] := by
  refine enterW tbl_ok false Try.func5 rfl (by decide) fun W => ?_
  conv => whnf
  refine callR (szPickS x0 (1048576) o0.1 (by omega) (by omega)) rfl (go tbl_ok false ?_)
  conv => whnf
  refine ⟨fun h => ?_, fun h => ?_⟩ <;> simp only [decide_eq_true_eq, decide_eq_false_iff_not] at h <;> conv => whnf
  · exact retW tbl_ok rfl rfl ⟨rfl, trivial⟩
  have g0 := szR_ge h
  rw [szR_pos g0]
  have h0 : x0.length ≤ 1048576 := by omega
  have hm0 := GPick.sum_le x0
  have hb0 : (without x0 x1).length ≤ 1048576 := Nat.le_trans (List.length_filter_le _ _) h0
  have hr0 := GPick.sum_le (without x0 x1)
  refine callR (toPickS x0 h0) rfl (go tbl_ok false ?_)
  conv => whnf
  refine callR (specWithoutWorker x0 x1 h0) rfl (go tbl_ok false ?_)
  conv => whnf
  refine callW (toPickS x0 h0) rfl (go tbl_ok false ?_)
  conv => whnf
  refine callW (implWithoutWorker x0 x1 h0) rfl (go tbl_ok false ?_)
  conv => whnf
  refine callR (eqPickS (without x0 x1) hb0) rfl (go tbl_ok false ?_)
  conv => whnf
  repeat (first | (refine ⟨fun h => nomatch (Eq.trans (Eq.symm h) (by first | with_reducible rfl | assumption) : true = false), fun _ => ?_⟩; conv => whnf) | (refine ⟨fun h => absurd h (by first | (simp only [decide_eq_true_eq]; omega) | simp), fun _ => ?_⟩; conv => whnf) | (refine ⟨fun _ => ?_, fun h => nomatch (Eq.trans (Eq.symm h) (by first | with_reducible rfl | assumption) : false = true)⟩; conv => whnf))
  refine callR (toPickS x0 h0) rfl (go tbl_ok false ?_)
  conv => whnf
  refine callR (eqPickS x0 h0) rfl (go tbl_ok false ?_)
  conv => whnf
  repeat (first | (refine ⟨fun h => nomatch (Eq.trans (Eq.symm h) (by first | with_reducible rfl | assumption) : true = false), fun _ => ?_⟩; conv => whnf) | (refine ⟨fun h => absurd h (by first | (simp only [decide_eq_true_eq]; omega) | simp), fun _ => ?_⟩; conv => whnf) | (refine ⟨fun _ => ?_, fun h => nomatch (Eq.trans (Eq.symm h) (by first | with_reducible rfl | assumption) : false = true)⟩; conv => whnf))
  refine callU (markPickS x0 (1) (by omega) (by omega)) rfl trivial rfl rfl rfl (go tbl_ok false ?_)
  conv => whnf
  repeat (first | (refine ⟨fun h => nomatch (Eq.trans (Eq.symm h) (by first | with_reducible rfl | assumption) : true = false), fun _ => ?_⟩; conv => whnf) | (refine ⟨fun h => absurd h (by first | (simp only [decide_eq_true_eq]; omega) | simp), fun _ => ?_⟩; conv => whnf) | (refine ⟨fun _ => ?_, fun h => nomatch (Eq.trans (Eq.symm h) (by first | with_reducible rfl | assumption) : false = true)⟩; conv => whnf))
  refine callR (eqPickS (without x0 x1) hb0) rfl (go tbl_ok false ?_)
  conv => whnf
  repeat (first | (refine ⟨fun h => nomatch (Eq.trans (Eq.symm h) (by first | with_reducible rfl | assumption) : true = false), fun _ => ?_⟩; conv => whnf) | (refine ⟨fun h => absurd h (by first | (simp only [decide_eq_true_eq]; omega) | simp), fun _ => ?_⟩; conv => whnf) | (refine ⟨fun _ => ?_, fun h => nomatch (Eq.trans (Eq.symm h) (by first | with_reducible rfl | assumption) : false = true)⟩; conv => whnf))
  refine callU (markPickS (without x0 x1) (1) (by omega) (by omega)) rfl trivial rfl rfl rfl (go tbl_ok false ?_)
  conv => whnf
  refine callR (heldPickS (without x0 x1) (1) (by omega) (by omega)) rfl (go tbl_ok false ?_)
  conv => whnf
  repeat (first | (refine ⟨fun h => nomatch (Eq.trans (Eq.symm h) (by first | with_reducible rfl | assumption) : true = false), fun _ => ?_⟩; conv => whnf) | (refine ⟨fun h => absurd h (by first | (simp only [decide_eq_true_eq]; omega) | simp), fun _ => ?_⟩; conv => whnf) | (refine ⟨fun _ => ?_, fun h => nomatch (Eq.trans (Eq.symm h) (by first | with_reducible rfl | assumption) : false = true)⟩; conv => whnf))
  repeat (first | (refine ⟨fun h => nomatch (Eq.trans (Eq.symm h) (by first | with_reducible rfl | assumption) : true = false), fun _ => ?_⟩; conv => whnf) | (refine ⟨fun h => absurd h (by first | (simp only [decide_eq_true_eq]; omega) | simp), fun _ => ?_⟩; conv => whnf) | (refine ⟨fun _ => ?_, fun h => nomatch (Eq.trans (Eq.symm h) (by first | with_reducible rfl | assumption) : false = true)⟩; conv => whnf))
  refine callR (toPickS x0 h0) rfl (go tbl_ok false ?_)
  conv => whnf
  refine callR (implWithoutWorker x0 x1 h0) rfl (go tbl_ok false ?_)
  conv => whnf
  refine callR (eqPickS (without x0 x1) hb0) rfl (go tbl_ok false ?_)
  conv => whnf
  repeat (first | (refine ⟨fun h => nomatch (Eq.trans (Eq.symm h) (by first | with_reducible rfl | assumption) : true = false), fun _ => ?_⟩; conv => whnf) | (refine ⟨fun h => absurd h (by first | (simp only [decide_eq_true_eq]; omega) | simp), fun _ => ?_⟩; conv => whnf) | (refine ⟨fun _ => ?_, fun h => nomatch (Eq.trans (Eq.symm h) (by first | with_reducible rfl | assumption) : false = true)⟩; conv => whnf))
  refine callR (heldPickS (without x0 x1) (1) (by omega) (by omega)) rfl (go tbl_ok false ?_)
  conv => whnf
  repeat (first | (refine ⟨fun h => nomatch (Eq.trans (Eq.symm h) (by first | with_reducible rfl | assumption) : true = false), fun _ => ?_⟩; conv => whnf) | (refine ⟨fun h => absurd h (by first | (simp only [decide_eq_true_eq]; omega) | simp), fun _ => ?_⟩; conv => whnf) | (refine ⟨fun _ => ?_, fun h => nomatch (Eq.trans (Eq.symm h) (by first | with_reducible rfl | assumption) : false = true)⟩; conv => whnf))
  repeat (first | (refine ⟨fun h => nomatch (Eq.trans (Eq.symm h) (by first | with_reducible rfl | assumption) : true = false), fun _ => ?_⟩; conv => whnf) | (refine ⟨fun h => absurd h (by first | (simp only [decide_eq_true_eq]; omega) | simp), fun _ => ?_⟩; conv => whnf) | (refine ⟨fun _ => ?_, fun h => nomatch (Eq.trans (Eq.symm h) (by first | with_reducible rfl | assumption) : false = true)⟩; conv => whnf))
  exact retW tbl_ok rfl rfl ⟨rfl, trivial⟩

end Go.Proofs.Ytbmnagjpkhlncaa
