/- Texts for the law FnExactReadPick: LReadPick. No conditions. -/
import Derived.Test.YtimlkifkiphioaaDoorWRpk2

set_option maxRecDepth 100000
namespace Go.Proofs.YtimlkifkiphioaaDoor
open Go.Sx
theorem law (x0 : ByteArray) (_o0 : x0.size ≤ maxLen) : MeetsT Tryd.prog Tab 3 [.one (vs x0)] [.one (vb true)] := by
  refine enterT tbl_ok false Tryd.func3 rfl (by decide) fun W hW => ?_
  conv => whnf
  refine ⟨fun h => ?_, fun h => ?_⟩ <;> simp only [decide_eq_true_eq, decide_eq_false_iff_not] at h <;> conv => whnf
  · exact retW tbl_ok rfl rfl ⟨rfl, trivial⟩
  have h0 : x0.size ≤ 1048576 := by omega
  refine callR (specReadPick x0 h0) rfl (go tbl_ok false ?_)
  conv => whnf
  refine callRT (implReadPick x0 h0) tabStays hW rfl (go tbl_ok false ?_)
  conv => whnf
  refine callR (eqPick (readPickV x0) ) rfl (go tbl_ok false ?_)
  conv => whnf
  repeat (first | (refine ite_f (by first | with_reducible rfl | assumption) ?_; conv => whnf) | (refine ⟨fun h => absurd h (by first | (simp only [decide_eq_true_eq]; omega) | simp [ba_self]), fun _ => ?_⟩; conv => whnf) | (refine ite_t (by first | with_reducible rfl | assumption) ?_; conv => whnf))
  repeat (first | (refine ite_f (by first | with_reducible rfl | assumption) ?_; conv => whnf) | (refine ⟨fun h => absurd h (by first | (simp only [decide_eq_true_eq]; omega) | simp [ba_self]), fun _ => ?_⟩; conv => whnf) | (refine ite_t (by first | with_reducible rfl | assumption) ?_; conv => whnf))
  exact retW tbl_ok rfl rfl ⟨rfl, trivial⟩

end Go.Proofs.YtimlkifkiphioaaDoor
