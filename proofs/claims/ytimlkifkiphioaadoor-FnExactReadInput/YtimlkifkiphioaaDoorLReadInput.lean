/- Texts for the law FnExactReadInput: LReadInput. No conditions. -/
import Derived.Test.YtimlkifkiphioaaDoorWRin

set_option maxRecDepth 100000
namespace Go.Proofs.YtimlkifkiphioaaDoor
open Go.Sx
theorem law (x0 : ByteArray) (_o0 : x0.size ≤ maxLen) : MeetsT Tryd.prog Tab 4 [.one (vs x0)] [.one (vb true)] := by
  refine enterT tbl_ok false Tryd.func4 rfl (by decide) fun W hW => ?_
  conv => whnf
  refine ⟨fun h => ?_, fun h => ?_⟩ <;> simp only [decide_eq_true_eq, decide_eq_false_iff_not] at h <;> conv => whnf
  · exact retW tbl_ok rfl rfl ⟨rfl, trivial⟩
  have h0 : x0.size ≤ 1048576 := by omega
  refine callR (specReadInput x0 h0) rfl (go tbl_ok false ?_)
  conv => whnf
  refine callRT (implReadInput x0 h0) tabStays hW rfl (go tbl_ok false ?_)
  conv => whnf
  refine callR (eqRecord (readInV x0) ) rfl (go tbl_ok false ?_)
  conv => whnf
  repeat (first | (refine ite_f (by first | with_reducible rfl | assumption) ?_; conv => whnf) | (refine ⟨fun h => absurd h (by first | (simp only [decide_eq_true_eq]; omega) | simp [ba_self]), fun _ => ?_⟩; conv => whnf) | (refine ite_t (by first | with_reducible rfl | assumption) ?_; conv => whnf))
  repeat (first | (refine ite_f (by first | with_reducible rfl | assumption) ?_; conv => whnf) | (refine ⟨fun h => absurd h (by first | (simp only [decide_eq_true_eq]; omega) | simp [ba_self]), fun _ => ?_⟩; conv => whnf) | (refine ite_t (by first | with_reducible rfl | assumption) ?_; conv => whnf))
  exact retW tbl_ok rfl rfl ⟨rfl, trivial⟩

end Go.Proofs.YtimlkifkiphioaaDoor
