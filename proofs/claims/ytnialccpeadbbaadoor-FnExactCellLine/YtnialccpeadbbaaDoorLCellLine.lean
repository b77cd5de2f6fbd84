/- Texts for the law FnExactCellLine: LCellLine. No conditions. -/
import Derived.Test.YtnialccpeadbbaaDoorWCell

set_option maxRecDepth 100000
namespace Go.Proofs.YtnialccpeadbbaaDoor
open Go.Sx
theorem law (x0 : GCell) (_o0 : x0.ok) : MeetsT Tryd.prog Tab 3 [.agg x0.c] [.one (vb true)] := by
  refine enterT tbl_ok false Tryd.func3 rfl (by decide) fun W hW => ?_
  conv => whnf
  refine callR (toCell x0) rfl (go tbl_ok false ?_)
  conv => whnf
  refine callR (specCellLine x0 _o0) rfl (go tbl_ok false ?_)
  conv => whnf
  refine callR (toCell x0) rfl (go tbl_ok false ?_)
  conv => whnf
  refine callRT (implCellLine x0 _o0) tabStays hW rfl (go tbl_ok false ?_)
  conv => whnf
  repeat (first | (refine ite_f (by first | with_reducible rfl | assumption) ?_; conv => whnf) | (refine ⟨fun h => absurd h (by first | (simp only [decide_eq_true_eq]; omega) | simp [ba_self]), fun _ => ?_⟩; conv => whnf) | (refine ite_t (by first | with_reducible rfl | assumption) ?_; conv => whnf))
  exact retW tbl_ok rfl rfl ⟨rfl, trivial⟩

end Go.Proofs.YtnialccpeadbbaaDoor
