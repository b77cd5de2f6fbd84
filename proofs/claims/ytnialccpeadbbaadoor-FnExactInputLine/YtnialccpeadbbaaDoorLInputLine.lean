/- Texts for the law FnExactInputLine: LInputLine. No conditions. -/
import Derived.Test.YtnialccpeadbbaaDoorWInp

set_option maxRecDepth 100000
namespace Go.Proofs.YtnialccpeadbbaaDoor
open Go.Sx
theorem law (x0 : GRecord) (_o0 : x0.ok) : MeetsT Tryd.prog Tab 5 [.agg x0.c] [.one (vb true)] := by
  refine enterT tbl_ok false Tryd.func5 rfl (by decide) fun W hW => ?_
  conv => whnf
  refine callR (toRecord x0) rfl (go tbl_ok false ?_)
  conv => whnf
  refine callR (specInputLine x0 _o0) rfl (go tbl_ok false ?_)
  conv => whnf
  refine callR (toRecord x0) rfl (go tbl_ok false ?_)
  conv => whnf
  refine callRT (implInputLine x0 _o0) tabStays hW rfl (go tbl_ok false ?_)
  conv => whnf
  repeat (first | (refine ite_f (by first | with_reducible rfl | assumption) ?_; conv => whnf) | (refine ⟨fun h => absurd h (by first | (simp only [decide_eq_true_eq]; omega) | simp [ba_self]), fun _ => ?_⟩; conv => whnf) | (refine ite_t (by first | with_reducible rfl | assumption) ?_; conv => whnf))
  exact retW tbl_ok rfl rfl ⟨rfl, trivial⟩

end Go.Proofs.YtnialccpeadbbaaDoor
