/- Texts for the law FnExactReadNode: LReadNode. No conditions. -/
import Derived.Test.YtimlkifkiphioaaDoorWRnd2
import Derived.Test.YtimlkifkiphioaaDoorWRnd3

set_option maxRecDepth 100000
namespace Go.Proofs.YtimlkifkiphioaaDoor
open Go.Sx
theorem law (x0 : ByteArray) (_o0 : x0.size ≤ maxLen) : MeetsT Tryd.prog Tab 5 [.one (vs x0)] [.one (vb true)] := by
  refine enterT tbl_ok false Tryd.func5 rfl (by decide) fun W hW => ?_
  conv => whnf
  refine ⟨fun h => ?_, fun h => ?_⟩ <;> simp only [decide_eq_true_eq, decide_eq_false_iff_not] at h <;> conv => whnf
  · exact retW tbl_ok rfl rfl ⟨rfl, trivial⟩
  have h0 : x0.size ≤ 1048576 := by omega
  have hb0 := readNodeV_w x0
  have hr0 := GNode.cntV_le (readNodeV x0)
  refine callR (specReadNode x0 h0) rfl (go tbl_ok false ?_)
  conv => whnf
  refine callWT (implReadNode x0 h0) tabStays hW rfl (go tbl_ok false ?_)
  conv => whnf
  refine callR (eqNode (readNodeV x0) hb0) rfl (go tbl_ok false ?_)
  conv => whnf
  repeat (first | (refine ite_f (by first | with_reducible rfl | assumption) ?_; conv => whnf) | (refine ⟨fun h => absurd h (by first | (simp only [decide_eq_true_eq]; omega) | simp [ba_self]), fun _ => ?_⟩; conv => whnf) | (refine ite_t (by first | with_reducible rfl | assumption) ?_; conv => whnf))
  repeat (first | (refine ite_f (by first | with_reducible rfl | assumption) ?_; conv => whnf) | (refine ⟨fun h => absurd h (by first | (simp only [decide_eq_true_eq]; omega) | simp [ba_self]), fun _ => ?_⟩; conv => whnf) | (refine ite_t (by first | with_reducible rfl | assumption) ?_; conv => whnf))
  refine callU (markNode (readNodeV x0) (1) (by omega) (by omega)) (by exact ⟨rfl, rfl, rfl, rfl, trivial⟩) (by exact ⟨trivial, trivial, trivial, trivial, trivial⟩) rfl rfl rfl (go tbl_ok false ?_)
  conv => whnf
  refine callR (heldNode (readNodeV x0) (1) (by omega) (by omega)) rfl (go tbl_ok false ?_)
  conv => whnf
  repeat (first | (refine ite_f (by first | with_reducible rfl | assumption) ?_; conv => whnf) | (refine ⟨fun h => absurd h (by first | (simp only [decide_eq_true_eq]; omega) | simp [ba_self]), fun _ => ?_⟩; conv => whnf) | (refine ite_t (by first | with_reducible rfl | assumption) ?_; conv => whnf))
  repeat (first | (refine ite_f (by first | with_reducible rfl | assumption) ?_; conv => whnf) | (refine ⟨fun h => absurd h (by first | (simp only [decide_eq_true_eq]; omega) | simp [ba_self]), fun _ => ?_⟩; conv => whnf) | (refine ite_t (by first | with_reducible rfl | assumption) ?_; conv => whnf))
  refine callRT (implReadNode x0 h0) tabStays hW rfl (go tbl_ok false ?_)
  conv => whnf
  refine callR (eqNode (readNodeV x0) hb0) rfl (go tbl_ok false ?_)
  conv => whnf
  repeat (first | (refine ite_f (by first | with_reducible rfl | assumption) ?_; conv => whnf) | (refine ⟨fun h => absurd h (by first | (simp only [decide_eq_true_eq]; omega) | simp [ba_self]), fun _ => ?_⟩; conv => whnf) | (refine ite_t (by first | with_reducible rfl | assumption) ?_; conv => whnf))
  repeat (first | (refine ite_f (by first | with_reducible rfl | assumption) ?_; conv => whnf) | (refine ⟨fun h => absurd h (by first | (simp only [decide_eq_true_eq]; omega) | simp [ba_self]), fun _ => ?_⟩; conv => whnf) | (refine ite_t (by first | with_reducible rfl | assumption) ?_; conv => whnf))
  refine callR (heldNode (readNodeV x0) (1) (by omega) (by omega)) rfl (go tbl_ok false ?_)
  conv => whnf
  repeat (first | (refine ite_f (by first | with_reducible rfl | assumption) ?_; conv => whnf) | (refine ⟨fun h => absurd h (by first | (simp only [decide_eq_true_eq]; omega) | simp [ba_self]), fun _ => ?_⟩; conv => whnf) | (refine ite_t (by first | with_reducible rfl | assumption) ?_; conv => whnf))
  repeat (first | (refine ite_f (by first | with_reducible rfl | assumption) ?_; conv => whnf) | (refine ⟨fun h => absurd h (by first | (simp only [decide_eq_true_eq]; omega) | simp [ba_self]), fun _ => ?_⟩; conv => whnf) | (refine ite_t (by first | with_reducible rfl | assumption) ?_; conv => whnf))
  exact retW tbl_ok rfl rfl ⟨rfl, trivial⟩

end Go.Proofs.YtimlkifkiphioaaDoor
