/- Texts for the law FnExactReadNode: WCpN. No conditions. -/
import Derived.Test.YtimlkifkiphioaaDoorH2

set_option maxRecDepth 100000
namespace Go.Proofs.YtimlkifkiphioaaDoor
open Go.Sx
theorem copyNode (x : GNode) (h : x.w ≤ 1048576) : Meets Tryd.prog 32 [.agg x.c] [.agg x.c] := by
  have h : x.outs.length ≤ 1048576 := h
  refine enterW tbl_ok false Tryd.func32 rfl (by decide) fun W => ?_
  conv => whnf
  refine appW tbl_ok rfl rfl rfl rfl rfl rfl rfl rfl rfl rfl rfl (sInt x.outs) (nil_app) (fun _ => flat_ints x.outs) (by omega) (go tbl_ok false ?_)
  conv => whnf
  exact retW tbl_ok rfl rfl ⟨⟨rfl, rfl, rfl, rfl, trivial⟩, trivial⟩


end Go.Proofs.YtimlkifkiphioaaDoor
