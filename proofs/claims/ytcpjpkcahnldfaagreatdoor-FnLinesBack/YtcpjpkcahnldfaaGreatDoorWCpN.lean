/- Texts for the law FnLinesBack: WCpN. No conditions. -/
import Derived.Test.YtcpjpkcahnldfaaGreatDoorH2

set_option maxRecDepth 100000
namespace Go.Proofs.YtcpjpkcahnldfaaGreatDoor
open Go.Sx
theorem copyNode (x : GNode) (h : x.w ≤ 1048576) : Meets Tryz.prog 56 [.agg x.c] [.agg x.c] := by
  have h : x.outs.length ≤ 1048576 := h
  refine enterW tbl_ok false Tryz.func56 rfl (by decide) fun W => ?_
  conv => whnf
  refine appW tbl_ok rfl rfl rfl rfl rfl rfl rfl rfl rfl rfl rfl (sInt x.outs) (nil_app) (fun _ => flat_ints x.outs) (by omega) (go tbl_ok false ?_)
  conv => whnf
  exact retW tbl_ok rfl rfl ⟨⟨rfl, rfl, rfl, rfl, trivial⟩, trivial⟩


end Go.Proofs.YtcpjpkcahnldfaaGreatDoor
