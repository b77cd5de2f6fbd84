/- Texts for the law FnExactClusterLines: WCopies. No conditions. -/
import Derived.Test.YteonkhnmlolfgaaGreatDoorEng4
import Derived.Test.YteonkhnmlolfgaaGreatDoorH2

set_option maxRecDepth 100000
namespace Go.Proofs.YteonkhnmlolfgaaGreatDoor
open Go.Sx
theorem implCopyCells (l : List GCell) (h : l.length ≤ 16777216) : Meets Tryz.prog 104 [.one (sGCell l)] [.one (sGCell l)] := by
  refine enterW tbl_ok false Tryz.func104 rfl (by decide) fun W => ?_
  conv => whnf
  refine appW tbl_ok rfl rfl rfl rfl rfl rfl rfl rfl rfl rfl rfl (sGCell l) (nil_app) (fun _ => flat_cells l) (by omega) (go tbl_ok false ?_)
  conv => whnf
  exact retW tbl_ok rfl rfl ⟨rfl, trivial⟩
end Go.Proofs.YteonkhnmlolfgaaGreatDoor
