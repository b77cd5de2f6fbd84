/- Texts for the law FnExactClusterLines: WCell. No conditions. -/
import Derived.Test.YteonkhnmlolfgaaGreatDoorWDec

set_option maxRecDepth 100000
namespace Go.Proofs.YteonkhnmlolfgaaGreatDoor
open Go.Sx
def cellLine (x : GCell) : ByteArray := dec x.epoch ++ (⟨#[32]⟩ : ByteArray) ++ dec x.op ++ (⟨#[32]⟩ : ByteArray) ++ dec x.key ++ (⟨#[32]⟩ : ByteArray) ++ dec x.val
theorem specCellLine (x : GCell) (o : x.ok) : Meets Tryz.prog 22 [.agg x.c] [.one (vs (cellLine x))] := by
  obtain ⟨o1, o2, o3, o4⟩ := o
  have d1 := dec_size o1
  have d2 := dec_size o2
  have d3 := dec_size o3
  have d4 := dec_size o4
  refine enterW tbl_ok false Tryz.func22 rfl (by decide) fun W => ?_
  conv => whnf
  repeat' (first | (refine auf ?_; conv => whnf) | (refine aut ?_; conv => whnf) | (refine ⟨fun h => ?_, fun h => ?_⟩ <;> conv => whnf) | (refine callR (specDecimal _ o1) rfl (go tbl_ok false ?_); conv => whnf) | (refine callR (specDecimal _ o2) rfl (go tbl_ok false ?_); conv => whnf) | (refine callR (specDecimal _ o3) rfl (go tbl_ok false ?_); conv => whnf) | (refine callR (specDecimal _ o4) rfl (go tbl_ok false ?_); conv => whnf) | (refine needF ?_; conv => whnf) | (refine drawI 1 rfl [0, 1, 4, 5, 9, 10, 14, 15, 2, 3, 6, 7, 8, 11, 12, 13, 16, 17, 18] (by kernel_rfl) (go tbl_ok false ?_); conv => whnf) | fail)
  exact retW tbl_ok rfl rfl ⟨rfl, trivial⟩
theorem implCellLine (x : GCell) (o : x.ok) : MeetsT Tryz.prog Tab 29 [.agg x.c] [.one (vs (cellLine x))] := by
  obtain ⟨o1, o2, o3, o4⟩ := o
  have d1 := dec_size o1
  have d2 := dec_size o2
  have d3 := dec_size o3
  have d4 := dec_size o4
  refine enterT tbl_ok false Tryz.func29 rfl (by decide) fun W hW => ?_
  conv => whnf
  repeat' (first | (refine auf ?_; conv => whnf) | (refine aut ?_; conv => whnf) | (refine ⟨fun h => ?_, fun h => ?_⟩ <;> conv => whnf) | (refine callRT (implDecimal _ o1) tabStays hW rfl (go tbl_ok false ?_); conv => whnf) | (refine callRT (implDecimal _ o2) tabStays hW rfl (go tbl_ok false ?_); conv => whnf) | (refine callRT (implDecimal _ o3) tabStays hW rfl (go tbl_ok false ?_); conv => whnf) | (refine callRT (implDecimal _ o4) tabStays hW rfl (go tbl_ok false ?_); conv => whnf) | (refine needF ?_; conv => whnf) | (refine drawI 1 rfl [0, 1, 4, 5, 9, 10, 14, 15, 2, 3, 6, 7, 8, 11, 12, 13, 16, 17, 18] (by kernel_rfl) (go tbl_ok false ?_); conv => whnf) | fail)
  exact retW tbl_ok rfl rfl ⟨rfl, trivial⟩

end Go.Proofs.YteonkhnmlolfgaaGreatDoor
