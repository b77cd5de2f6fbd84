/- Texts for the law FnExactClusterLines: WIn. No conditions. -/
import Derived.Test.YteonkhnmlolfgaaGreatDoorWDec
import Derived.Test.YteonkhnmlolfgaaGreatDoorEng4

set_option maxRecDepth 100000
namespace Go.Proofs.YteonkhnmlolfgaaGreatDoor
open Go.Sx
theorem specIn (n lo hi : Int) : Meets Tryz.prog 70 [.one (vi n), .one (vi lo), .one (vi hi)] [.one (vb (within n lo hi))] := by
  refine enterW tbl_ok false Tryz.func70 rfl (by decide) fun W => ?_
  conv => whnf
  repeat' (first | (refine auf ?_; conv => whnf) | (refine aut ?_; conv => whnf) | (refine ⟨fun h => ?_, fun h => ?_⟩ <;> conv => whnf) | (refine retW tbl_ok rfl rfl ⟨?_, trivial⟩; conv => whnf) | (refine need1 ?_; conv => whnf) | fail)
  all_goals (refine congrArg vb ?_; simp_all [within] <;> omega)
theorem implIn (n lo hi : Int) : Meets Tryz.prog 72 [.one (vi n), .one (vi lo), .one (vi hi)] [.one (vb (within n lo hi))] := by
  refine enterW tbl_ok false Tryz.func72 rfl (by decide) fun W => ?_
  conv => whnf
  repeat' (first | (refine auf ?_; conv => whnf) | (refine aut ?_; conv => whnf) | (refine ⟨fun h => ?_, fun h => ?_⟩ <;> conv => whnf) | (refine retW tbl_ok rfl rfl ⟨?_, trivial⟩; conv => whnf) | (refine need1 ?_; conv => whnf) | fail)
  all_goals (refine congrArg vb ?_; simp_all [within] <;> omega)


end Go.Proofs.YteonkhnmlolfgaaGreatDoor
