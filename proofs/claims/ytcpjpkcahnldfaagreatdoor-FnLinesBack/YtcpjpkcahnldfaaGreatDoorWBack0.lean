/- Texts for the law FnLinesBack: WBack0. No conditions. -/
import Derived.Test.YtcpjpkcahnldfaaGreatDoorH2

set_option maxRecDepth 100000
namespace Go.Proofs.YtcpjpkcahnldfaaGreatDoor
open Go.Sx
/-- The operations of a region of a function, by its number. -/
def regsOf : Code → List (Nat × Array Oper)
  | .region id ops _ => [(id, ops)]
  | .seq a b => regsOf a ++ regsOf b
  | .block _ c => regsOf c
  | .loop c => regsOf c
  | .cond _ a b => regsOf a ++ regsOf b
  | _ => []
def regIn : List (Nat × Array Oper) → Nat → Array Oper
  | [], _ => #[]
  | (i, o) :: r, k => match Nat.beq i k with
    | true => o
    | false => regIn r k
def opsAt (f : Func) (k : Nat) : Array Oper := match f.body with
  | some c => regIn (regsOf c) k
  | none => #[]
theorem mixLB : mixB (opsAt Tryz.f4 22) [0, 1, 2, 3, 4, 5, 6, 7, 8, 9, 10, 11, 12, 13, 14, 15, 16, 17, 18, 19, 20, 21, 22, 23, 24, 25, 26, 27, 28, 29, 30, 31, 32, 33, 34, 35, 36, 37, 38, 39, 40, 41, 42, 43, 44, 46, 45, 47, 48, 49, 50, 51, 52, 53, 54, 55, 56, 57, 58, 59, 60, 61, 62, 63, 64, 65, 66, 67, 68, 69, 70, 71, 72, 73, 74, 75, 76, 77, 78, 79, 80, 81, 83, 82, 84, 85, 86, 87, 88, 89, 90, 91, 92] = true := by kernel_rfl

end Go.Proofs.YtcpjpkcahnldfaaGreatDoor
