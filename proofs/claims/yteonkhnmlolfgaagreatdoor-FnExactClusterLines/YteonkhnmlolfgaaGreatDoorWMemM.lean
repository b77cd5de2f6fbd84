/- Texts for the law FnExactClusterLines: WMemM. No conditions. -/
import Derived.Test.YteonkhnmlolfgaaGreatDoorEng5
import Derived.Test.YteonkhnmlolfgaaGreatDoorWCmp

set_option maxRecDepth 100000
namespace Go.Proofs.YteonkhnmlolfgaaGreatDoor
open Go.Sx
def hasCell (l : List GCell) (x : GCell) : Bool := l.any fun y => decide (y = x)
def putAt (l : List GCell) (x : GCell) : Nat := findN (fun y => !decide (cellCmp y x < 0)) l
def putCell (l : List GCell) (x : GCell) : List GCell := if hasCell l x = true then l else l.take (putAt l x) ++ x :: l.drop (putAt l x)
def leastS (op e k : Int) (s : Int × Bool) (x : GCell) : Int × Bool := if (x.op = op ∧ x.epoch = e ∧ x.key = k) ∧ (s.2 = false ∨ x.val < s.1) then (x.val, true) else s
def leastOf (l : List GCell) (op e k : Int) : Int × Bool := l.foldl (leastS op e k) (0, false)
def notWorse (l : List GCell) (x : GCell) : Prop := (leastOf l x.op x.epoch x.key).2 = true ∧ (leastOf l x.op x.epoch x.key).1 ≤ x.val
instance (l : List GCell) (x : GCell) : Decidable (notWorse l x) := by unfold notWorse; infer_instance
end Go.Proofs.YteonkhnmlolfgaaGreatDoor
