/- Texts for the law FnExactClusterLines: WRec. No conditions. -/
import Derived.Test.YteonkhnmlolfgaaGreatDoorWIn

set_option maxRecDepth 100000
namespace Go.Proofs.YteonkhnmlolfgaaGreatDoor
open Go.Sx
def RecP (r : GRecord) : Prop := (0 ≤ r.op ∧ r.op ≤ 7) ∧ (0 ≤ r.stamp.epoch ∧ r.stamp.epoch ≤ 3) ∧ (0 ≤ r.stamp.turn ∧ r.stamp.turn ≤ 6) ∧ (0 ≤ r.key ∧ r.key ≤ 99) ∧ (0 ≤ r.val ∧ r.val ≤ 999)
instance (r : GRecord) : Decidable (RecP r) := by unfold RecP; infer_instance
end Go.Proofs.YteonkhnmlolfgaaGreatDoor
