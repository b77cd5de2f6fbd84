/- Texts for the law FnExactClusterLines: WNodes. No conditions. -/
import Derived.Test.YteonkhnmlolfgaaGreatDoorWIn

set_option maxRecDepth 100000
namespace Go.Proofs.YteonkhnmlolfgaaGreatDoor
open Go.Sx
def NodeP (x : GNode) : Prop := (1 ≤ x.kind ∧ x.kind ≤ 8) ∧ (x.kind = 2 → 0 ≤ x.a ∧ x.a ≤ 999 ∧ x.b = 0) ∧ (x.kind = 3 → 1 ≤ x.a ∧ x.a ≤ 10 ∧ 0 ≤ x.b ∧ x.b ≤ x.a - 1) ∧ (x.kind = 4 → 0 ≤ x.a ∧ x.a ≤ 99 ∧ x.b = 0) ∧
  (x.kind ≠ 2 → x.kind ≠ 3 → x.kind ≠ 4 → x.a = 0 ∧ x.b = 0) ∧ x.outs.length ≤ 2 ∧ (x.kind = 8 → x.outs.length = 0) ∧ (x.outs.length = 2 → x.outs.getD 0 default ≠ x.outs.getD 1 default) ∧ (∀ n ∈ x.outs, 0 ≤ n ∧ n ≤ 7)
instance (x : GNode) : Decidable (NodeP x) := by unfold NodeP; infer_instance
end Go.Proofs.YteonkhnmlolfgaaGreatDoor
