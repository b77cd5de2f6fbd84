/- Texts for the law FnExactClusterLines: WGr. No conditions. -/
import Derived.Test.YteonkhnmlolfgaaGreatDoorWNodes2

set_option maxRecDepth 100000
namespace Go.Proofs.YteonkhnmlolfgaaGreatDoor
open Go.Sx
def kindAt (g : GGraph) (k : Int) : Int := (g.nodes.getD k.toNat default).kind
def EdgeP (g : GGraph) (i : Nat) (x : GNode) (k : Int) : Prop := k < g.nodes.length ∧ (x.kind = 7 → k ≤ i ∧ (kindAt g k = 5 ∨ kindAt g k = 6)) ∧ (x.kind ≠ 7 → i < k)
instance (g : GGraph) (i : Nat) (x : GNode) (k : Int) : Decidable (EdgeP g i x k) := by unfold EdgeP; infer_instance
def NodeAtP (g : GGraph) (i : Nat) : Prop := NodeP (g.nodes.getD i default) ∧ ((g.nodes.getD i default).kind = 1 ↔ i = 0) ∧ ∀ k ∈ (g.nodes.getD i default).outs, EdgeP g i (g.nodes.getD i default) k
instance (g : GGraph) (i : Nat) : Decidable (NodeAtP g i) := by unfold NodeAtP; infer_instance
def GraphP (g : GGraph) : Prop := (1 ≤ g.nodes.length ∧ g.nodes.length ≤ 8) ∧ (1 ≤ g.workers ∧ g.workers ≤ 4) ∧ (1 ≤ g.cap ∧ g.cap ≤ 4) ∧ ∀ i, i < g.nodes.length → NodeAtP g i
instance (g : GGraph) : Decidable (GraphP g) := by unfold GraphP; infer_instance
theorem GGraph.nodes_le {g : GGraph} {n : Nat} (h : g.w ≤ n) : g.nodes.length ≤ n := by
  have : g.nodes.length + (g.nodes.map GNode.w).sum ≤ n := h
  omega
end Go.Proofs.YteonkhnmlolfgaaGreatDoor
