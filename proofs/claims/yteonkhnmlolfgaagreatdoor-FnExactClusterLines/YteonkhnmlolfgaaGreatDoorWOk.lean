/- Texts for the law FnExactClusterLines: WOk. No conditions. -/
import Derived.Test.YteonkhnmlolfgaaGreatDoorWCmp
import Derived.Test.YteonkhnmlolfgaaGreatDoorWGr

set_option maxRecDepth 100000
namespace Go.Proofs.YteonkhnmlolfgaaGreatDoor
open Go.Sx
def CellsP (l : List GCell) : Prop := ∀ i, i < l.length - 1 → cellCmp (l.getD i default) (l.getD (i + 1) default) < 0
instance (l : List GCell) : Decidable (CellsP l) := by unfold CellsP; infer_instance
def OpsP (n : Nat) (l : List GRecord) : Prop := ∀ r ∈ l, RecP r ∧ r.op < n
instance (n : Nat) (l : List GRecord) : Decidable (OpsP n l) := by unfold OpsP; infer_instance
theorem implIsNode (g : GGraph) (k : Int) (hg : g.w ≤ 16777216) : Meets Tryz.prog 89 [.agg g.c, .one (vi k)] [.one (vb (within k 0 (g.nodes.length - 1)))] := by
  have hn := GGraph.nodes_le hg
  refine enterW tbl_ok false Tryz.func89 rfl (by decide) fun W => ?_
  conv => whnf
  (repeat (refine need1 ?_; conv => whnf))
  refine callR (implIn k 0 (g.nodes.length - 1)) rfl (go tbl_ok false ?_)
  conv => whnf
  exact retW tbl_ok rfl rfl ⟨rfl, trivial⟩
def AllP (l : List GRecord) : Prop := ∀ r ∈ l, RecP r
instance (l : List GRecord) : Decidable (AllP l) := by unfold AllP; infer_instance
def LinkN (l : GLink) : Prop := (1 ≤ l.cap ∧ l.cap ≤ 4) ∧ (0 ≤ l.credits ∧ l.credits ≤ l.cap) ∧ (0 ≤ l.back ∧ l.back ≤ l.cap) ∧ l.credits + l.back + l.queue.length = l.cap ∧ (0 ≤ l.sent ∧ l.sent ≤ 1000000000) ∧ 0 ≤ l.got ∧ l.sent - l.got = l.queue.length
instance (l : GLink) : Decidable (LinkN l) := by unfold LinkN; infer_instance
def LinkP (l : GLink) : Prop := LinkN l ∧ AllP l.queue
instance (l : GLink) : Decidable (LinkP l) := by unfold LinkP; infer_instance
end Go.Proofs.YteonkhnmlolfgaaGreatDoor
