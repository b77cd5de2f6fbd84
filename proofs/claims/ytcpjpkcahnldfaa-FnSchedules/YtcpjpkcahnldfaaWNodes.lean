/- Texts for the law FnSchedules: WNodes. No conditions. -/
import Derived.Test.YtcpjpkcahnldfaaWIn

set_option maxRecDepth 100000
namespace Go.Proofs.Ytcpjpkcahnldfaa
open Go.Sx
def NodeP (x : GNode) : Prop := (1 ≤ x.kind ∧ x.kind ≤ 8) ∧ (x.kind = 2 → 0 ≤ x.a ∧ x.a ≤ 999 ∧ x.b = 0) ∧ (x.kind = 3 → 1 ≤ x.a ∧ x.a ≤ 10 ∧ 0 ≤ x.b ∧ x.b ≤ x.a - 1) ∧ (x.kind = 4 → 0 ≤ x.a ∧ x.a ≤ 99 ∧ x.b = 0) ∧
  (x.kind ≠ 2 → x.kind ≠ 3 → x.kind ≠ 4 → x.a = 0 ∧ x.b = 0) ∧ x.outs.length ≤ 2 ∧ (x.kind = 8 → x.outs.length = 0) ∧ (x.outs.length = 2 → x.outs.getD 0 default ≠ x.outs.getD 1 default) ∧ (∀ n ∈ x.outs, 0 ≤ n ∧ n ≤ 7)
instance (x : GNode) : Decidable (NodeP x) := by unfold NodeP; infer_instance
def nodeOk (x : GNode) : Bool := decide (NodeP x)
def OutsI (l : List Int) (k : Nat) : Prop := ∀ i, i < k → 0 ≤ l.getD i default ∧ l.getD i default ≤ 7
theorem outsI_succ {l : List Int} {k : Nat} (h : OutsI l k) (h1 : 0 ≤ l.getD k default) (h2 : l.getD k default ≤ 7) : OutsI l (k + 1) := fun i hi => by
  by_cases e : i = k
  · subst e; exact ⟨h1, h2⟩
  · exact h i (by omega)
theorem outsI_all {l : List Int} (h : OutsI l l.length) : ∀ n ∈ l, 0 ≤ n ∧ n ≤ 7 := fun n hn => by
  obtain ⟨i, hi, e⟩ := List.getElem_of_mem hn
  have := h i hi
  rw [List.getD, List.getElem?_eq_getElem hi] at this
  rw [← e]; exact this

def ParsP (x : GNode) : Prop := (1 ≤ x.kind ∧ x.kind ≤ 8) ∧ (x.kind = 2 → 0 ≤ x.a ∧ x.a ≤ 999 ∧ x.b = 0) ∧ (x.kind = 3 → 1 ≤ x.a ∧ x.a ≤ 10 ∧ 0 ≤ x.b ∧ x.b ≤ x.a - 1) ∧ (x.kind = 4 → 0 ≤ x.a ∧ x.a ≤ 99 ∧ x.b = 0) ∧
  (x.kind ≠ 2 → x.kind ≠ 3 → x.kind ≠ 4 → x.a = 0 ∧ x.b = 0)
theorem NodeP.pars {x : GNode} (h : NodeP x) : ParsP x := ⟨h.1, h.2.1, h.2.2.1, h.2.2.2.1, h.2.2.2.2.1⟩

end Go.Proofs.Ytcpjpkcahnldfaa
