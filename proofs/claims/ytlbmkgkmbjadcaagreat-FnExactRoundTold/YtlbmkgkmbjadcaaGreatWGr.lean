/- Texts for the law FnExactRoundTold: WGr. No conditions. -/
import Derived.Test.YtlbmkgkmbjadcaaGreatWNodes2

set_option maxRecDepth 100000
namespace Go.Proofs.YtlbmkgkmbjadcaaGreat
open Go.Sx
def kindAt (g : GGraph) (k : Int) : Int := (g.nodes.getD k.toNat default).kind
def EdgeP (g : GGraph) (i : Nat) (x : GNode) (k : Int) : Prop := k < g.nodes.length ∧ (x.kind = 7 → k ≤ i ∧ (kindAt g k = 5 ∨ kindAt g k = 6)) ∧ (x.kind ≠ 7 → i < k)
instance (g : GGraph) (i : Nat) (x : GNode) (k : Int) : Decidable (EdgeP g i x k) := by unfold EdgeP; infer_instance
def NodeAtP (g : GGraph) (i : Nat) : Prop := NodeP (g.nodes.getD i default) ∧ ((g.nodes.getD i default).kind = 1 ↔ i = 0) ∧ ∀ k ∈ (g.nodes.getD i default).outs, EdgeP g i (g.nodes.getD i default) k
instance (g : GGraph) (i : Nat) : Decidable (NodeAtP g i) := by unfold NodeAtP; infer_instance
def GraphP (g : GGraph) : Prop := (1 ≤ g.nodes.length ∧ g.nodes.length ≤ 8) ∧ (1 ≤ g.workers ∧ g.workers ≤ 4) ∧ (1 ≤ g.cap ∧ g.cap ≤ 4) ∧ ∀ i, i < g.nodes.length → NodeAtP g i
instance (g : GGraph) : Decidable (GraphP g) := by unfold GraphP; infer_instance
def graphOk (g : GGraph) : Bool := decide (GraphP g)
def Upto (p : Nat → Prop) (k : Nat) : Prop := ∀ i, i < k → p i
theorem upto_zero (p : Nat → Prop) : Upto p 0 := fun i h => absurd h (Nat.not_lt_zero i)
theorem upto_succ {p : Nat → Prop} {k : Nat} (h : Upto p k) (hk : p k) : Upto p (k + 1) := fun i hi => by
  by_cases e : i = k
  · subst e; exact hk
  · exact h i (by omega)
theorem upto_mem {α : Type} [Inhabited α] {l : List α} {p : α → Prop} (h : Upto (fun i => p (l.getD i default)) l.length) : ∀ x ∈ l, p x := fun x hx => by
  obtain ⟨i, hi, e⟩ := List.getElem_of_mem hx
  have : p (l.getD i default) := h i hi
  rw [List.getD, List.getElem?_eq_getElem hi] at this
  rw [← e]; exact this
theorem GGraph.nodes_le {g : GGraph} {n : Nat} (h : g.w ≤ n) : g.nodes.length ≤ n := by
  have : g.nodes.length + (g.nodes.map GNode.w).sum ≤ n := h
  omega
theorem GGraph.node_le {g : GGraph} {n : Nat} (h : g.w ≤ n) {k : Nat} (hk : k < g.nodes.length) : (g.nodes.getD k default).w ≤ n := by
  have : g.nodes.length + (g.nodes.map GNode.w).sum ≤ n := h
  have hle := wS_take_le GNode.w g.nodes k hk
  omega

theorem one_ne {z : Int} {k : Nat} (h : ((z == 1) != ((k : Int) == 0)) = true) : ¬ (z = 1 ↔ k = 0) := by
  intro q
  by_cases e : k = 0
  · have := q.2 e
    subst this; subst e
    exact absurd h (by decide)
  · have e1 : ¬ z = 1 := fun e2 => e (q.1 e2)
    rw [beq_eq_false_iff_ne.2 e1, beq_eq_false_iff_ne.2 (show (k : Int) ≠ 0 by omega)] at h
    exact absurd h (by decide)
theorem one_eq {z : Int} {k : Nat} (h : ((z == 1) != ((k : Int) == 0)) = false) : z = 1 ↔ k = 0 := by
  have h := bne_eq_false_iff_eq.1 h
  constructor
  · intro e
    have h2 : ((k : Int) == 0) = true := by rw [← h, e]; rfl
    have := eq_of_beq h2
    omega
  · intro e
    have h2 : (z == 1) = true := by rw [h, e]; rfl
    exact eq_of_beq h2

theorem specGraphOk (g : GGraph) (hg : g.w ≤ 16777216) : Meets Tryz.prog 85 [.agg g.c] [.one (vb (graphOk g))] := by
  have hn := GGraph.nodes_le hg
  have hu := upto_zero (NodeAtP g)
  refine enterW tbl_ok false Tryz.func85 rfl (by decide) fun W => ?_
  conv => whnf
  repeat' (first | (refine ite_f (by first | with_reducible rfl | assumption) ?_; conv => whnf) | (refine ite_t (by first | with_reducible rfl | assumption) ?_; conv => whnf) | (refine ⟨fun h => ?_, fun h => ?_⟩ <;> conv => whnf) | (refine callR (specIn _ _ _) rfl (go tbl_ok false ?_); conv => whnf) | (refine ⟨by first | omega | (show _ ∧ _; omega) | ((repeat (first | rw [ByteArray.size_append] | rw [bsz] | rw [List.size_toArray] | rw [List.length_cons] | rw [List.length_nil])) <;> omega) | ((repeat rw [Int.toNat_natCast]) <;> first | omega | (show _ ∧ _; omega)) | (simp only [ByteArray.size_append, bsz, List.size_toArray, List.length_cons, List.length_nil]; omega) | (simp only [Int.toNat_natCast]; first | omega | (show _ ∧ _; omega)) | decide | (simp only [beq_iff_eq, beq_eq_false_iff_ne, bne_iff_ne, bne_eq_false_iff_eq, Bool.not_eq_true', Bool.not_eq_false', Go.Sx.within_iff, Go.Sx.within_f, decide_eq_true_eq, decide_eq_false_iff_not, ne_eq, Int.not_lt, Int.not_le, ge_iff_le, gt_iff_lt, Int.toNat_zero, Int.toNat_one, Int.toNat_natCast] at * <;> first | omega | (show _ ∧ _; omega)), ?_⟩; conv => whnf) | fail)
  all_goals try (refine retW tbl_ok rfl rfl ⟨congrArg vb (decide_eq_false fun p => ?_), trivial⟩; have p1 := p.1; have p2 := p.2.1; have p3 := p.2.2.1; clear p; simp only [beq_iff_eq, beq_eq_false_iff_ne, bne_iff_ne, bne_eq_false_iff_eq, Bool.not_eq_true', Bool.not_eq_false', Go.Sx.within_iff, Go.Sx.within_f, decide_eq_true_eq, decide_eq_false_iff_not, ne_eq, Int.not_lt, Int.not_le, ge_iff_le, gt_iff_lt, Int.toNat_zero, Int.toNat_one, Int.toNat_natCast] at * <;> omega)
  refine loopW tbl_ok false [] (fun k : Nat => [(3, .c (vi k))]) (fun k => [⟨0, [.c (sGNode g.nodes), .c (vi g.workers), .c (vi g.cap)]⟩]) (fun k => [])
    (fun k => k ≤ g.nodes.length ∧ Upto (NodeAtP g) k) (fun k => g.nodes.length - k) 0 ⟨Nat.zero_le _, by first | rfl | assumption | simp⟩ ⟨by first | rfl | simp [nth, ren2, ren1, ren0], trivial⟩ (by repeat' (first | exact trivial | exact rfl | refine ⟨?_, ?_⟩)) trivial trivial (by kernel_rfl) (fun k hk => ?_)
  obtain ⟨hk, he⟩ := hk
  conv => whnf
  refine ⟨fun h' => have h' := of_decide_eq_true h'; ?_, fun h' => have h' := of_decide_eq_false h'; ?_⟩ <;> conv => whnf
  · have h' : k < g.nodes.length := by omega
    have hw := GGraph.node_le hg h'
    have hq : (g.nodes.getD k default).outs.length ≤ 16777216 := hw
    have hv := upto_zero (fun j => EdgeP g k (g.nodes.getD k default) ((g.nodes.getD k default).outs.getD j default))
    repeat' (first | (refine ite_f (by first | with_reducible rfl | assumption) ?_; conv => whnf) | (refine ite_t (by first | with_reducible rfl | assumption) ?_; conv => whnf) | (refine ⟨fun h => ?_, fun h => ?_⟩ <;> conv => whnf) | (refine callR (specNodeOk (g.nodes.getD k default) hw) rfl (go tbl_ok false ?_); conv => whnf) | (refine ⟨by first | omega | (show _ ∧ _; omega) | ((repeat (first | rw [ByteArray.size_append] | rw [bsz] | rw [List.size_toArray] | rw [List.length_cons] | rw [List.length_nil])) <;> omega) | ((repeat rw [Int.toNat_natCast]) <;> first | omega | (show _ ∧ _; omega)) | (simp only [ByteArray.size_append, bsz, List.size_toArray, List.length_cons, List.length_nil]; omega) | (simp only [Int.toNat_natCast]; first | omega | (show _ ∧ _; omega)) | decide | (simp only [beq_iff_eq, beq_eq_false_iff_ne, bne_iff_ne, bne_eq_false_iff_eq, Bool.not_eq_true', Bool.not_eq_false', Go.Sx.within_iff, Go.Sx.within_f, decide_eq_true_eq, decide_eq_false_iff_not, ne_eq, Int.not_lt, Int.not_le, ge_iff_le, gt_iff_lt, Int.toNat_zero, Int.toNat_one, Int.toNat_natCast] at * <;> first | omega | (show _ ∧ _; omega)), ?_⟩; conv => whnf) | fail)
    · exact retW tbl_ok rfl rfl ⟨congrArg vb (decide_eq_false fun p => by rw [show nodeOk (g.nodes.getD k default) = true from decide_eq_true (p.2.2.2 k h').1] at h; exact absurd h (by decide)), trivial⟩
    · exact retW tbl_ok rfl rfl ⟨congrArg vb (decide_eq_false fun p => one_ne h (p.2.2.2 k h').2.1), trivial⟩
    · rename_i hno
      have hN : NodeP (g.nodes.getD k default) := of_decide_eq_true (show nodeOk (g.nodes.getD k default) = true by cases hq2 : nodeOk (g.nodes.getD k default) <;> simp_all only [Bool.not_false, Bool.true_eq_false])
      have hK : (g.nodes.getD k default).kind = 1 ↔ k = 0 := one_eq h
      have hO := hN.2.2.2.2.2.2.2.2
      refine loopW tbl_ok false [] (fun j : Nat => [(5, .c (vi j))]) (fun j => [⟨0, [.c (sGNode g.nodes), .c (vi g.workers), .c (vi g.cap)]⟩, ⟨1, [.c (vi (g.nodes.getD k default).kind), .c (vi (g.nodes.getD k default).a), .c (vi (g.nodes.getD k default).b), .c (sInt (g.nodes.getD k default).outs)]⟩]) (fun j => [])
        (fun j => j ≤ (g.nodes.getD k default).outs.length ∧ Upto (fun j => EdgeP g k (g.nodes.getD k default) ((g.nodes.getD k default).outs.getD j default)) j) (fun j => (g.nodes.getD k default).outs.length - j) 0 ⟨Nat.zero_le _, by first | rfl | assumption | simp⟩ ⟨by first | rfl | simp [nth, ren2, ren1, ren0], trivial⟩ (by repeat' (first | exact trivial | exact rfl | refine ⟨?_, ?_⟩)) trivial trivial (by kernel_rfl) (fun j hj => ?_)
      obtain ⟨hj, hej⟩ := hj
      conv => whnf
      refine ⟨fun h2 => have h2 := of_decide_eq_true h2; ?_, fun h2 => have h2 := of_decide_eq_false h2; ?_⟩ <;> conv => whnf
      · have h2 : j < (g.nodes.getD k default).outs.length := by first | omega | (simp only [Int.toNat_natCast] at h2; omega)
        have hb := hO _ (getD_mem (d := default) h2)
        repeat' (first | (refine ite_f (by first | with_reducible rfl | assumption) ?_; conv => whnf) | (refine ite_t (by first | with_reducible rfl | assumption) ?_; conv => whnf) | (refine ⟨fun h => ?_, fun h => ?_⟩ <;> conv => whnf) | (refine ⟨by first | omega | (show _ ∧ _; omega) | ((repeat (first | rw [ByteArray.size_append] | rw [bsz] | rw [List.size_toArray] | rw [List.length_cons] | rw [List.length_nil])) <;> omega) | ((repeat rw [Int.toNat_natCast]) <;> first | omega | (show _ ∧ _; omega)) | (simp only [ByteArray.size_append, bsz, List.size_toArray, List.length_cons, List.length_nil]; omega) | (simp only [Int.toNat_natCast]; first | omega | (show _ ∧ _; omega)) | decide | (simp only [beq_iff_eq, beq_eq_false_iff_ne, bne_iff_ne, bne_eq_false_iff_eq, Bool.not_eq_true', Bool.not_eq_false', Go.Sx.within_iff, Go.Sx.within_f, decide_eq_true_eq, decide_eq_false_iff_not, ne_eq, Int.not_lt, Int.not_le, ge_iff_le, gt_iff_lt, Int.toNat_zero, Int.toNat_one, Int.toNat_natCast] at * <;> first | omega | (show _ ∧ _; omega)), ?_⟩; conv => whnf) | fail)
        all_goals try (refine retW tbl_ok rfl rfl ⟨congrArg vb (decide_eq_false fun p => ?_), trivial⟩; have q := (p.2.2.2 k h').2.2 _ (getD_mem (d := default) h2); clear p hej he hv hu hN hK hO; simp only [EdgeP, kindAt] at q; simp only [beq_iff_eq, beq_eq_false_iff_ne, bne_iff_ne, bne_eq_false_iff_eq, Bool.not_eq_true', Bool.not_eq_false', Go.Sx.within_iff, Go.Sx.within_f, decide_eq_true_eq, decide_eq_false_iff_not, ne_eq, Int.not_lt, Int.not_le, ge_iff_le, gt_iff_lt, Int.toNat_zero, Int.toNat_one, Int.toNat_natCast] at * <;> omega)
        all_goals
          refine loopE [] (j + 1) ⟨by omega, upto_succ hej (by clear hej he hv hu hN hK hO; simp only [EdgeP, kindAt]; simp only [beq_iff_eq, beq_eq_false_iff_ne, bne_iff_ne, bne_eq_false_iff_eq, Bool.not_eq_true', Bool.not_eq_false', Go.Sx.within_iff, Go.Sx.within_f, decide_eq_true_eq, decide_eq_false_iff_not, ne_eq, Int.not_lt, Int.not_le, ge_iff_le, gt_iff_lt, Int.toNat_zero, Int.toNat_one, Int.toNat_natCast] at * <;> omega)⟩ (by omega) ⟨rfl, trivial⟩ trivial (by repeat' (first | exact trivial | exact rfl | refine ⟨?_, ?_⟩)) (by kernel_rfl) trivial (by kernel_rfl)
      · have e : j = (g.nodes.getD k default).outs.length := by first | omega | (simp only [Int.toNat_natCast] at h2; omega)
        (repeat (refine ⟨by first | omega | (show _ ∧ _; omega) | ((repeat (first | rw [ByteArray.size_append] | rw [bsz] | rw [List.size_toArray] | rw [List.length_cons] | rw [List.length_nil])) <;> omega) | ((repeat rw [Int.toNat_natCast]) <;> first | omega | (show _ ∧ _; omega)) | (simp only [ByteArray.size_append, bsz, List.size_toArray, List.length_cons, List.length_nil]; omega) | (simp only [Int.toNat_natCast]; first | omega | (show _ ∧ _; omega)) | decide, ?_⟩; conv => whnf))
        refine loopE [] (k + 1) ⟨by omega, upto_succ he ⟨hN, hK, upto_mem (e ▸ hej)⟩⟩ (by omega) ⟨rfl, trivial⟩ trivial (by repeat' (first | exact trivial | exact rfl | refine ⟨?_, ?_⟩)) (by kernel_rfl) trivial (by kernel_rfl)
  · have e : k = g.nodes.length := by omega
    exact retW tbl_ok rfl rfl ⟨congrArg vb (decide_eq_true ⟨by simp only [beq_iff_eq, beq_eq_false_iff_ne, bne_iff_ne, bne_eq_false_iff_eq, Bool.not_eq_true', Bool.not_eq_false', Go.Sx.within_iff, Go.Sx.within_f, decide_eq_true_eq, decide_eq_false_iff_not, ne_eq, Int.not_lt, Int.not_le, ge_iff_le, gt_iff_lt, Int.toNat_zero, Int.toNat_one, Int.toNat_natCast] at * <;> omega, by simp only [beq_iff_eq, beq_eq_false_iff_ne, bne_iff_ne, bne_eq_false_iff_eq, Bool.not_eq_true', Bool.not_eq_false', Go.Sx.within_iff, Go.Sx.within_f, decide_eq_true_eq, decide_eq_false_iff_not, ne_eq, Int.not_lt, Int.not_le, ge_iff_le, gt_iff_lt, Int.toNat_zero, Int.toNat_one, Int.toNat_natCast] at * <;> omega, by simp only [beq_iff_eq, beq_eq_false_iff_ne, bne_iff_ne, bne_eq_false_iff_eq, Bool.not_eq_true', Bool.not_eq_false', Go.Sx.within_iff, Go.Sx.within_f, decide_eq_true_eq, decide_eq_false_iff_not, ne_eq, Int.not_lt, Int.not_le, ge_iff_le, gt_iff_lt, Int.toNat_zero, Int.toNat_one, Int.toNat_natCast] at * <;> omega, e ▸ he⟩), trivial⟩


end Go.Proofs.YtlbmkgkmbjadcaaGreat
