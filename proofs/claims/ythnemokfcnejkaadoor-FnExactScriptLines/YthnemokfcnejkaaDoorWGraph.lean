/- Texts for the law FnExactScriptLines: WGraph. No conditions. -/
import Derived.Test.YthnemokfcnejkaaDoorWGraphS

set_option maxRecDepth 100000
namespace Go.Proofs.YthnemokfcnejkaaDoor
open Go.Sx
theorem implGraphOk (g : GGraph) (hg : g.w ≤ 1048576) : Meets Tryd.prog 67 [.agg g.c] [.one (vb (graphOk g))] := by
  have hn := GGraph.nodes_le hg
  have hu := upto_zero (NodeAtP g)
  refine enterW tbl_ok false Tryd.func67 rfl (by decide) fun W => ?_
  conv => whnf
  repeat' (first | (refine ite_f (by first | with_reducible rfl | assumption) ?_; conv => whnf) | (refine ite_t (by first | with_reducible rfl | assumption) ?_; conv => whnf) | (refine ⟨fun h => ?_, fun h => ?_⟩ <;> conv => whnf) | (refine callR (implIn _ _ _) rfl (go tbl_ok false ?_); conv => whnf) | (refine ⟨by first | omega | (simp only [ByteArray.size_append, bsz, List.size_toArray, List.length_cons, List.length_nil]; omega) | (show _ ∧ _; omega) | (simp only [Int.toNat_natCast]; first | omega | (show _ ∧ _; omega)) | decide | (simp only [beq_iff_eq, beq_eq_false_iff_ne, bne_iff_ne, bne_eq_false_iff_eq, Bool.not_eq_true', Bool.not_eq_false', Go.Sx.within_iff, Go.Sx.within_f, decide_eq_true_eq, decide_eq_false_iff_not, ne_eq, Int.not_lt, Int.not_le, ge_iff_le, gt_iff_lt, Int.toNat_zero, Int.toNat_one, Int.toNat_natCast] at * <;> first | omega | (show _ ∧ _; omega)), ?_⟩; conv => whnf) | fail)
  all_goals try (refine retW tbl_ok rfl rfl ⟨congrArg vb (decide_eq_false fun p => ?_), trivial⟩; have p1 := p.1; have p2 := p.2.1; have p3 := p.2.2.1; clear p; simp only [beq_iff_eq, beq_eq_false_iff_ne, bne_iff_ne, bne_eq_false_iff_eq, Bool.not_eq_true', Bool.not_eq_false', Go.Sx.within_iff, Go.Sx.within_f, decide_eq_true_eq, decide_eq_false_iff_not, ne_eq, Int.not_lt, Int.not_le, ge_iff_le, gt_iff_lt, Int.toNat_zero, Int.toNat_one, Int.toNat_natCast] at * <;> omega)
  refine loopW tbl_ok false [] (fun k : Nat => [(28, .c (vi k))]) (fun k => [⟨0, [.c (sGNode g.nodes), .c (vi g.workers), .c (vi g.cap)]⟩]) (fun k => [])
    (fun k => k ≤ g.nodes.length ∧ Upto (NodeAtP g) k) (fun k => g.nodes.length - k) 0 ⟨Nat.zero_le _, by first | rfl | assumption | simp⟩ ⟨by first | rfl | simp [nth, ren2, ren1, ren0], trivial⟩ (by repeat' (first | exact trivial | exact rfl | refine ⟨?_, ?_⟩)) trivial trivial (by kernel_rfl) (fun k hk => ?_)
  obtain ⟨hk, he⟩ := hk
  conv => whnf
  refine ⟨fun h' => have h' := of_decide_eq_true h'; ?_, fun h' => have h' := of_decide_eq_false h'; ?_⟩ <;> conv => whnf
  · have h' : k < g.nodes.length := by omega
    have hw := GGraph.node_le hg h'
    have hq : (g.nodes.getD k default).outs.length ≤ 1048576 := hw
    have hv := upto_zero (fun j => EdgeP g k (g.nodes.getD k default) ((g.nodes.getD k default).outs.getD j default))
    repeat' (first | (refine ite_f (by first | with_reducible rfl | assumption) ?_; conv => whnf) | (refine ite_t (by first | with_reducible rfl | assumption) ?_; conv => whnf) | (refine ⟨fun h => ?_, fun h => ?_⟩ <;> conv => whnf) | (refine callR (implNodeOk (g.nodes.getD k default) hw) rfl (go tbl_ok false ?_); conv => whnf) | (refine ⟨by first | omega | (simp only [ByteArray.size_append, bsz, List.size_toArray, List.length_cons, List.length_nil]; omega) | (show _ ∧ _; omega) | (simp only [Int.toNat_natCast]; first | omega | (show _ ∧ _; omega)) | decide | (simp only [beq_iff_eq, beq_eq_false_iff_ne, bne_iff_ne, bne_eq_false_iff_eq, Bool.not_eq_true', Bool.not_eq_false', Go.Sx.within_iff, Go.Sx.within_f, decide_eq_true_eq, decide_eq_false_iff_not, ne_eq, Int.not_lt, Int.not_le, ge_iff_le, gt_iff_lt, Int.toNat_zero, Int.toNat_one, Int.toNat_natCast] at * <;> first | omega | (show _ ∧ _; omega)), ?_⟩; conv => whnf) | fail)
    · exact retW tbl_ok rfl rfl ⟨congrArg vb (decide_eq_false fun p => by rw [show nodeOk (g.nodes.getD k default) = true from decide_eq_true (p.2.2.2 k h').1] at h; exact absurd h (by decide)), trivial⟩
    · exact retW tbl_ok rfl rfl ⟨congrArg vb (decide_eq_false fun p => one_ne h (p.2.2.2 k h').2.1), trivial⟩
    · rename_i hno
      have hN : NodeP (g.nodes.getD k default) := of_decide_eq_true (show nodeOk (g.nodes.getD k default) = true by cases hq2 : nodeOk (g.nodes.getD k default) <;> simp_all only [Bool.not_false, Bool.true_eq_false])
      have hK : (g.nodes.getD k default).kind = 1 ↔ k = 0 := one_eq h
      have hO := hN.2.2.2.2.2.2.2.2
      refine loopW tbl_ok false [] (fun j : Nat => [(47, .c (vi j))]) (fun j => [⟨0, [.c (sGNode g.nodes), .c (vi g.workers), .c (vi g.cap)]⟩, ⟨1, [.c (vi (g.nodes.getD k default).kind), .c (vi (g.nodes.getD k default).a), .c (vi (g.nodes.getD k default).b), .c (sInt (g.nodes.getD k default).outs)]⟩]) (fun j => [])
        (fun j => j ≤ (g.nodes.getD k default).outs.length ∧ Upto (fun j => EdgeP g k (g.nodes.getD k default) ((g.nodes.getD k default).outs.getD j default)) j) (fun j => (g.nodes.getD k default).outs.length - j) 0 ⟨Nat.zero_le _, by first | rfl | assumption | simp⟩ ⟨by first | rfl | simp [nth, ren2, ren1, ren0], trivial⟩ (by repeat' (first | exact trivial | exact rfl | refine ⟨?_, ?_⟩)) trivial trivial (by kernel_rfl) (fun j hj => ?_)
      obtain ⟨hj, hej⟩ := hj
      conv => whnf
      refine ⟨fun h2 => have h2 := of_decide_eq_true h2; ?_, fun h2 => have h2 := of_decide_eq_false h2; ?_⟩ <;> conv => whnf
      · have h2 : j < (g.nodes.getD k default).outs.length := by first | omega | (simp only [Int.toNat_natCast] at h2; omega)
        have hb := hO _ (getD_mem (d := default) h2)
        repeat' (first | (refine ite_f (by first | with_reducible rfl | assumption) ?_; conv => whnf) | (refine ite_t (by first | with_reducible rfl | assumption) ?_; conv => whnf) | (refine ⟨fun h => ?_, fun h => ?_⟩ <;> conv => whnf) | (refine ⟨by first | omega | (simp only [ByteArray.size_append, bsz, List.size_toArray, List.length_cons, List.length_nil]; omega) | (show _ ∧ _; omega) | (simp only [Int.toNat_natCast]; first | omega | (show _ ∧ _; omega)) | decide | (simp only [beq_iff_eq, beq_eq_false_iff_ne, bne_iff_ne, bne_eq_false_iff_eq, Bool.not_eq_true', Bool.not_eq_false', Go.Sx.within_iff, Go.Sx.within_f, decide_eq_true_eq, decide_eq_false_iff_not, ne_eq, Int.not_lt, Int.not_le, ge_iff_le, gt_iff_lt, Int.toNat_zero, Int.toNat_one, Int.toNat_natCast] at * <;> first | omega | (show _ ∧ _; omega)), ?_⟩; conv => whnf) | fail)
        all_goals try (refine retW tbl_ok rfl rfl ⟨congrArg vb (decide_eq_false fun p => ?_), trivial⟩; have q := (p.2.2.2 k h').2.2 _ (getD_mem (d := default) h2); clear p hej he hv hu hN hK hO; simp only [EdgeP, kindAt] at q; simp only [beq_iff_eq, beq_eq_false_iff_ne, bne_iff_ne, bne_eq_false_iff_eq, Bool.not_eq_true', Bool.not_eq_false', Go.Sx.within_iff, Go.Sx.within_f, decide_eq_true_eq, decide_eq_false_iff_not, ne_eq, Int.not_lt, Int.not_le, ge_iff_le, gt_iff_lt, Int.toNat_zero, Int.toNat_one, Int.toNat_natCast] at * <;> omega)
        all_goals
          refine loopE [] (j + 1) ⟨by omega, upto_succ hej (by clear hej he hv hu hN hK hO; simp only [EdgeP, kindAt]; simp only [beq_iff_eq, beq_eq_false_iff_ne, bne_iff_ne, bne_eq_false_iff_eq, Bool.not_eq_true', Bool.not_eq_false', Go.Sx.within_iff, Go.Sx.within_f, decide_eq_true_eq, decide_eq_false_iff_not, ne_eq, Int.not_lt, Int.not_le, ge_iff_le, gt_iff_lt, Int.toNat_zero, Int.toNat_one, Int.toNat_natCast] at * <;> omega)⟩ (by omega) ⟨rfl, trivial⟩ trivial (by repeat' (first | exact trivial | exact rfl | refine ⟨?_, ?_⟩)) (by kernel_rfl) trivial (by kernel_rfl)
      · have e : j = (g.nodes.getD k default).outs.length := by first | omega | (simp only [Int.toNat_natCast] at h2; omega)
        (repeat (refine ⟨by first | omega | (simp only [ByteArray.size_append, bsz, List.size_toArray, List.length_cons, List.length_nil]; omega) | (show _ ∧ _; omega) | (simp only [Int.toNat_natCast]; first | omega | (show _ ∧ _; omega)) | decide, ?_⟩; conv => whnf))
        refine loopE [] (k + 1) ⟨by omega, upto_succ he ⟨hN, hK, upto_mem (e ▸ hej)⟩⟩ (by omega) ⟨rfl, trivial⟩ trivial (by repeat' (first | exact trivial | exact rfl | refine ⟨?_, ?_⟩)) (by kernel_rfl) trivial (by kernel_rfl)
  · have e : k = g.nodes.length := by omega
    exact retW tbl_ok rfl rfl ⟨congrArg vb (decide_eq_true ⟨by simp only [beq_iff_eq, beq_eq_false_iff_ne, bne_iff_ne, bne_eq_false_iff_eq, Bool.not_eq_true', Bool.not_eq_false', Go.Sx.within_iff, Go.Sx.within_f, decide_eq_true_eq, decide_eq_false_iff_not, ne_eq, Int.not_lt, Int.not_le, ge_iff_le, gt_iff_lt, Int.toNat_zero, Int.toNat_one, Int.toNat_natCast] at * <;> omega, by simp only [beq_iff_eq, beq_eq_false_iff_ne, bne_iff_ne, bne_eq_false_iff_eq, Bool.not_eq_true', Bool.not_eq_false', Go.Sx.within_iff, Go.Sx.within_f, decide_eq_true_eq, decide_eq_false_iff_not, ne_eq, Int.not_lt, Int.not_le, ge_iff_le, gt_iff_lt, Int.toNat_zero, Int.toNat_one, Int.toNat_natCast] at * <;> omega, by simp only [beq_iff_eq, beq_eq_false_iff_ne, bne_iff_ne, bne_eq_false_iff_eq, Bool.not_eq_true', Bool.not_eq_false', Go.Sx.within_iff, Go.Sx.within_f, decide_eq_true_eq, decide_eq_false_iff_not, ne_eq, Int.not_lt, Int.not_le, ge_iff_le, gt_iff_lt, Int.toNat_zero, Int.toNat_one, Int.toNat_natCast] at * <;> omega, e ▸ he⟩), trivial⟩

def graphLine (g : GGraph) : ByteArray := if graphOk g then (⟨#[103, 114, 97, 112, 104, 32]⟩ : ByteArray) ++ dec g.workers ++ (⟨#[32]⟩ : ByteArray) ++ dec g.cap else (⟨#[]⟩ : ByteArray)
theorem specGraphLine (g : GGraph) (o : g.ok) (hg : g.w ≤ 1048576) : Meets Tryd.prog 22 [.agg g.c] [.one (vs (graphLine g))] := by
  have d1 := dec_size o.2.1
  have d2 := dec_size o.2.2
  refine enterW tbl_ok false Tryd.func22 rfl (by decide) fun W => ?_
  conv => whnf
  repeat' (first | (refine ite_f (by first | with_reducible rfl | assumption) ?_; conv => whnf) | (refine ite_t (by first | with_reducible rfl | assumption) ?_; conv => whnf) | (refine ⟨fun h => ?_, fun h => ?_⟩ <;> conv => whnf) | (refine callR (specGraphOk g hg) rfl (go tbl_ok false ?_); conv => whnf) | (refine callR (specDecimal _ o.2.1) rfl (go tbl_ok false ?_); conv => whnf) | (refine callR (specDecimal _ o.2.2) rfl (go tbl_ok false ?_); conv => whnf) | (refine ⟨by first | omega | (simp only [ByteArray.size_append, bsz, List.size_toArray, List.length_cons, List.length_nil]; omega) | (show _ ∧ _; omega) | (simp only [Int.toNat_natCast]; first | omega | (show _ ∧ _; omega)) | decide | (simp only [beq_iff_eq, beq_eq_false_iff_ne, bne_iff_ne, bne_eq_false_iff_eq, Bool.not_eq_true', Bool.not_eq_false', Go.Sx.within_iff, Go.Sx.within_f, decide_eq_true_eq, decide_eq_false_iff_not, ne_eq, Int.not_lt, Int.not_le, ge_iff_le, gt_iff_lt, Int.toNat_zero, Int.toNat_one, Int.toNat_natCast] at * <;> first | omega | (show _ ∧ _; omega)), ?_⟩; conv => whnf) | (refine drawI 3 rfl [0, 1, 5, 6, 2, 3, 4, 7, 8, 9] (by kernel_rfl) (go tbl_ok false ?_); conv => whnf) | fail)
  all_goals (refine retW tbl_ok rfl rfl ⟨congrArg vs ?_, trivial⟩; simp_all [graphLine])
theorem implGraphLine (g : GGraph) (o : g.ok) (hg : g.w ≤ 1048576) : MeetsT Tryd.prog Tab 30 [.agg g.c] [.one (vs (graphLine g))] := by
  have d1 := dec_size o.2.1
  have d2 := dec_size o.2.2
  refine enterT tbl_ok false Tryd.func30 rfl (by decide) fun W hW => ?_
  conv => whnf
  repeat' (first | (refine ite_f (by first | with_reducible rfl | assumption) ?_; conv => whnf) | (refine ite_t (by first | with_reducible rfl | assumption) ?_; conv => whnf) | (refine ⟨fun h => ?_, fun h => ?_⟩ <;> conv => whnf) | (refine callR (implGraphOk g hg) rfl (go tbl_ok false ?_); conv => whnf) | (refine callRT (implDecimal _ o.2.1) tabStays hW rfl (go tbl_ok false ?_); conv => whnf) | (refine callRT (implDecimal _ o.2.2) tabStays hW rfl (go tbl_ok false ?_); conv => whnf) | (refine ⟨by first | omega | (simp only [ByteArray.size_append, bsz, List.size_toArray, List.length_cons, List.length_nil]; omega) | (show _ ∧ _; omega) | (simp only [Int.toNat_natCast]; first | omega | (show _ ∧ _; omega)) | decide | (simp only [beq_iff_eq, beq_eq_false_iff_ne, bne_iff_ne, bne_eq_false_iff_eq, Bool.not_eq_true', Bool.not_eq_false', Go.Sx.within_iff, Go.Sx.within_f, decide_eq_true_eq, decide_eq_false_iff_not, ne_eq, Int.not_lt, Int.not_le, ge_iff_le, gt_iff_lt, Int.toNat_zero, Int.toNat_one, Int.toNat_natCast] at * <;> first | omega | (show _ ∧ _; omega)), ?_⟩; conv => whnf) | (refine drawI 3 rfl [0, 1, 5, 6, 2, 3, 4, 7, 8, 9] (by kernel_rfl) (go tbl_ok false ?_); conv => whnf) | fail)
  all_goals (refine retW tbl_ok rfl rfl ⟨congrArg vs ?_, trivial⟩; simp_all [graphLine])

end Go.Proofs.YthnemokfcnejkaaDoor
