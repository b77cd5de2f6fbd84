/- Texts for the law FnExactRoundTold: WNodes. No conditions. -/
import Derived.Test.YtlbmkgkmbjadcaaGreatWIn

set_option maxRecDepth 100000
namespace Go.Proofs.YtlbmkgkmbjadcaaGreat
open Go.Sx
def NodeP (x : GNode) : Prop := (1 ≤ x.kind ∧ x.kind ≤ 8) ∧ (x.kind = 2 → 0 ≤ x.a ∧ x.a ≤ 999 ∧ x.b = 0) ∧ (x.kind = 3 → 1 ≤ x.a ∧ x.a ≤ 10 ∧ 0 ≤ x.b ∧ x.b ≤ x.a - 1) ∧ (x.kind = 4 → 0 ≤ x.a ∧ x.a ≤ 99 ∧ x.b = 0) ∧
  (x.kind ≠ 2 → x.kind ≠ 3 → x.kind ≠ 4 → x.a = 0 ∧ x.b = 0) ∧ x.outs.length ≤ 2 ∧ (x.kind = 8 → x.outs.length = 0) ∧ (x.outs.length = 2 → x.outs.getD 0 default ≠ x.outs.getD 1 default) ∧ (∀ n ∈ x.outs, 0 ≤ n ∧ n ≤ 7)
instance (x : GNode) : Decidable (NodeP x) := by unfold NodeP; infer_instance
def nodeOk (x : GNode) : Bool := decide (NodeP x)
def OutsI (l : List Int) (k : Nat) : Prop := ∀ i, i < k → 0 ≤ l.getD i default ∧ l.getD i default ≤ 7
theorem outsI_succ {l : List Int} {k : Nat} (h : OutsI l k) (h1 : 0 ≤ l.getD k default) (h2 : l.getD k default ≤ 7) : OutsI l (k + 1) := fun i hi => by
  by_cases e : i = k
  · subst e; exact ⟨h1, h2⟩
  · exact h i (by omega)
theorem outsI_all {l : List Int} (h : OutsI l l.length) : ∀ n ∈ l, 0 ≤ n ∧ n ≤ 7 := fun n hn => by
  obtain ⟨i, hi, e⟩ := List.getElem_of_mem hn
  have := h i hi
  rw [List.getD, List.getElem?_eq_getElem hi] at this
  rw [← e]; exact this

def ParsP (x : GNode) : Prop := (1 ≤ x.kind ∧ x.kind ≤ 8) ∧ (x.kind = 2 → 0 ≤ x.a ∧ x.a ≤ 999 ∧ x.b = 0) ∧ (x.kind = 3 → 1 ≤ x.a ∧ x.a ≤ 10 ∧ 0 ≤ x.b ∧ x.b ≤ x.a - 1) ∧ (x.kind = 4 → 0 ≤ x.a ∧ x.a ≤ 99 ∧ x.b = 0) ∧
  (x.kind ≠ 2 → x.kind ≠ 3 → x.kind ≠ 4 → x.a = 0 ∧ x.b = 0)
theorem NodeP.pars {x : GNode} (h : NodeP x) : ParsP x := ⟨h.1, h.2.1, h.2.2.1, h.2.2.2.1, h.2.2.2.2.1⟩

theorem implNodeOk (x : GNode) (hx : x.w ≤ 16777216) : Meets Tryz.prog 150 [.agg x.c] [.one (vb (nodeOk x))] := by
  have hl : x.outs.length ≤ 16777216 := hx
  refine enterF 6 tbl_ok false Tryz.func150 rfl (by decide) fun W => ?_
  conv => whnf
  refine cutW tbl_ok false (J := Unit) [5, 6, 7, 8, 9, 10, 11, 12, 13, 14, 15, 16, 17, 18, 19, 20, 21, 22, 23, 24, 25, 26, 27, 28, 29, 30, 31, 32, 33, 34, 35, 36, 37, 38, 39, 40, 41, 42, 43, 44, 45, 46, 47, 48, 49, 50, 51, 52, 53, 54, 55, 56, 57] (fun _ => []) (fun _ => [⟨0, [.c (vi x.kind), .c (vi x.a), .c (vi x.b), .c (sInt x.outs)]⟩]) (fun _ => []) (fun _ => ParsP x) ?_ ?_
  · conv => whnf
    repeat' (first | (refine ite_f (by first | with_reducible rfl | assumption) ?_; conv => whnf) | (refine ite_t (by first | with_reducible rfl | assumption) ?_; conv => whnf) | (refine ⟨fun h => ?_, fun h => ?_⟩ <;> conv => whnf) | (refine callR (implIn _ _ _) rfl (go tbl_ok false ?_); conv => whnf) | (refine ⟨by first | omega | (show _ ∧ _; omega) | ((repeat (first | rw [ByteArray.size_append] | rw [bsz] | rw [List.size_toArray] | rw [List.length_cons] | rw [List.length_nil])) <;> omega) | ((repeat rw [Int.toNat_natCast]) <;> first | omega | (show _ ∧ _; omega)) | (simp only [ByteArray.size_append, bsz, List.size_toArray, List.length_cons, List.length_nil]; omega) | (simp only [Int.toNat_natCast]; first | omega | (show _ ∧ _; omega)) | decide | (simp only [beq_iff_eq, beq_eq_false_iff_ne, bne_iff_ne, bne_eq_false_iff_eq, Bool.not_eq_true', Bool.not_eq_false', Go.Sx.within_iff, Go.Sx.within_f, decide_eq_true_eq, decide_eq_false_iff_not, ne_eq, Int.not_lt, Int.not_le, ge_iff_le, gt_iff_lt, Int.toNat_zero, Int.toNat_one, Int.toNat_natCast] at * <;> first | omega | (show _ ∧ _; omega)), ?_⟩; conv => whnf) | (refine drawI 19 rfl [0, 1, 2, 3, 4, 5, 6, 7, 8, 9, 10, 11, 12, 13, 14, 15, 16, 17, 18, 19, 20, 21, 22, 23, 24, 25, 26, 27, 28, 29, 30, 31] (by kernel_rfl) (go tbl_ok false ?_); conv => whnf) | fail)
    all_goals first
      | (refine retW tbl_ok rfl rfl ⟨congrArg vb (decide_eq_false fun p => ?_), trivial⟩; have p := p.pars; unfold ParsP at p; obtain ⟨p1, p2, p3, p4, p5⟩ := p; simp only [beq_iff_eq, beq_eq_false_iff_ne, bne_iff_ne, bne_eq_false_iff_eq, Bool.not_eq_true', Bool.not_eq_false', Go.Sx.within_iff, Go.Sx.within_f, decide_eq_true_eq, decide_eq_false_iff_not, ne_eq, Int.not_lt, Int.not_le, ge_iff_le, gt_iff_lt, Int.toNat_zero, Int.toNat_one, Int.toNat_natCast] at * <;> omega)
      | (refine loopE [] () ?_ (by decide) trivial trivial (by repeat' (first | exact trivial | exact rfl | refine ⟨?_, ?_⟩)) (by kernel_rfl) trivial (by kernel_rfl); refine ⟨?_, ?_, ?_, ?_, ?_⟩ <;> (intros; simp only [beq_iff_eq, beq_eq_false_iff_ne, bne_iff_ne, bne_eq_false_iff_eq, Bool.not_eq_true', Bool.not_eq_false', Go.Sx.within_iff, Go.Sx.within_f, decide_eq_true_eq, decide_eq_false_iff_not, ne_eq, Int.not_lt, Int.not_le, ge_iff_le, gt_iff_lt, Int.toNat_zero, Int.toNat_one, Int.toNat_natCast] at * <;> omega))
  intro _ hp
  have hu : OutsI x.outs 0 := fun i h => absurd h (Nat.not_lt_zero i)
  conv => whnf
  unfold ParsP at hp
  repeat' (first | (refine ite_f (by first | with_reducible rfl | assumption) ?_; conv => whnf) | (refine ite_t (by first | with_reducible rfl | assumption) ?_; conv => whnf) | (refine ⟨fun h => ?_, fun h => ?_⟩ <;> conv => whnf) | (refine ⟨by first | omega | (show _ ∧ _; omega) | ((repeat (first | rw [ByteArray.size_append] | rw [bsz] | rw [List.size_toArray] | rw [List.length_cons] | rw [List.length_nil])) <;> omega) | ((repeat rw [Int.toNat_natCast]) <;> first | omega | (show _ ∧ _; omega)) | (simp only [ByteArray.size_append, bsz, List.size_toArray, List.length_cons, List.length_nil]; omega) | (simp only [Int.toNat_natCast]; first | omega | (show _ ∧ _; omega)) | decide | (simp only [beq_iff_eq, beq_eq_false_iff_ne, bne_iff_ne, bne_eq_false_iff_eq, Bool.not_eq_true', Bool.not_eq_false', Go.Sx.within_iff, Go.Sx.within_f, decide_eq_true_eq, decide_eq_false_iff_not, ne_eq, Int.not_lt, Int.not_le, ge_iff_le, gt_iff_lt, Int.toNat_zero, Int.toNat_one, Int.toNat_natCast] at * <;> first | omega | (show _ ∧ _; omega)), ?_⟩; conv => whnf) | (refine drawI 19 rfl [0, 1, 2, 3, 4, 5, 6, 7, 8, 9, 10, 11, 12, 13, 14, 15, 16, 17, 18, 19, 20, 21, 22, 23, 24, 25, 26, 27, 28, 29, 30, 31] (by kernel_rfl) (go tbl_ok false ?_); conv => whnf) | fail)
  all_goals try (refine retW tbl_ok rfl rfl ⟨congrArg vb (decide_eq_false fun p => ?_), trivial⟩; obtain ⟨p1, p2, p3, p4, p5, p6, p7, p8, p9⟩ := p; clear hp p1 p2 p3 p4 p5 p9; simp only [beq_iff_eq, beq_eq_false_iff_ne, bne_iff_ne, bne_eq_false_iff_eq, Bool.not_eq_true', Bool.not_eq_false', Go.Sx.within_iff, Go.Sx.within_f, decide_eq_true_eq, decide_eq_false_iff_not, ne_eq, Int.not_lt, Int.not_le, ge_iff_le, gt_iff_lt, Int.toNat_zero, Int.toNat_one, Int.toNat_natCast] at * <;> omega)
  all_goals
    refine loopW tbl_ok false [] (fun k : Nat => [(93, .c (vi k))]) (fun k => [⟨0, [.c (vi x.kind), .c (vi x.a), .c (vi x.b), .c (sInt x.outs)]⟩]) (fun k => [])
      (fun k => k ≤ x.outs.length ∧ OutsI x.outs k) (fun k => x.outs.length - k) 0 ⟨Nat.zero_le _, by first | rfl | assumption | simp⟩ ⟨by first | rfl | simp [nth, ren2, ren1, ren0], trivial⟩ (by repeat' (first | exact trivial | exact rfl | refine ⟨?_, ?_⟩)) trivial trivial (by kernel_rfl) (fun k hk => ?_)
    obtain ⟨hk, he⟩ := hk
    conv => whnf
    refine ⟨fun h' => have h' := of_decide_eq_true h'; ?_, fun h' => have h' := of_decide_eq_false h'; ?_⟩ <;> conv => whnf
    · have h' : k < x.outs.length := by omega
      (repeat (refine ⟨by first | omega | (show _ ∧ _; omega) | ((repeat (first | rw [ByteArray.size_append] | rw [bsz] | rw [List.size_toArray] | rw [List.length_cons] | rw [List.length_nil])) <;> omega) | ((repeat rw [Int.toNat_natCast]) <;> first | omega | (show _ ∧ _; omega)) | (simp only [ByteArray.size_append, bsz, List.size_toArray, List.length_cons, List.length_nil]; omega) | (simp only [Int.toNat_natCast]; first | omega | (show _ ∧ _; omega)) | decide, ?_⟩; conv => whnf))
      refine callR (implIn (x.outs.getD k default) 0 7) rfl (go tbl_ok false ?_)
      conv => whnf
      refine ⟨fun hc => ?_, fun hc => ?_⟩ <;> conv => whnf
      · exact retW tbl_ok rfl rfl ⟨congrArg vb (decide_eq_false fun p => by have p9 := p.2.2.2.2.2.2.2.2 _ (getD_mem (d := default) h'); clear p hp he; simp only [beq_iff_eq, beq_eq_false_iff_ne, bne_iff_ne, bne_eq_false_iff_eq, Bool.not_eq_true', Bool.not_eq_false', Go.Sx.within_iff, Go.Sx.within_f, decide_eq_true_eq, decide_eq_false_iff_not, ne_eq, Int.not_lt, Int.not_le, ge_iff_le, gt_iff_lt, Int.toNat_zero, Int.toNat_one, Int.toNat_natCast] at * <;> omega), trivial⟩
      · have hc := Go.Sx.within_iff.1 (by simpa using hc)
        (repeat (refine ⟨by first | omega | (show _ ∧ _; omega) | ((repeat (first | rw [ByteArray.size_append] | rw [bsz] | rw [List.size_toArray] | rw [List.length_cons] | rw [List.length_nil])) <;> omega) | ((repeat rw [Int.toNat_natCast]) <;> first | omega | (show _ ∧ _; omega)) | (simp only [ByteArray.size_append, bsz, List.size_toArray, List.length_cons, List.length_nil]; omega) | (simp only [Int.toNat_natCast]; first | omega | (show _ ∧ _; omega)) | decide, ?_⟩; conv => whnf))
        refine loopE [] (k + 1) ⟨by omega, outsI_succ he hc.1 hc.2⟩ (by omega) ⟨rfl, trivial⟩ trivial (by repeat' (first | exact trivial | exact rfl | refine ⟨?_, ?_⟩)) (by kernel_rfl) trivial (by kernel_rfl)
    · have e : k = x.outs.length := by omega
      refine retW tbl_ok rfl rfl ⟨congrArg vb (decide_eq_true ⟨hp.1, hp.2.1, hp.2.2.1, hp.2.2.2.1, hp.2.2.2.2, ?_, ?_, ?_, outsI_all (e ▸ he)⟩), trivial⟩
      all_goals (clear he hp; intros; simp only [beq_iff_eq, beq_eq_false_iff_ne, bne_iff_ne, bne_eq_false_iff_eq, Bool.not_eq_true', Bool.not_eq_false', Go.Sx.within_iff, Go.Sx.within_f, decide_eq_true_eq, decide_eq_false_iff_not, ne_eq, Int.not_lt, Int.not_le, ge_iff_le, gt_iff_lt, Int.toNat_zero, Int.toNat_one, Int.toNat_natCast] at * <;> omega)

end Go.Proofs.YtlbmkgkmbjadcaaGreat
