/- Texts for the law FnExactReadScript: WNodes2. No conditions. -/
import Derived.Test.YtcpjpkcahnldfaaGreatDoorWNodes

set_option maxRecDepth 100000
namespace Go.Proofs.YtcpjpkcahnldfaaGreatDoor
open Go.Sx
theorem drec_iff {p : Prop} (d : Decidable p) (q : Prop) [Decidable q] : (Decidable.rec (motive := fun _ => Bool) (fun _ => false) (fun _ => decide q) d = true) ↔ (p ∧ q) := by
  cases d <;> simp [*]
theorem specNodeOk (x : GNode) (hx : x.w ≤ 1048576) : Meets Tryz.prog 71 [.agg x.c] [.one (vb (nodeOk x))] := by
  have hl : x.outs.length ≤ 1048576 := hx
  have hw1 : 1 ≤ x.a → x.a ≤ 10 → IntKind.wrap .i64 (x.a - 1) = x.a - 1 := fun h1 h2 => wrap_inR (by show _ ∧ _; omega)
  refine enterF 20 tbl_ok true Tryz.func71 rfl (by decide) fun W => ?_
  conv => whnf
  refine cutW tbl_ok true (J := Bool × Bool) [12, 13, 14, 15, 16, 17, 18, 19, 20, 21, 22, 23, 24, 25, 26, 27, 28, 29, 30, 31, 32, 33, 34] (fun j => [(3, .c (vb j.1)), (4, .c (vb j.2))]) (fun _ => [⟨0, [.c (vi x.kind), .c (vi x.a), .c (vi x.b), .c (sInt x.outs)]⟩]) (fun _ => []) (fun j => ((j.1 = true ∧ j.2 = true ∧ 1 ≤ x.kind ∧ x.kind ≤ 8) ↔ ParsP x)) ?_ ?_
  · conv => whnf
    repeat' (first | (refine ite_f (by first | with_reducible rfl | assumption) ?_; conv => whnf) | (refine ite_t (by first | with_reducible rfl | assumption) ?_; conv => whnf) | (refine ⟨fun h => ?_, fun h => ?_⟩ <;> conv => whnf) | (refine callR (specIn _ _ _) rfl (go tbl_ok true ?_); conv => whnf) | (refine ⟨by first | omega | (show _ ∧ _; omega) | ((repeat (first | rw [ByteArray.size_append] | rw [bsz] | rw [List.size_toArray] | rw [List.length_cons] | rw [List.length_nil])) <;> omega) | ((repeat rw [Int.toNat_natCast]) <;> first | omega | (show _ ∧ _; omega)) | (simp only [ByteArray.size_append, bsz, List.size_toArray, List.length_cons, List.length_nil]; omega) | (simp only [Int.toNat_natCast]; first | omega | (show _ ∧ _; omega)) | decide | (simp only [beq_iff_eq, beq_eq_false_iff_ne, bne_iff_ne, bne_eq_false_iff_eq, Bool.not_eq_true', Bool.not_eq_false', Go.Sx.within_iff, Go.Sx.within_f, decide_eq_true_eq, decide_eq_false_iff_not, ne_eq, Int.not_lt, Int.not_le, ge_iff_le, gt_iff_lt, Int.toNat_zero, Int.toNat_one, Int.toNat_natCast] at * <;> first | omega | (show _ ∧ _; omega)), ?_⟩; conv => whnf) | (refine drawI 16 rfl [0, 1, 2, 3, 4, 5, 6, 7, 8, 9, 10, 11, 12, 13, 14, 15, 16, 17, 18, 19, 20, 21] (by kernel_rfl) (go tbl_ok true ?_); conv => whnf) | fail)
    all_goals
      refine loopE [] (_, _) ?_ (by decide) ⟨rfl, rfl, trivial⟩ trivial (by repeat' (first | exact trivial | exact rfl | refine ⟨?_, ?_⟩)) (by kernel_rfl) trivial (by kernel_rfl)
      unfold ParsP
      try simp only [drec_iff]
      simp only [beq_iff_eq, beq_eq_false_iff_ne, ne_eq, ge_iff_le] at * <;> omega
  rintro ⟨a, b⟩ hp
  have hu : OutsI x.outs 0 ∧ (2 ≤ 0 → x.outs.getD 0 default ≠ x.outs.getD 1 default) := ⟨fun i h => absurd h (Nat.not_lt_zero i), fun h => by omega⟩
  conv => whnf
  repeat' (first | (refine ite_f (by first | with_reducible rfl | assumption) ?_; conv => whnf) | (refine ite_t (by first | with_reducible rfl | assumption) ?_; conv => whnf) | (refine ⟨fun h => ?_, fun h => ?_⟩ <;> conv => whnf) | (refine callR (specIn _ _ _) rfl (go tbl_ok true ?_); conv => whnf) | (refine ⟨by first | omega | (show _ ∧ _; omega) | ((repeat (first | rw [ByteArray.size_append] | rw [bsz] | rw [List.size_toArray] | rw [List.length_cons] | rw [List.length_nil])) <;> omega) | ((repeat rw [Int.toNat_natCast]) <;> first | omega | (show _ ∧ _; omega)) | (simp only [ByteArray.size_append, bsz, List.size_toArray, List.length_cons, List.length_nil]; omega) | (simp only [Int.toNat_natCast]; first | omega | (show _ ∧ _; omega)) | decide | (simp only [beq_iff_eq, beq_eq_false_iff_ne, bne_iff_ne, bne_eq_false_iff_eq, Bool.not_eq_true', Bool.not_eq_false', Go.Sx.within_iff, Go.Sx.within_f, decide_eq_true_eq, decide_eq_false_iff_not, ne_eq, Int.not_lt, Int.not_le, ge_iff_le, gt_iff_lt, Int.toNat_zero, Int.toNat_one, Int.toNat_natCast] at * <;> first | omega | (show _ ∧ _; omega)), ?_⟩; conv => whnf) | (refine drawI 16 rfl [0, 1, 2, 3, 4, 5, 6, 7, 8, 9, 10, 11, 12, 13, 14, 15, 16, 17, 18, 19, 20, 21] (by kernel_rfl) (go tbl_ok true ?_); conv => whnf) | fail)
  all_goals try (refine retW tbl_ok rfl rfl ⟨congrArg vb (decide_eq_false fun p => ?_), trivial⟩; have q := hp.2 p.pars; obtain ⟨p1, p2, p3, p4, p5, p6, p7, p8, p9⟩ := p; clear hp hu p2 p3 p4 p5 p9; simp only [beq_iff_eq, Bool.not_eq_true', Bool.not_eq_false', Go.Sx.within_iff, Go.Sx.within_f, decide_eq_true_eq, decide_eq_false_iff_not, ne_eq, Int.not_lt, gt_iff_lt] at * <;> first | omega | simp_all)
  all_goals
    refine loopW tbl_ok true [] (fun k : Nat => [(5, .c (vi k))]) (fun k => [⟨0, [.c (vi x.kind), .c (vi x.a), .c (vi x.b), .c (sInt x.outs)]⟩]) (fun k => [])
      (fun k => k ≤ x.outs.length ∧ (OutsI x.outs k ∧ (2 ≤ k → x.outs.getD 0 default ≠ x.outs.getD 1 default))) (fun k => x.outs.length - k) 0 ⟨Nat.zero_le _, by first | rfl | assumption | simp⟩ ⟨by first | rfl | simp [nth, ren2, ren1, ren0], trivial⟩ (by repeat' (first | exact trivial | exact rfl | refine ⟨?_, ?_⟩)) trivial trivial (by kernel_rfl) (fun k hk => ?_)
    obtain ⟨hk, he⟩ := hk
    conv => whnf
    refine ⟨fun h' => have h' := of_decide_eq_true h'; ?_, fun h' => have h' := of_decide_eq_false h'; ?_⟩ <;> conv => whnf
    · have h' : k < x.outs.length := by omega
      clear hp hu
      repeat' (first | (refine ite_f (by first | with_reducible rfl | assumption) ?_; conv => whnf) | (refine ite_t (by first | with_reducible rfl | assumption) ?_; conv => whnf) | (refine ⟨fun h => ?_, fun h => ?_⟩ <;> conv => whnf) | (refine callR (specIn _ _ _) rfl (go tbl_ok true ?_); conv => whnf) | (refine ⟨by first | omega | (show _ ∧ _; omega) | ((repeat (first | rw [ByteArray.size_append] | rw [bsz] | rw [List.size_toArray] | rw [List.length_cons] | rw [List.length_nil])) <;> omega) | ((repeat rw [Int.toNat_natCast]) <;> first | omega | (show _ ∧ _; omega)) | (simp only [ByteArray.size_append, bsz, List.size_toArray, List.length_cons, List.length_nil]; omega) | (simp only [Int.toNat_natCast]; first | omega | (show _ ∧ _; omega)) | decide | (simp only [beq_iff_eq, beq_eq_false_iff_ne, Bool.not_eq_false', Go.Sx.within_iff, decide_eq_true_eq, decide_eq_false_iff_not, ne_eq, Int.not_lt, gt_iff_lt, Int.toNat_natCast] at * <;> first | omega | (show _ ∧ _; omega)), ?_⟩; conv => whnf) | (refine drawI 16 rfl [0, 1, 2, 3, 4, 5, 6, 7, 8, 9, 10, 11, 12, 13, 14, 15, 16, 17, 18, 19, 20, 21] (by kernel_rfl) (go tbl_ok true ?_); conv => whnf) | fail)
      all_goals try (refine retW tbl_ok rfl rfl ⟨congrArg vb (decide_eq_false fun p => ?_), trivial⟩; have p9 := p.2.2.2.2.2.2.2.2 _ (getD_mem (d := default) h'); have p8 := p.2.2.2.2.2.2.2.1; have p6 := p.2.2.2.2.2.1; clear p he; simp only [beq_iff_eq, beq_eq_false_iff_ne, Bool.not_eq_true', Bool.not_eq_false', Go.Sx.within_iff, Go.Sx.within_f, decide_eq_true_eq, decide_eq_false_iff_not, ne_eq, Int.not_lt, gt_iff_lt, Int.toNat_zero, Int.toNat_one, Int.toNat_natCast] at * <;> omega)
      all_goals
        refine loopE [] (k + 1) ⟨by omega, ⟨outsI_succ he.1 (by clear he; simp only [beq_iff_eq, beq_eq_false_iff_ne, Bool.not_eq_false', Go.Sx.within_iff, decide_eq_true_eq, decide_eq_false_iff_not, ne_eq, Int.not_lt, gt_iff_lt, Int.toNat_zero, Int.toNat_one, Int.toNat_natCast] at * <;> omega) (by clear he; simp only [beq_iff_eq, beq_eq_false_iff_ne, Bool.not_eq_false', Go.Sx.within_iff, decide_eq_true_eq, decide_eq_false_iff_not, ne_eq, Int.not_lt, gt_iff_lt, Int.toNat_zero, Int.toNat_one, Int.toNat_natCast] at * <;> omega), by have q := he.2; clear he; simp only [beq_iff_eq, beq_eq_false_iff_ne, Bool.not_eq_false', Go.Sx.within_iff, decide_eq_true_eq, decide_eq_false_iff_not, ne_eq, Int.not_lt, gt_iff_lt, Int.toNat_zero, Int.toNat_one, Int.toNat_natCast] at * <;> omega⟩⟩ (by omega) ⟨congrArg (fun n => AV.c (vi n)) (wrap_succ k (by omega)), trivial⟩ trivial (by repeat' (first | exact trivial | exact rfl | refine ⟨?_, ?_⟩)) (by kernel_rfl) trivial (by kernel_rfl)
    · have e : k = x.outs.length := by omega
      have hq : ParsP x := hp.1 (by clear hp hu he; simp only [beq_iff_eq, beq_eq_false_iff_ne, Bool.not_eq_false', Go.Sx.within_iff, decide_eq_false_iff_not, ne_eq, Int.not_lt, gt_iff_lt] at * <;> first | omega | (refine ⟨?_, ?_, ?_, ?_⟩ <;> first | assumption | omega))
      have q := he.2
      refine retW tbl_ok rfl rfl ⟨congrArg vb (decide_eq_true ⟨hq.1, hq.2.1, hq.2.2.1, hq.2.2.2.1, hq.2.2.2.2, ?_, ?_, ?_, outsI_all (e ▸ he.1)⟩), trivial⟩
      all_goals (clear he hp hu hq; intros; simp only [beq_iff_eq, beq_eq_false_iff_ne, Bool.not_eq_false', Go.Sx.within_iff, decide_eq_false_iff_not, ne_eq, Int.not_lt, gt_iff_lt] at * <;> omega)

end Go.Proofs.YtcpjpkcahnldfaaGreatDoor
