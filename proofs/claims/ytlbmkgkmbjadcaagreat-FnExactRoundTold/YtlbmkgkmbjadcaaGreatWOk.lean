/- Texts for the law FnExactRoundTold: WOk. No conditions. -/
import Derived.Test.YtlbmkgkmbjadcaaGreatWCmp
import Derived.Test.YtlbmkgkmbjadcaaGreatWGr

set_option maxRecDepth 100000
namespace Go.Proofs.YtlbmkgkmbjadcaaGreat
open Go.Sx
def CellsP (l : List GCell) : Prop := ∀ i, i < l.length - 1 → cellCmp (l.getD i default) (l.getD (i + 1) default) < 0
instance (l : List GCell) : Decidable (CellsP l) := by unfold CellsP; infer_instance
def cellsOk (l : List GCell) : Bool := decide (CellsP l)
theorem implCellsOk (l : List GCell) (hl : l.length ≤ 16777216) : Meets Tryz.prog 224 [.one (sGCell l)] [.one (vb (cellsOk l))] := by
  refine enterW tbl_ok false Tryz.func224 rfl (by decide) fun W => ?_
  conv => whnf
  refine loopW tbl_ok false [] (fun j : Nat => [(3, .c (vi ((j : Int) + 1)))]) (fun j => []) (fun j => []) (fun j => j ≤ l.length ∧ Upto (fun i => cellCmp (l.getD i default) (l.getD (i + 1) default) < 0) j) (fun j => l.length - j) (0) (⟨Nat.zero_le _, upto_zero _⟩) ⟨by first | rfl | simp [nth, ren2, ren1, ren0], trivial⟩ trivial trivial (by first | exact trivial | exact ⟨rfl, trivial⟩) (by kernel_rfl) (fun j hj => ?_)
  conv => whnf
  obtain ⟨hj, he⟩ := hj
  refine ⟨fun h => have h := of_decide_eq_true h; ?_, fun h => have h := of_decide_eq_false h; ?_⟩ <;> conv => whnf
  · have h : j + 1 < l.length := by omega
    have e1 : ((j : Int) + 1 - 1).toNat = j := by omega
    have e2 : ((j : Int) + 1).toNat = j + 1 := by omega
    (repeat (refine ⟨by first | omega | (show _ ∧ _; omega) | ((repeat (first | rw [ByteArray.size_append] | rw [bsz] | rw [List.size_toArray] | rw [List.length_cons] | rw [List.length_nil])) <;> omega) | ((repeat rw [Int.toNat_natCast]) <;> first | omega | (show _ ∧ _; omega)) | (simp only [ByteArray.size_append, bsz, List.size_toArray, List.length_cons, List.length_nil]; omega) | (simp only [Int.toNat_natCast]; first | omega | (show _ ∧ _; omega)) | decide, ?_⟩; conv => whnf))
    first | (refine drawI 4 rfl [0, 1, 2, 3, 4, 5, 6, 7, 8, 9, 10] (by kernel_rfl) (go tbl_ok false ?_); conv => whnf)
    (repeat (refine ⟨by first | omega | (show _ ∧ _; omega) | ((repeat (first | rw [ByteArray.size_append] | rw [bsz] | rw [List.size_toArray] | rw [List.length_cons] | rw [List.length_nil])) <;> omega) | ((repeat rw [Int.toNat_natCast]) <;> first | omega | (show _ ∧ _; omega)) | (simp only [ByteArray.size_append, bsz, List.size_toArray, List.length_cons, List.length_nil]; omega) | (simp only [Int.toNat_natCast]; first | omega | (show _ ∧ _; omega)) | decide, ?_⟩; conv => whnf))
    refine callR (implCellOrder (l.getD ((j : Int) + 1 - 1).toNat default) (l.getD ((j : Int) + 1).toNat default)) rfl (go tbl_ok false ?_)
    conv => whnf
    refine ⟨fun h2 => have h2 := of_decide_eq_true h2; ?_, fun h2 => have h2 := of_decide_eq_false h2; ?_⟩ <;> conv => whnf
    all_goals rw [e1, e2] at h2
    · exact retW tbl_ok rfl rfl ⟨congrArg vb (decide_eq_false fun p => by have := p j (by omega); omega), trivial⟩
    · (repeat (refine ⟨by first | omega | (show _ ∧ _; omega) | ((repeat (first | rw [ByteArray.size_append] | rw [bsz] | rw [List.size_toArray] | rw [List.length_cons] | rw [List.length_nil])) <;> omega) | ((repeat rw [Int.toNat_natCast]) <;> first | omega | (show _ ∧ _; omega)) | (simp only [ByteArray.size_append, bsz, List.size_toArray, List.length_cons, List.length_nil]; omega) | (simp only [Int.toNat_natCast]; first | omega | (show _ ∧ _; omega)) | decide, ?_⟩; conv => whnf))
      refine loopE [] (j + 1) (⟨by omega, upto_succ he (by omega)⟩) (by omega) ⟨rfl, trivial⟩ trivial trivial (by kernel_rfl) (by first | exact trivial | exact ⟨rfl, trivial⟩) (by kernel_rfl)
  · exact retW tbl_ok rfl rfl ⟨congrArg vb (decide_eq_true fun i hi => he i (by omega)), trivial⟩
theorem specCellsOk (l : List GCell) (hl : l.length ≤ 16777216) : Meets Tryz.prog 230 [.one (sGCell l)] [.one (vb (cellsOk l))] := by
  refine enterW tbl_ok false Tryz.func230 rfl (by decide) fun W => ?_
  conv => whnf
  refine loopW tbl_ok false [] (fun j : Nat => [(3, .c (vi ((j : Int) + 1)))]) (fun j => []) (fun j => []) (fun j => j ≤ l.length ∧ Upto (fun i => cellCmp (l.getD i default) (l.getD (i + 1) default) < 0) j) (fun j => l.length - j) (0) (⟨Nat.zero_le _, upto_zero _⟩) ⟨by first | rfl | simp [nth, ren2, ren1, ren0], trivial⟩ trivial trivial (by first | exact trivial | exact ⟨rfl, trivial⟩) (by kernel_rfl) (fun j hj => ?_)
  conv => whnf
  obtain ⟨hj, he⟩ := hj
  refine ⟨fun h => have h := of_decide_eq_true h; ?_, fun h => have h := of_decide_eq_false h; ?_⟩ <;> conv => whnf
  · have h : j + 1 < l.length := by omega
    have e1 : ((j : Int) + 1 - 1).toNat = j := by omega
    have e2 : ((j : Int) + 1).toNat = j + 1 := by omega
    (repeat (refine ⟨by first | omega | (show _ ∧ _; omega) | ((repeat (first | rw [ByteArray.size_append] | rw [bsz] | rw [List.size_toArray] | rw [List.length_cons] | rw [List.length_nil])) <;> omega) | ((repeat rw [Int.toNat_natCast]) <;> first | omega | (show _ ∧ _; omega)) | (simp only [ByteArray.size_append, bsz, List.size_toArray, List.length_cons, List.length_nil]; omega) | (simp only [Int.toNat_natCast]; first | omega | (show _ ∧ _; omega)) | decide, ?_⟩; conv => whnf))
    first | (refine drawI 4 rfl [0, 1, 2, 3, 4, 5, 6, 7, 8, 9, 10] (by kernel_rfl) (go tbl_ok false ?_); conv => whnf)
    (repeat (refine ⟨by first | omega | (show _ ∧ _; omega) | ((repeat (first | rw [ByteArray.size_append] | rw [bsz] | rw [List.size_toArray] | rw [List.length_cons] | rw [List.length_nil])) <;> omega) | ((repeat rw [Int.toNat_natCast]) <;> first | omega | (show _ ∧ _; omega)) | (simp only [ByteArray.size_append, bsz, List.size_toArray, List.length_cons, List.length_nil]; omega) | (simp only [Int.toNat_natCast]; first | omega | (show _ ∧ _; omega)) | decide, ?_⟩; conv => whnf))
    refine callR (specCellOrder (l.getD ((j : Int) + 1 - 1).toNat default) (l.getD ((j : Int) + 1).toNat default)) rfl (go tbl_ok false ?_)
    conv => whnf
    refine ⟨fun h2 => have h2 := of_decide_eq_true h2; ?_, fun h2 => have h2 := of_decide_eq_false h2; ?_⟩ <;> conv => whnf
    all_goals rw [e1, e2] at h2
    · exact retW tbl_ok rfl rfl ⟨congrArg vb (decide_eq_false fun p => by have := p j (by omega); omega), trivial⟩
    · (repeat (refine ⟨by first | omega | (show _ ∧ _; omega) | ((repeat (first | rw [ByteArray.size_append] | rw [bsz] | rw [List.size_toArray] | rw [List.length_cons] | rw [List.length_nil])) <;> omega) | ((repeat rw [Int.toNat_natCast]) <;> first | omega | (show _ ∧ _; omega)) | (simp only [ByteArray.size_append, bsz, List.size_toArray, List.length_cons, List.length_nil]; omega) | (simp only [Int.toNat_natCast]; first | omega | (show _ ∧ _; omega)) | decide, ?_⟩; conv => whnf))
      refine loopE [] (j + 1) (⟨by omega, upto_succ he (by omega)⟩) (by omega) ⟨rfl, trivial⟩ trivial trivial (by kernel_rfl) (by first | exact trivial | exact ⟨rfl, trivial⟩) (by kernel_rfl)
  · exact retW tbl_ok rfl rfl ⟨congrArg vb (decide_eq_true fun i hi => he i (by omega)), trivial⟩
def OpsP (n : Nat) (l : List GRecord) : Prop := ∀ r ∈ l, RecP r ∧ r.op < n
instance (n : Nat) (l : List GRecord) : Decidable (OpsP n l) := by unfold OpsP; infer_instance
def opsOk (n : Nat) (l : List GRecord) : Bool := decide (OpsP n l)
theorem implIsNode (g : GGraph) (k : Int) (hg : g.w ≤ 16777216) : Meets Tryz.prog 218 [.agg g.c, .one (vi k)] [.one (vb (within k 0 (g.nodes.length - 1)))] := by
  have hn := GGraph.nodes_le hg
  refine enterW tbl_ok false Tryz.func218 rfl (by decide) fun W => ?_
  conv => whnf
  (repeat (refine ⟨by first | omega | (show _ ∧ _; omega) | ((repeat (first | rw [ByteArray.size_append] | rw [bsz] | rw [List.size_toArray] | rw [List.length_cons] | rw [List.length_nil])) <;> omega) | ((repeat rw [Int.toNat_natCast]) <;> first | omega | (show _ ∧ _; omega)) | (simp only [ByteArray.size_append, bsz, List.size_toArray, List.length_cons, List.length_nil]; omega) | (simp only [Int.toNat_natCast]; first | omega | (show _ ∧ _; omega)) | decide, ?_⟩; conv => whnf))
  refine callR (implIn k 0 (g.nodes.length - 1)) rfl (go tbl_ok false ?_)
  conv => whnf
  exact retW tbl_ok rfl rfl ⟨rfl, trivial⟩
theorem recordOk_p {r : GRecord} : recordOk r = true ↔ RecP r := decide_eq_true_iff
theorem implOpsOk (g : GGraph) (l : List GRecord) (hg : g.w ≤ 16777216) (hl : l.length ≤ 16777216) : Meets Tryz.prog 182 [.agg g.c, .one (sGRecord l)] [.one (vb (opsOk g.nodes.length l))] := by
  have hu := upto_zero (fun i => RecP (l.getD i default) ∧ (l.getD i default).op < g.nodes.length)
  have hn := GGraph.nodes_le hg
  refine enterW tbl_ok false Tryz.func182 rfl (by decide) fun W => ?_
  conv => whnf
  refine loopW tbl_ok false [] (fun k : Nat => [(9, .c (vi k))]) (fun k => [⟨0, [.c (sGNode g.nodes), .c (vi g.workers), .c (vi g.cap)]⟩]) (fun k => [])
    (fun k => k ≤ l.length ∧ Upto (fun i => RecP (l.getD i default) ∧ (l.getD i default).op < g.nodes.length) k) (fun k => l.length - k) 0 ⟨Nat.zero_le _, by first | rfl | assumption | simp⟩ ⟨by first | rfl | simp [nth, ren2, ren1, ren0], trivial⟩ (by repeat' (first | exact trivial | exact rfl | refine ⟨?_, ?_⟩)) trivial trivial (by kernel_rfl) (fun k hk => ?_)
  obtain ⟨hk, he⟩ := hk
  conv => whnf
  refine ⟨fun h' => have h' := of_decide_eq_true h'; ?_, fun h' => have h' := of_decide_eq_false h'; ?_⟩ <;> conv => whnf
  · have h' : k < l.length := by omega
    repeat' (first | (refine ite_f (by first | with_reducible rfl | assumption) ?_; conv => whnf) | (refine ite_t (by first | with_reducible rfl | assumption) ?_; conv => whnf) | (refine ⟨fun h => ?_, fun h => ?_⟩ <;> conv => whnf) | (refine callR (implRecordOk (l.getD k default)) rfl (go tbl_ok false ?_); conv => whnf) | (refine callR (implIsNode g _ hg) rfl (go tbl_ok false ?_); conv => whnf) | (refine ⟨by first | omega | (show _ ∧ _; omega) | ((repeat (first | rw [ByteArray.size_append] | rw [bsz] | rw [List.size_toArray] | rw [List.length_cons] | rw [List.length_nil])) <;> omega) | ((repeat rw [Int.toNat_natCast]) <;> first | omega | (show _ ∧ _; omega)) | (simp only [ByteArray.size_append, bsz, List.size_toArray, List.length_cons, List.length_nil]; omega) | (simp only [Int.toNat_natCast]; first | omega | (show _ ∧ _; omega)) | decide | (simp only [beq_iff_eq, beq_eq_false_iff_ne, bne_iff_ne, bne_eq_false_iff_eq, Bool.not_eq_true', Bool.not_eq_false', Go.Sx.within_iff, Go.Sx.within_f, decide_eq_true_eq, decide_eq_false_iff_not, ne_eq, Int.not_lt, Int.not_le, ge_iff_le, gt_iff_lt, Int.toNat_zero, Int.toNat_one, Int.toNat_natCast] at * <;> first | omega | (show _ ∧ _; omega)), ?_⟩; conv => whnf) | fail)
    all_goals try (refine retW tbl_ok rfl rfl ⟨congrArg vb (decide_eq_false fun p => ?_), trivial⟩; obtain ⟨p1, p2⟩ := p _ (getD_mem (d := default) h'); first | (rw [recordOk_p.2 p1] at h; exact absurd h (by decide)) | (have p3 := p1.1; clear he hu; simp only [Bool.not_eq_true', Bool.not_eq_false', Go.Sx.within_f, decide_eq_true_eq, Int.toNat_natCast] at * <;> omega))
    all_goals
      have hp : RecP (l.getD k default) := recordOk_p.1 (by first | (simpa using h) | (rename_i q _; simpa using q) | (rename_i q; simpa using q))
      refine loopE [] (k + 1) ⟨by omega, upto_succ he ⟨hp, by clear he hu hp; simp only [Bool.not_eq_false', Go.Sx.within_iff, decide_eq_true_eq, Int.toNat_natCast] at * <;> omega⟩⟩ (by omega) ⟨rfl, trivial⟩ trivial (by repeat' (first | exact trivial | exact rfl | refine ⟨?_, ?_⟩)) (by kernel_rfl) trivial (by kernel_rfl)
  · have e : k = l.length := by omega
    exact retW tbl_ok rfl rfl ⟨congrArg vb (decide_eq_true (upto_mem (p := fun r => RecP r ∧ r.op < g.nodes.length) (e ▸ he))), trivial⟩
theorem specOpsOk (g : GGraph) (l : List GRecord) (hg : g.w ≤ 16777216) (hl : l.length ≤ 16777216) : Meets Tryz.prog 190 [.agg g.c, .one (sGRecord l)] [.one (vb (opsOk g.nodes.length l))] := by
  have hu := upto_zero (fun i => RecP (l.getD i default) ∧ (l.getD i default).op < g.nodes.length)
  have hn := GGraph.nodes_le hg
  refine enterW tbl_ok false Tryz.func190 rfl (by decide) fun W => ?_
  conv => whnf
  refine loopW tbl_ok false [] (fun k : Nat => [(5, .c (vi k))]) (fun k => [⟨0, [.c (sGNode g.nodes), .c (vi g.workers), .c (vi g.cap)]⟩]) (fun k => [])
    (fun k => k ≤ l.length ∧ Upto (fun i => RecP (l.getD i default) ∧ (l.getD i default).op < g.nodes.length) k) (fun k => l.length - k) 0 ⟨Nat.zero_le _, by first | rfl | assumption | simp⟩ ⟨by first | rfl | simp [nth, ren2, ren1, ren0], trivial⟩ (by repeat' (first | exact trivial | exact rfl | refine ⟨?_, ?_⟩)) trivial trivial (by kernel_rfl) (fun k hk => ?_)
  obtain ⟨hk, he⟩ := hk
  conv => whnf
  refine ⟨fun h' => have h' := of_decide_eq_true h'; ?_, fun h' => have h' := of_decide_eq_false h'; ?_⟩ <;> conv => whnf
  · have h' : k < l.length := by omega
    repeat' (first | (refine ite_f (by first | with_reducible rfl | assumption) ?_; conv => whnf) | (refine ite_t (by first | with_reducible rfl | assumption) ?_; conv => whnf) | (refine ⟨fun h => ?_, fun h => ?_⟩ <;> conv => whnf) | (refine callR (specRecordOk (l.getD k default)) rfl (go tbl_ok false ?_); conv => whnf) | (refine callR (specIn _ _ _) rfl (go tbl_ok false ?_); conv => whnf) | (refine ⟨by first | omega | (show _ ∧ _; omega) | ((repeat (first | rw [ByteArray.size_append] | rw [bsz] | rw [List.size_toArray] | rw [List.length_cons] | rw [List.length_nil])) <;> omega) | ((repeat rw [Int.toNat_natCast]) <;> first | omega | (show _ ∧ _; omega)) | (simp only [ByteArray.size_append, bsz, List.size_toArray, List.length_cons, List.length_nil]; omega) | (simp only [Int.toNat_natCast]; first | omega | (show _ ∧ _; omega)) | decide | (simp only [beq_iff_eq, beq_eq_false_iff_ne, bne_iff_ne, bne_eq_false_iff_eq, Bool.not_eq_true', Bool.not_eq_false', Go.Sx.within_iff, Go.Sx.within_f, decide_eq_true_eq, decide_eq_false_iff_not, ne_eq, Int.not_lt, Int.not_le, ge_iff_le, gt_iff_lt, Int.toNat_zero, Int.toNat_one, Int.toNat_natCast] at * <;> first | omega | (show _ ∧ _; omega)), ?_⟩; conv => whnf) | (refine drawI 4 rfl [0, 1, 2, 3, 4, 5, 6, 7, 8, 9, 10, 11, 12, 13, 14, 15, 16] (by kernel_rfl) (go tbl_ok false ?_); conv => whnf) | fail)
    all_goals try (refine retW tbl_ok rfl rfl ⟨congrArg vb (decide_eq_false fun p => ?_), trivial⟩; obtain ⟨p1, p2⟩ := p _ (getD_mem (d := default) h'); first | (rw [recordOk_p.2 p1] at h; exact absurd h (by decide)) | (have p3 := p1.1; clear he hu; simp only [Bool.not_eq_false', decide_eq_true_eq, ge_iff_le, Int.toNat_natCast] at * <;> omega))
    all_goals
      have hp : RecP (l.getD k default) := recordOk_p.1 (by first | (simpa using h) | (rename_i q _; simpa using q) | (rename_i q; simpa using q))
      refine loopE [] (k + 1) ⟨by omega, upto_succ he ⟨hp, by clear he hu hp; simp only [Bool.not_eq_false', decide_eq_true_eq, decide_eq_false_iff_not, Int.not_le, ge_iff_le, Int.toNat_natCast] at * <;> omega⟩⟩ (by omega) ⟨rfl, trivial⟩ trivial (by repeat' (first | exact trivial | exact rfl | refine ⟨?_, ?_⟩)) (by kernel_rfl) trivial (by kernel_rfl)
  · have e : k = l.length := by omega
    exact retW tbl_ok rfl rfl ⟨congrArg vb (decide_eq_true (upto_mem (p := fun r => RecP r ∧ r.op < g.nodes.length) (e ▸ he))), trivial⟩
def AllP (l : List GRecord) : Prop := ∀ r ∈ l, RecP r
instance (l : List GRecord) : Decidable (AllP l) := by unfold AllP; infer_instance
theorem implAllOk (l : List GRecord) (hl : l.length ≤ 16777216) : Meets Tryz.prog 225 [.one (sGRecord l)] [.one (vb (decide (AllP l)))] := by
  have hu := upto_zero (fun i => RecP (l.getD i default))
  refine enterW tbl_ok false Tryz.func225 rfl (by decide) fun W => ?_
  conv => whnf
  refine loopW tbl_ok false [] (fun k : Nat => [(7, .c (vi k))]) (fun k => []) (fun k => [])
    (fun k => k ≤ l.length ∧ Upto (fun i => RecP (l.getD i default)) k) (fun k => l.length - k) 0 ⟨Nat.zero_le _, by first | rfl | assumption | simp⟩ ⟨by first | rfl | simp [nth, ren2, ren1, ren0], trivial⟩ trivial trivial trivial (by kernel_rfl) (fun k hk => ?_)
  obtain ⟨hk, he⟩ := hk
  conv => whnf
  refine ⟨fun h' => have h' := of_decide_eq_true h'; ?_, fun h' => have h' := of_decide_eq_false h'; ?_⟩ <;> conv => whnf
  · have h' : k < l.length := by omega
    (repeat (refine ⟨by first | omega | (show _ ∧ _; omega) | ((repeat (first | rw [ByteArray.size_append] | rw [bsz] | rw [List.size_toArray] | rw [List.length_cons] | rw [List.length_nil])) <;> omega) | ((repeat rw [Int.toNat_natCast]) <;> first | omega | (show _ ∧ _; omega)) | (simp only [ByteArray.size_append, bsz, List.size_toArray, List.length_cons, List.length_nil]; omega) | (simp only [Int.toNat_natCast]; first | omega | (show _ ∧ _; omega)) | decide, ?_⟩; conv => whnf))
    refine callR (implRecordOk (l.getD k default)) rfl (go tbl_ok false ?_)
    conv => whnf
    refine ⟨fun h => ?_, fun h => ?_⟩ <;> conv => whnf
    · exact retW tbl_ok rfl rfl ⟨congrArg vb (decide_eq_false fun p => by rw [recordOk_p.2 (p _ (getD_mem (d := default) h'))] at h; exact absurd h (by decide)), trivial⟩
    · (repeat (refine ⟨by first | omega | (show _ ∧ _; omega) | ((repeat (first | rw [ByteArray.size_append] | rw [bsz] | rw [List.size_toArray] | rw [List.length_cons] | rw [List.length_nil])) <;> omega) | ((repeat rw [Int.toNat_natCast]) <;> first | omega | (show _ ∧ _; omega)) | (simp only [ByteArray.size_append, bsz, List.size_toArray, List.length_cons, List.length_nil]; omega) | (simp only [Int.toNat_natCast]; first | omega | (show _ ∧ _; omega)) | decide, ?_⟩; conv => whnf))
      refine loopE [] (k + 1) ⟨by omega, upto_succ he (recordOk_p.1 (by simpa using h))⟩ (by omega) ⟨rfl, trivial⟩ trivial trivial (by kernel_rfl) trivial (by kernel_rfl)
  · have e : k = l.length := by omega
    exact retW tbl_ok rfl rfl ⟨congrArg vb (decide_eq_true (upto_mem (p := RecP) (e ▸ he))), trivial⟩
def LinkN (l : GLink) : Prop := (1 ≤ l.cap ∧ l.cap ≤ 4) ∧ (0 ≤ l.credits ∧ l.credits ≤ l.cap) ∧ (0 ≤ l.back ∧ l.back ≤ l.cap) ∧ l.credits + l.back + l.queue.length = l.cap ∧ (0 ≤ l.sent ∧ l.sent ≤ 1000000000) ∧ 0 ≤ l.got ∧ l.sent - l.got = l.queue.length
instance (l : GLink) : Decidable (LinkN l) := by unfold LinkN; infer_instance
def LinkP (l : GLink) : Prop := LinkN l ∧ AllP l.queue
instance (l : GLink) : Decidable (LinkP l) := by unfold LinkP; infer_instance
def linkOk (l : GLink) : Bool := decide (LinkP l)
theorem implLinkOk (l : GLink) (hl : l.w ≤ 16777216) (og2 : l.got ≤ 9223372036854775807) : Meets Tryz.prog 181 [.agg l.c] [.one (vb (linkOk l))] := by
  have hq : l.queue.length ≤ 16777216 := hl
  refine enterW tbl_ok false Tryz.func181 rfl (by decide) fun W => ?_
  conv => whnf
  repeat' (first | (refine ite_f (by first | with_reducible rfl | assumption) ?_; conv => whnf) | (refine ite_t (by first | with_reducible rfl | assumption) ?_; conv => whnf) | (refine ⟨fun h => ?_, fun h => ?_⟩ <;> conv => whnf) | (refine callR (implIn _ _ _) rfl (go tbl_ok false ?_); conv => whnf) | (refine callR (implAllOk l.queue hq) rfl (go tbl_ok false ?_); conv => whnf) | (refine ⟨by first | omega | (show _ ∧ _; omega) | ((repeat (first | rw [ByteArray.size_append] | rw [bsz] | rw [List.size_toArray] | rw [List.length_cons] | rw [List.length_nil])) <;> omega) | ((repeat rw [Int.toNat_natCast]) <;> first | omega | (show _ ∧ _; omega)) | (simp only [ByteArray.size_append, bsz, List.size_toArray, List.length_cons, List.length_nil]; omega) | (simp only [Int.toNat_natCast]; first | omega | (show _ ∧ _; omega)) | decide | (simp only [bne_eq_false_iff_eq, Bool.not_eq_false', Go.Sx.within_iff, decide_eq_false_iff_not, Int.not_lt] at * <;> first | omega | (show _ ∧ _; omega)), ?_⟩; conv => whnf) | fail)
  all_goals first
    | (refine retW tbl_ok rfl rfl ⟨congrArg vb (decide_eq_false fun p => ?_), trivial⟩; obtain ⟨⟨p1, p2, p3, p4, p5, p6, p7⟩, _⟩ := p; simp only [bne_iff_ne, bne_eq_false_iff_eq, Bool.not_eq_true', Bool.not_eq_false', Go.Sx.within_iff, Go.Sx.within_f, decide_eq_true_eq, decide_eq_false_iff_not, ne_eq, Int.not_lt] at * <;> omega)
    | (refine retW tbl_ok rfl rfl ⟨congrArg vb (decide_eq_decide.2 ⟨fun p => p.2, fun p => ⟨?_, p⟩⟩), trivial⟩; refine ⟨?_, ?_, ?_, ?_, ?_, ?_, ?_⟩ <;> (simp only [bne_eq_false_iff_eq, Bool.not_eq_false', Go.Sx.within_iff, decide_eq_false_iff_not, Int.not_lt] at * <;> omega))
theorem specLinkOk (l : GLink) (hl : l.w ≤ 16777216) : Meets Tryz.prog 189 [.agg l.c] [.one (vb (linkOk l))] := by
  have hq : l.queue.length ≤ 16777216 := hl
  have hu := upto_zero (fun i => RecP (l.queue.getD i default))
  refine enterW tbl_ok false Tryz.func189 rfl (by decide) fun W => ?_
  conv => whnf
  refine loopW tbl_ok false [] (fun k : Nat => [(3, .c (vi k))]) (fun k => [⟨0, [.c (vi l.cap), .c (sGRecord l.queue), .c (vi l.credits), .c (vi l.back), .c (vi l.sent), .c (vi l.got)]⟩]) (fun k => [])
    (fun k => k ≤ l.queue.length ∧ Upto (fun i => RecP (l.queue.getD i default)) k) (fun k => l.queue.length - k) 0 ⟨Nat.zero_le _, by first | rfl | assumption | simp⟩ ⟨by first | rfl | simp [nth, ren2, ren1, ren0], trivial⟩ (by repeat' (first | exact trivial | exact rfl | refine ⟨?_, ?_⟩)) trivial trivial (by kernel_rfl) (fun k hk => ?_)
  obtain ⟨hk, he⟩ := hk
  conv => whnf
  refine ⟨fun h' => have h' := of_decide_eq_true h'; ?_, fun h' => have h' := of_decide_eq_false h'; ?_⟩ <;> conv => whnf
  · have h' : k < l.queue.length := by omega
    (repeat (refine ⟨by first | omega | (show _ ∧ _; omega) | ((repeat (first | rw [ByteArray.size_append] | rw [bsz] | rw [List.size_toArray] | rw [List.length_cons] | rw [List.length_nil])) <;> omega) | ((repeat rw [Int.toNat_natCast]) <;> first | omega | (show _ ∧ _; omega)) | (simp only [ByteArray.size_append, bsz, List.size_toArray, List.length_cons, List.length_nil]; omega) | (simp only [Int.toNat_natCast]; first | omega | (show _ ∧ _; omega)) | decide, ?_⟩; conv => whnf))
    refine callR (specRecordOk (l.queue.getD k default)) rfl (go tbl_ok false ?_)
    conv => whnf
    refine ⟨fun h => ?_, fun h => ?_⟩ <;> conv => whnf
    · exact retW tbl_ok rfl rfl ⟨congrArg vb (decide_eq_false fun p => by rw [recordOk_p.2 (p.2 _ (getD_mem (d := default) h'))] at h; exact absurd h (by decide)), trivial⟩
    · (repeat (refine ⟨by first | omega | (show _ ∧ _; omega) | ((repeat (first | rw [ByteArray.size_append] | rw [bsz] | rw [List.size_toArray] | rw [List.length_cons] | rw [List.length_nil])) <;> omega) | ((repeat rw [Int.toNat_natCast]) <;> first | omega | (show _ ∧ _; omega)) | (simp only [ByteArray.size_append, bsz, List.size_toArray, List.length_cons, List.length_nil]; omega) | (simp only [Int.toNat_natCast]; first | omega | (show _ ∧ _; omega)) | decide, ?_⟩; conv => whnf))
      refine loopE [] (k + 1) ⟨by omega, upto_succ he (recordOk_p.1 (by simpa using h))⟩ (by omega) ⟨rfl, trivial⟩ trivial (by repeat' (first | exact trivial | exact rfl | refine ⟨?_, ?_⟩)) (by kernel_rfl) trivial (by kernel_rfl)
  · have e : k = l.queue.length := by omega
    have hA : AllP l.queue := upto_mem (p := RecP) (e ▸ he)
    clear he hu
    repeat' (first | (refine ite_f (by first | with_reducible rfl | assumption) ?_; conv => whnf) | (refine ite_t (by first | with_reducible rfl | assumption) ?_; conv => whnf) | (refine ⟨fun h => ?_, fun h => ?_⟩ <;> conv => whnf) | (refine callR (specIn _ _ _) rfl (go tbl_ok false ?_); conv => whnf) | (refine ⟨by first | omega | (show _ ∧ _; omega) | ((repeat (first | rw [ByteArray.size_append] | rw [bsz] | rw [List.size_toArray] | rw [List.length_cons] | rw [List.length_nil])) <;> omega) | ((repeat rw [Int.toNat_natCast]) <;> first | omega | (show _ ∧ _; omega)) | (simp only [ByteArray.size_append, bsz, List.size_toArray, List.length_cons, List.length_nil]; omega) | (simp only [Int.toNat_natCast]; first | omega | (show _ ∧ _; omega)) | decide | (simp only [beq_iff_eq, Go.Sx.within_iff, decide_eq_false_iff_not, Int.not_lt] at * <;> first | omega | (show _ ∧ _; omega)), ?_⟩; conv => whnf) | fail)
    all_goals first
      | (refine retW tbl_ok rfl rfl ⟨congrArg vb (decide_eq_false fun p => ?_), trivial⟩; obtain ⟨⟨p1, p2, p3, p4, p5, p6, p7⟩, _⟩ := p; clear hA; simp only [beq_iff_eq, beq_eq_false_iff_ne, Go.Sx.within_iff, Go.Sx.within_f, decide_eq_false_iff_not, ne_eq, Int.not_lt] at * <;> omega)
      | (refine retW tbl_ok rfl rfl ⟨congrArg vb (decide_eq_decide.2 ⟨fun p => p.1.2.2.2.2.2.1, fun p => ⟨?_, hA⟩⟩), trivial⟩; clear hA; refine ⟨?_, ?_, ?_, ?_, ?_, ?_, ?_⟩ <;> (simp only [beq_iff_eq, Go.Sx.within_iff, decide_eq_false_iff_not, Int.not_lt, ge_iff_le] at * <;> omega))

end Go.Proofs.YtlbmkgkmbjadcaaGreat
