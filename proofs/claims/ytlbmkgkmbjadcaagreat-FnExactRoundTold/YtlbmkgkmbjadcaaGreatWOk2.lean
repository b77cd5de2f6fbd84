/- Texts for the law FnExactRoundTold: WOk2. No conditions. -/
import Derived.Test.YtlbmkgkmbjadcaaGreatWOk
import Derived.Test.YtlbmkgkmbjadcaaGreatWPass

set_option maxRecDepth 100000
namespace Go.Proofs.YtlbmkgkmbjadcaaGreat
open Go.Sx
def InAt (l : List GRecord) (i : Nat) : Prop := (l.getD i default).op = 0 ∧ (l.getD i default).stamp.turn = 0 ∧ (0 < i → (l.getD (i - 1) default).stamp.epoch ≤ (l.getD i default).stamp.epoch)
instance (l : List GRecord) (i : Nat) : Decidable (InAt l i) := by unfold InAt; infer_instance
def InsP (l : List GRecord) : Prop := ∀ i, i < l.length → InAt l i
instance (l : List GRecord) : Decidable (InsP l) := by unfold InsP; infer_instance
def SumR (n : Int) : Prop := -1000000 ≤ n ∧ n ≤ 1000000
instance (n : Int) : Decidable (SumR n) := by unfold SumR; infer_instance
def SumsP (l : List Int) : Prop := ∀ n ∈ l, SumR n
instance (l : List Int) : Decidable (SumsP l) := by unfold SumsP; infer_instance
def DoneN (l : List GDone) (i : Nat) : Prop := ∀ k, k < i → (l.getD k default).epoch ≠ (l.getD i default).epoch
instance (l : List GDone) (i : Nat) : Decidable (DoneN l i) := by unfold DoneN; infer_instance
def DoneAt (l : List GDone) (i : Nat) : Prop := (0 ≤ (l.getD i default).epoch ∧ (l.getD i default).epoch ≤ 3) ∧ DoneN l i
instance (l : List GDone) (i : Nat) : Decidable (DoneAt l i) := by unfold DoneAt; infer_instance
def DonesP (l : List GDone) : Prop := ∀ i, i < l.length → DoneAt l i
instance (l : List GDone) : Decidable (DonesP l) := by unfold DonesP; infer_instance
def WorkerA (n : Nat) (x : GWorker) : Prop := (OpsP n x.queue ∧ OpsP n x.staged ∧ OpsP n x.inputs ∧ CellsP x.cells)
instance (n : Nat) (x : GWorker) : Decidable (WorkerA n x) := by unfold WorkerA; infer_instance
def WorkerL (x : GWorker) : Prop := (x.sums.length = 4 ∧ x.black.length = 4 ∧ x.caps.length = 4)
instance (x : GWorker) : Decidable (WorkerL x) := by unfold WorkerL; infer_instance
def WorkerP (n : Nat) (x : GWorker) : Prop := WorkerA n x ∧ WorkerL x ∧ InsP x.inputs ∧ SumsP x.sums ∧ DonesP x.dones
instance (n : Nat) (x : GWorker) : Decidable (WorkerP n x) := by unfold WorkerP; infer_instance
def workerOk (n : Nat) (x : GWorker) : Bool := decide (WorkerP n x)
theorem any_prefix {l : List GDone} {i : Nat} (h : i ≤ l.length) : (l.take i).any (fun d => d.epoch == (l.getD i default).epoch) = false ↔ DoneN l i := by
  rw [List.any_eq_false]
  constructor
  · intro h1 k hk e
    have hm : l.getD k default ∈ l.take i := by
      have hk2 : k < (l.take i).length := by simp; omega
      have : (l.take i).getD k default = l.getD k default := by simp [List.getD, hk]
      rw [← this]; exact getD_mem hk2
    exact h1 _ hm (by simpa using e)
  · intro h1 d hd c
    obtain ⟨k, hk, e⟩ := List.getElem_of_mem hd
    have hk2 : k < i := by simp at hk; omega
    have hk3 : k < l.length := by omega
    refine h1 k hk2 ?_
    rw [List.getD, List.getElem?_eq_getElem hk3]
    simp only [List.getElem_take] at e
    simpa [e] using c
theorem sub_take {α : Type} [Inhabited α] {es : Nat} {e : α → List Cell} {xs : List α} {k : Nat} (h : k ≤ xs.length) : SubOk xs.length es (fun i => e (xs.getD i default)) 0 (k : Int) (slC es e (xs.take k)) := by
  have := slC_sub (es := es) (e := e) (xs := xs) (l := 0) (h := (k : Int)) (by omega) (by omega) (by omega)
  simpa using this
theorem implWorkerOk (g : GGraph) (x : GWorker) (hg : g.w ≤ 16777216) (hx : x.w ≤ 16777216) : Meets Tryz.prog 180 [.agg g.c, .agg x.c] [.one (vb (workerOk g.nodes.length x))] := by
  have hx2 := hx
  simp only [GWorker.w] at hx2
  refine enterW tbl_ok false Tryz.func180 rfl (by decide) fun W => ?_
  conv => whnf
  repeat' (first | (refine ite_f (by first | with_reducible rfl | assumption) ?_; conv => whnf) | (refine ite_t (by first | with_reducible rfl | assumption) ?_; conv => whnf) | (refine ⟨fun h => ?_, fun h => ?_⟩ <;> conv => whnf) | (refine callR (implOpsOk g x.queue hg (by omega)) rfl (go tbl_ok false ?_); conv => whnf) | (refine callR (implOpsOk g x.staged hg (by omega)) rfl (go tbl_ok false ?_); conv => whnf) | (refine callR (implOpsOk g x.inputs hg (by omega)) rfl (go tbl_ok false ?_); conv => whnf) | (refine callR (implCellsOk x.cells (by omega)) rfl (go tbl_ok false ?_); conv => whnf) | (refine ⟨by first | omega | (show _ ∧ _; omega) | ((repeat (first | rw [ByteArray.size_append] | rw [bsz] | rw [List.size_toArray] | rw [List.length_cons] | rw [List.length_nil])) <;> omega) | ((repeat rw [Int.toNat_natCast]) <;> first | omega | (show _ ∧ _; omega)) | (simp only [ByteArray.size_append, bsz, List.size_toArray, List.length_cons, List.length_nil]; omega) | (simp only [Int.toNat_natCast]; first | omega | (show _ ∧ _; omega)) | decide | (simp only [beq_iff_eq, beq_eq_false_iff_ne, bne_iff_ne, bne_eq_false_iff_eq, Bool.not_eq_true', Bool.not_eq_false', Go.Sx.within_iff, Go.Sx.within_f, decide_eq_true_eq, decide_eq_false_iff_not, ne_eq, Int.not_lt, Int.not_le, ge_iff_le, gt_iff_lt, Int.toNat_zero, Int.toNat_one, Int.toNat_natCast] at * <;> first | omega | (show _ ∧ _; omega)), ?_⟩; conv => whnf) | (refine drawI 6 rfl [0, 1, 2, 3, 4, 5, 6, 7, 8, 9, 10, 11, 12, 13, 14, 15, 16, 17, 18, 19, 20, 21, 22, 23, 24, 25, 26] (by kernel_rfl) (go tbl_ok false ?_); conv => whnf) | (refine drawI 20 rfl [0, 1, 2, 3, 4, 5, 6, 7, 8, 9, 10, 11, 12] (by kernel_rfl) (go tbl_ok false ?_); conv => whnf) | fail)
  all_goals try (refine retW tbl_ok rfl rfl ⟨congrArg vb (decide_eq_false fun p => ?_), trivial⟩; obtain ⟨⟨p1, p2, p3, p4⟩, _⟩ := p; simp_all [opsOk, cellsOk]; done)
  have hA : WorkerA g.nodes.length x := by unfold WorkerA; refine ⟨?_, ?_, ?_, ?_⟩ <;> simp_all [opsOk, cellsOk]
  rename_i a1 a2 a3
  clear h a1 a2 a3
  have hu := upto_zero (InAt x.inputs)
  refine loopW tbl_ok false [] (fun k : Nat => [(39, .c (vi k))]) (fun k => [⟨0, [.c (sGNode g.nodes), .c (vi g.workers), .c (vi g.cap)]⟩, ⟨1, [.c (sGRecord x.queue), .c (sGRecord x.staged), .c (sGRecord x.inputs), .c (sGCell x.cells), .c (sInt x.sums), .c (sBool x.black), .c (sBool x.caps), .c (sGDone x.dones)]⟩]) (fun k => [])
    (fun k => k ≤ x.inputs.length ∧ Upto (InAt x.inputs) k) (fun k => x.inputs.length - k) 0 ⟨Nat.zero_le _, by first | rfl | assumption | simp⟩ ⟨by first | rfl | simp [nth, ren2, ren1, ren0], trivial⟩ (by repeat' (first | exact trivial | exact rfl | refine ⟨?_, ?_⟩)) trivial trivial (by kernel_rfl) (fun k hk => ?_)
  obtain ⟨hk, he⟩ := hk
  conv => whnf
  refine ⟨fun h' => have h' := of_decide_eq_true h'; ?_, fun h' => have h' := of_decide_eq_false h'; ?_⟩ <;> conv => whnf
  · have h' : k < x.inputs.length := by omega
    have e1 : ((k : Int) - 1).toNat = k - 1 := by omega
    repeat' (first | (refine ite_f (by first | with_reducible rfl | assumption) ?_; conv => whnf) | (refine ite_t (by first | with_reducible rfl | assumption) ?_; conv => whnf) | (refine ⟨fun h => ?_, fun h => ?_⟩ <;> conv => whnf) | (refine ⟨by first | omega | (show _ ∧ _; omega) | ((repeat (first | rw [ByteArray.size_append] | rw [bsz] | rw [List.size_toArray] | rw [List.length_cons] | rw [List.length_nil])) <;> omega) | ((repeat rw [Int.toNat_natCast]) <;> first | omega | (show _ ∧ _; omega)) | (simp only [ByteArray.size_append, bsz, List.size_toArray, List.length_cons, List.length_nil]; omega) | (simp only [Int.toNat_natCast]; first | omega | (show _ ∧ _; omega)) | decide | (simp only [bne_eq_false_iff_eq, decide_eq_true_eq, gt_iff_lt, Int.toNat_natCast] at * <;> first | omega | (show _ ∧ _; omega)), ?_⟩; conv => whnf) | (refine drawI 6 rfl [0, 1, 2, 3, 4, 5, 6, 7, 8, 9, 10, 11, 12, 13, 14, 15, 16, 17, 18, 19, 20, 21, 22, 23, 24, 25, 26] (by kernel_rfl) (go tbl_ok false ?_); conv => whnf) | (refine drawI 20 rfl [0, 1, 2, 3, 4, 5, 6, 7, 8, 9, 10, 11, 12] (by kernel_rfl) (go tbl_ok false ?_); conv => whnf) | fail)
    all_goals try (refine retW tbl_ok rfl rfl ⟨congrArg vb (decide_eq_false fun p => ?_), trivial⟩; have p := p.2.2.1 k h'; clear he hA hu; simp only [InAt] at p; simp only [bne_iff_ne, bne_eq_false_iff_eq, decide_eq_true_eq, ne_eq, gt_iff_lt, Int.toNat_natCast] at *; first | omega | (simp only [e1] at *; omega))
    all_goals
      have hs : InAt x.inputs k := by clear he hA hu; simp only [InAt]; simp only [bne_eq_false_iff_eq, decide_eq_true_eq, decide_eq_false_iff_not, Int.not_lt, gt_iff_lt, Int.toNat_natCast] at *; first | omega | (simp only [e1] at *; omega)
      refine loopE [] (k + 1) ⟨by omega, upto_succ he hs⟩ (by omega) ⟨rfl, trivial⟩ trivial (by repeat' (first | exact trivial | exact rfl | refine ⟨?_, ?_⟩)) (by kernel_rfl) trivial (by kernel_rfl)
  have e : k = x.inputs.length := by omega
  have hI : InsP x.inputs := fun i hi => he i (by omega)
  clear he hu
  repeat' (first | (refine ite_f (by first | with_reducible rfl | assumption) ?_; conv => whnf) | (refine ite_t (by first | with_reducible rfl | assumption) ?_; conv => whnf) | (refine ⟨fun h => ?_, fun h => ?_⟩ <;> conv => whnf) | (refine ⟨by first | omega | (show _ ∧ _; omega) | ((repeat (first | rw [ByteArray.size_append] | rw [bsz] | rw [List.size_toArray] | rw [List.length_cons] | rw [List.length_nil])) <;> omega) | ((repeat rw [Int.toNat_natCast]) <;> first | omega | (show _ ∧ _; omega)) | (simp only [ByteArray.size_append, bsz, List.size_toArray, List.length_cons, List.length_nil]; omega) | (simp only [Int.toNat_natCast]; first | omega | (show _ ∧ _; omega)) | decide | (simp only [beq_iff_eq, beq_eq_false_iff_ne, bne_iff_ne, bne_eq_false_iff_eq, Bool.not_eq_true', Bool.not_eq_false', Go.Sx.within_iff, Go.Sx.within_f, decide_eq_true_eq, decide_eq_false_iff_not, ne_eq, Int.not_lt, Int.not_le, ge_iff_le, gt_iff_lt, Int.toNat_zero, Int.toNat_one, Int.toNat_natCast] at * <;> first | omega | (show _ ∧ _; omega)), ?_⟩; conv => whnf) | (refine drawI 6 rfl [0, 1, 2, 3, 4, 5, 6, 7, 8, 9, 10, 11, 12, 13, 14, 15, 16, 17, 18, 19, 20, 21, 22, 23, 24, 25, 26] (by kernel_rfl) (go tbl_ok false ?_); conv => whnf) | (refine drawI 20 rfl [0, 1, 2, 3, 4, 5, 6, 7, 8, 9, 10, 11, 12] (by kernel_rfl) (go tbl_ok false ?_); conv => whnf) | fail)
  all_goals try (refine retW tbl_ok rfl rfl ⟨congrArg vb (decide_eq_false fun p => ?_), trivial⟩; obtain ⟨p1, p2, p3⟩ := p.2.1; clear hA hI p; simp only [bne_iff_ne, bne_eq_false_iff_eq, decide_eq_false_iff_not, ne_eq, Int.not_lt] at *; omega)
  have hL : WorkerL x := by clear hA hI; unfold WorkerL; simp only [bne_eq_false_iff_eq, decide_eq_false_iff_not, Int.not_lt] at *; omega
  rename_i a1 a2
  clear h a1 a2
  have hu := upto_zero (fun i => SumR (x.sums.getD i default))
  refine loopW tbl_ok false [] (fun k : Nat => [(91, .c (vi k))]) (fun k => [⟨0, [.c (sGNode g.nodes), .c (vi g.workers), .c (vi g.cap)]⟩, ⟨1, [.c (sGRecord x.queue), .c (sGRecord x.staged), .c (sGRecord x.inputs), .c (sGCell x.cells), .c (sInt x.sums), .c (sBool x.black), .c (sBool x.caps), .c (sGDone x.dones)]⟩]) (fun k => [])
    (fun k => k ≤ x.sums.length ∧ Upto (fun i => SumR (x.sums.getD i default)) k) (fun k => x.sums.length - k) 0 ⟨Nat.zero_le _, by first | rfl | assumption | simp⟩ ⟨by first | rfl | simp [nth, ren2, ren1, ren0], trivial⟩ (by repeat' (first | exact trivial | exact rfl | refine ⟨?_, ?_⟩)) trivial trivial (by kernel_rfl) (fun k hk => ?_)
  obtain ⟨hk, he⟩ := hk
  conv => whnf
  refine ⟨fun h' => have h' := of_decide_eq_true h'; ?_, fun h' => have h' := of_decide_eq_false h'; ?_⟩ <;> conv => whnf
  · have h' : k < x.sums.length := by omega
    (repeat (refine ⟨by first | omega | (show _ ∧ _; omega) | ((repeat (first | rw [ByteArray.size_append] | rw [bsz] | rw [List.size_toArray] | rw [List.length_cons] | rw [List.length_nil])) <;> omega) | ((repeat rw [Int.toNat_natCast]) <;> first | omega | (show _ ∧ _; omega)) | (simp only [ByteArray.size_append, bsz, List.size_toArray, List.length_cons, List.length_nil]; omega) | (simp only [Int.toNat_natCast]; first | omega | (show _ ∧ _; omega)) | decide, ?_⟩; conv => whnf))
    refine callR (implIn _ _ _) rfl (go tbl_ok false ?_)
    conv => whnf
    refine ⟨fun h => ?_, fun h => ?_⟩ <;> conv => whnf
    · exact retW tbl_ok rfl rfl ⟨congrArg vb (decide_eq_false fun p => by have := p.2.2.2.1 _ (getD_mem (d := default) h'); clear hA hI he p; simp only [SumR] at this; simp only [Bool.not_eq_true', Go.Sx.within_f, decide_eq_true_eq, decide_eq_false_iff_not, Int.not_lt, Int.toNat_natCast] at *; omega), trivial⟩
    · (repeat (refine ⟨by first | omega | (show _ ∧ _; omega) | ((repeat (first | rw [ByteArray.size_append] | rw [bsz] | rw [List.size_toArray] | rw [List.length_cons] | rw [List.length_nil])) <;> omega) | ((repeat rw [Int.toNat_natCast]) <;> first | omega | (show _ ∧ _; omega)) | (simp only [ByteArray.size_append, bsz, List.size_toArray, List.length_cons, List.length_nil]; omega) | (simp only [Int.toNat_natCast]; first | omega | (show _ ∧ _; omega)) | decide, ?_⟩; conv => whnf))
      refine loopE [] (k + 1) ⟨by omega, upto_succ he (by clear he hA hI; simp only [SumR]; simp only [Bool.not_eq_false', Go.Sx.within_iff, decide_eq_true_eq, decide_eq_false_iff_not, Int.not_lt, Int.toNat_natCast] at *; omega)⟩ (by omega) ⟨rfl, trivial⟩ trivial (by repeat' (first | exact trivial | exact rfl | refine ⟨?_, ?_⟩)) (by kernel_rfl) trivial (by kernel_rfl)
  have e : k = x.sums.length := by omega
  have hS : SumsP x.sums := upto_mem (p := SumR) (e ▸ he)
  clear he hu
  have hu := upto_zero (DoneAt x.dones)
  refine loopW tbl_ok false [] (fun k : Nat => [(102, .c (vi k))]) (fun k => [⟨0, [.c (sGNode g.nodes), .c (vi g.workers), .c (vi g.cap)]⟩, ⟨1, [.c (sGRecord x.queue), .c (sGRecord x.staged), .c (sGRecord x.inputs), .c (sGCell x.cells), .c (sInt x.sums), .c (sBool x.black), .c (sBool x.caps), .c (sGDone x.dones)]⟩]) (fun k => [])
    (fun k => k ≤ x.dones.length ∧ Upto (DoneAt x.dones) k) (fun k => x.dones.length - k) 0 ⟨Nat.zero_le _, by first | rfl | assumption | simp⟩ ⟨by first | rfl | simp [nth, ren2, ren1, ren0], trivial⟩ (by repeat' (first | exact trivial | exact rfl | refine ⟨?_, ?_⟩)) trivial trivial (by kernel_rfl) (fun k hk => ?_)
  obtain ⟨hk, he⟩ := hk
  conv => whnf
  refine ⟨fun h' => have h' := of_decide_eq_true h'; ?_, fun h' => have h' := of_decide_eq_false h'; ?_⟩ <;> conv => whnf
  · have h' : k < x.dones.length := by omega
    repeat' (first | (refine ite_f (by first | with_reducible rfl | assumption) ?_; conv => whnf) | (refine ite_t (by first | with_reducible rfl | assumption) ?_; conv => whnf) | (refine ⟨fun h => ?_, fun h => ?_⟩ <;> conv => whnf) | (refine callR (implIn _ _ _) rfl (go tbl_ok false ?_); conv => whnf) | (refine ⟨by first | omega | (show _ ∧ _; omega) | ((repeat (first | rw [ByteArray.size_append] | rw [bsz] | rw [List.size_toArray] | rw [List.length_cons] | rw [List.length_nil])) <;> omega) | ((repeat rw [Int.toNat_natCast]) <;> first | omega | (show _ ∧ _; omega)) | (simp only [ByteArray.size_append, bsz, List.size_toArray, List.length_cons, List.length_nil]; omega) | (simp only [Int.toNat_natCast]; first | omega | (show _ ∧ _; omega)) | decide | (simp only [beq_iff_eq, beq_eq_false_iff_ne, bne_iff_ne, bne_eq_false_iff_eq, Bool.not_eq_true', Bool.not_eq_false', Go.Sx.within_iff, Go.Sx.within_f, decide_eq_true_eq, decide_eq_false_iff_not, ne_eq, Int.not_lt, Int.not_le, ge_iff_le, gt_iff_lt, Int.toNat_zero, Int.toNat_one, Int.toNat_natCast] at * <;> first | omega | (show _ ∧ _; omega)), ?_⟩; conv => whnf) | (refine drawI 6 rfl [0, 1, 2, 3, 4, 5, 6, 7, 8, 9, 10, 11, 12, 13, 14, 15, 16, 17, 18, 19, 20, 21, 22, 23, 24, 25, 26] (by kernel_rfl) (go tbl_ok false ?_); conv => whnf) | (refine drawI 20 rfl [0, 1, 2, 3, 4, 5, 6, 7, 8, 9, 10, 11, 12] (by kernel_rfl) (go tbl_ok false ?_); conv => whnf) | fail)
    · exact retW tbl_ok rfl rfl ⟨congrArg vb (decide_eq_false fun p => by have := (p.2.2.2.2 k h').1; clear hA hI he hS p; simp only [Bool.not_eq_true', Go.Sx.within_f, decide_eq_true_eq, decide_eq_false_iff_not, Int.not_lt, Int.toNat_natCast] at *; omega), trivial⟩
    have hd : 0 ≤ (x.dones.getD k default).epoch ∧ (x.dones.getD k default).epoch ≤ 3 := by clear hA hI he hS hu; simp only [Bool.not_eq_false', Go.Sx.within_iff, decide_eq_true_eq, decide_eq_false_iff_not, Int.not_lt, Int.toNat_natCast] at *; omega
    refine sliceW tbl_ok rfl rfl rfl rfl rfl rfl rfl rfl rfl ⟨by omega, by omega, by omega⟩ (sGDone (x.dones.take k)) (sub_take (by omega)) (go tbl_ok false ?_)
    conv => whnf
    repeat (first | (refine ite_f (by first | with_reducible rfl | assumption | (simp; done) | fail) ?_; conv => whnf) | (refine ite_t (by first | with_reducible rfl | assumption | (simp; done) | fail) ?_; conv => whnf) | (refine ⟨by first | omega | (show _ ∧ _; omega) | ((repeat (first | rw [ByteArray.size_append] | rw [bsz] | rw [List.size_toArray] | rw [List.length_cons] | rw [List.length_nil])) <;> omega) | ((repeat rw [Int.toNat_natCast]) <;> first | omega | (show _ ∧ _; omega)) | (simp only [ByteArray.size_append, bsz, List.size_toArray, List.length_cons, List.length_nil]; omega) | (simp only [Int.toNat_natCast]; first | omega | (show _ ∧ _; omega)) | decide, ?_⟩; conv => whnf))
    refine callR (implDoneAt (x.dones.take k) (x.dones.getD k default).epoch (by simp only [List.length_take]; omega)) rfl (go tbl_ok false ?_)
    conv => whnf
    repeat (first | (refine ite_f (by first | with_reducible rfl | assumption | (simp; done) | fail) ?_; conv => whnf) | (refine ite_t (by first | with_reducible rfl | assumption | (simp; done) | fail) ?_; conv => whnf) | (refine ⟨by first | omega | (show _ ∧ _; omega) | ((repeat (first | rw [ByteArray.size_append] | rw [bsz] | rw [List.size_toArray] | rw [List.length_cons] | rw [List.length_nil])) <;> omega) | ((repeat rw [Int.toNat_natCast]) <;> first | omega | (show _ ∧ _; omega)) | (simp only; omega) | (simp only [Int.toNat_natCast]; first | omega | (show _ ∧ _; omega)) | decide, ?_⟩; conv => whnf))
    refine ⟨fun h2 => ?_, fun h2 => ?_⟩ <;> conv => whnf
    · exact retW tbl_ok rfl rfl ⟨congrArg vb (decide_eq_false fun p => by have := (any_prefix (by omega)).2 (p.2.2.2.2 k h').2; rw [this] at h2; exact absurd h2 (by decide)), trivial⟩
    · (repeat (refine ⟨by first | omega | (show _ ∧ _; omega) | ((repeat (first | rw [ByteArray.size_append] | rw [bsz] | rw [List.size_toArray] | rw [List.length_cons] | rw [List.length_nil])) <;> omega) | ((repeat rw [Int.toNat_natCast]) <;> first | omega | (show _ ∧ _; omega)) | (simp only [ByteArray.size_append, bsz, List.size_toArray, List.length_cons, List.length_nil]; omega) | (simp only [Int.toNat_natCast]; first | omega | (show _ ∧ _; omega)) | decide, ?_⟩; conv => whnf))
      refine loopE [] (k + 1) ⟨by omega, upto_succ he ⟨hd, (any_prefix (by omega)).1 h2⟩⟩ (by omega) ⟨rfl, trivial⟩ trivial (by repeat' (first | exact trivial | exact rfl | refine ⟨?_, ?_⟩)) (by kernel_rfl) trivial (by kernel_rfl)
  · have e : k = x.dones.length := by omega
    exact retW tbl_ok rfl rfl ⟨congrArg vb (decide_eq_true ⟨hA, hL, hI, hS, fun i hi => he i (by omega)⟩), trivial⟩
theorem specWorkerOk (g : GGraph) (x : GWorker) (hg : g.w ≤ 16777216) (hx : x.w ≤ 16777216) : Meets Tryz.prog 188 [.agg g.c, .agg x.c] [.one (vb (workerOk g.nodes.length x))] := by
  have hx2 := hx
  simp only [GWorker.w] at hx2
  refine enterW tbl_ok false Tryz.func188 rfl (by decide) fun W => ?_
  conv => whnf
  repeat' (first | (refine ite_f (by first | with_reducible rfl | assumption) ?_; conv => whnf) | (refine ite_t (by first | with_reducible rfl | assumption) ?_; conv => whnf) | (refine ⟨fun h => ?_, fun h => ?_⟩ <;> conv => whnf) | (refine callR (specOpsOk g x.queue hg (by omega)) rfl (go tbl_ok false ?_); conv => whnf) | (refine callR (specOpsOk g x.staged hg (by omega)) rfl (go tbl_ok false ?_); conv => whnf) | (refine callR (specOpsOk g x.inputs hg (by omega)) rfl (go tbl_ok false ?_); conv => whnf) | (refine callR (specCellsOk x.cells (by omega)) rfl (go tbl_ok false ?_); conv => whnf) | (refine ⟨by first | omega | (show _ ∧ _; omega) | ((repeat (first | rw [ByteArray.size_append] | rw [bsz] | rw [List.size_toArray] | rw [List.length_cons] | rw [List.length_nil])) <;> omega) | ((repeat rw [Int.toNat_natCast]) <;> first | omega | (show _ ∧ _; omega)) | (simp only [ByteArray.size_append, bsz, List.size_toArray, List.length_cons, List.length_nil]; omega) | (simp only [Int.toNat_natCast]; first | omega | (show _ ∧ _; omega)) | decide | (simp only [beq_iff_eq, beq_eq_false_iff_ne, bne_iff_ne, bne_eq_false_iff_eq, Bool.not_eq_true', Bool.not_eq_false', Go.Sx.within_iff, Go.Sx.within_f, decide_eq_true_eq, decide_eq_false_iff_not, ne_eq, Int.not_lt, Int.not_le, ge_iff_le, gt_iff_lt, Int.toNat_zero, Int.toNat_one, Int.toNat_natCast] at * <;> first | omega | (show _ ∧ _; omega)), ?_⟩; conv => whnf) | (refine drawI 7 rfl [0, 1, 2, 3, 4, 5, 6, 7, 8, 9, 10, 11, 12, 13, 14, 15, 16, 17, 18, 19, 20, 21, 22, 23, 24, 25, 26, 27, 28, 29, 30, 31, 32, 33, 34, 35, 36, 37, 38] (by kernel_rfl) (go tbl_ok false ?_); conv => whnf) | (refine drawI 22 rfl [0, 1, 2, 3, 4, 5, 6, 7, 8, 9, 10, 11, 12] (by kernel_rfl) (go tbl_ok false ?_); conv => whnf) | fail)
  all_goals try (refine retW tbl_ok rfl rfl ⟨congrArg vb (decide_eq_false fun p => ?_), trivial⟩; obtain ⟨⟨p1, p2, p3, p4⟩, ⟨p5, p6, p7⟩, _⟩ := p; first | (simp only [bne_iff_ne, bne_eq_false_iff_eq, Bool.not_eq_true', Bool.not_eq_false', ne_eq] at *; omega) | (simp_all [opsOk, cellsOk]; done))
  have hA : WorkerA g.nodes.length x := by unfold WorkerA; refine ⟨?_, ?_, ?_, ?_⟩ <;> simp_all [opsOk, cellsOk]
  have hL : WorkerL x := by clear hA; unfold WorkerL; simp only [bne_eq_false_iff_eq, Bool.not_eq_false'] at *; omega
  rename_i a1 a2 a3 a4 a5 a6
  clear h a1 a2 a3 a4 a5 a6
  have hu := upto_zero (InAt x.inputs)
  refine loopW tbl_ok false [] (fun k : Nat => [(6, .c (vi k))]) (fun k => [⟨0, [.c (sGNode g.nodes), .c (vi g.workers), .c (vi g.cap)]⟩, ⟨1, [.c (sGRecord x.queue), .c (sGRecord x.staged), .c (sGRecord x.inputs), .c (sGCell x.cells), .c (sInt x.sums), .c (sBool x.black), .c (sBool x.caps), .c (sGDone x.dones)]⟩]) (fun k => [])
    (fun k => k ≤ x.inputs.length ∧ Upto (InAt x.inputs) k) (fun k => x.inputs.length - k) 0 ⟨Nat.zero_le _, by first | rfl | assumption | simp⟩ ⟨by first | rfl | simp [nth, ren2, ren1, ren0], trivial⟩ (by repeat' (first | exact trivial | exact rfl | refine ⟨?_, ?_⟩)) trivial trivial (by kernel_rfl) (fun k hk => ?_)
  obtain ⟨hk, he⟩ := hk
  conv => whnf
  refine ⟨fun h' => have h' := of_decide_eq_true h'; ?_, fun h' => have h' := of_decide_eq_false h'; ?_⟩ <;> conv => whnf
  · have h' : k < x.inputs.length := by omega
    have e1 : ((k : Int) - 1).toNat = k - 1 := by omega
    repeat' (first | (refine ite_f (by first | with_reducible rfl | assumption) ?_; conv => whnf) | (refine ite_t (by first | with_reducible rfl | assumption) ?_; conv => whnf) | (refine ⟨fun h => ?_, fun h => ?_⟩ <;> conv => whnf) | (refine ⟨by first | omega | (show _ ∧ _; omega) | ((repeat (first | rw [ByteArray.size_append] | rw [bsz] | rw [List.size_toArray] | rw [List.length_cons] | rw [List.length_nil])) <;> omega) | ((repeat rw [Int.toNat_natCast]) <;> first | omega | (show _ ∧ _; omega)) | (simp only [ByteArray.size_append, bsz, List.size_toArray, List.length_cons, List.length_nil]; omega) | (simp only [Int.toNat_natCast]; first | omega | (show _ ∧ _; omega)) | decide | (simp only [bne_eq_false_iff_eq, decide_eq_true_eq, gt_iff_lt, Int.toNat_natCast] at * <;> first | omega | (show _ ∧ _; omega)), ?_⟩; conv => whnf) | (refine drawI 7 rfl [0, 1, 2, 3, 4, 5, 6, 7, 8, 9, 10, 11, 12, 13, 14, 15, 16, 17, 18, 19, 20, 21, 22, 23, 24, 25, 26, 27, 28, 29, 30, 31, 32, 33, 34, 35, 36, 37, 38] (by kernel_rfl) (go tbl_ok false ?_); conv => whnf) | (refine drawI 22 rfl [0, 1, 2, 3, 4, 5, 6, 7, 8, 9, 10, 11, 12] (by kernel_rfl) (go tbl_ok false ?_); conv => whnf) | fail)
    all_goals try (refine retW tbl_ok rfl rfl ⟨congrArg vb (decide_eq_false fun p => ?_), trivial⟩; have p := p.2.2.1 k h'; clear he hA hL hu; simp only [InAt] at p; simp only [bne_iff_ne, bne_eq_false_iff_eq, decide_eq_true_eq, ne_eq, gt_iff_lt, Int.toNat_natCast] at *; first | omega | (simp only [e1] at *; omega))
    all_goals
      have hs : InAt x.inputs k := by clear he hA hL hu; simp only [InAt]; simp only [bne_eq_false_iff_eq, decide_eq_true_eq, decide_eq_false_iff_not, Int.not_lt, gt_iff_lt, Int.toNat_natCast] at *; first | omega | (simp only [e1] at *; omega)
      refine loopE [] (k + 1) ⟨by omega, upto_succ he hs⟩ (by omega) ⟨rfl, trivial⟩ trivial (by repeat' (first | exact trivial | exact rfl | refine ⟨?_, ?_⟩)) (by kernel_rfl) trivial (by kernel_rfl)
  have e : k = x.inputs.length := by omega
  have hI : InsP x.inputs := fun i hi => he i (by omega)
  clear he hu
  have hsl : x.sums.length = 4 := hL.1
  have hu := upto_zero (fun i => SumR (x.sums.getD i default))
  refine loopW tbl_ok false [] (fun k : Nat => [(7, .c (vi k))]) (fun k => [⟨0, [.c (sGNode g.nodes), .c (vi g.workers), .c (vi g.cap)]⟩, ⟨1, [.c (sGRecord x.queue), .c (sGRecord x.staged), .c (sGRecord x.inputs), .c (sGCell x.cells), .c (sInt x.sums), .c (sBool x.black), .c (sBool x.caps), .c (sGDone x.dones)]⟩]) (fun k => [])
    (fun k => k ≤ x.sums.length ∧ Upto (fun i => SumR (x.sums.getD i default)) k) (fun k => x.sums.length - k) 0 ⟨Nat.zero_le _, by first | rfl | assumption | simp⟩ ⟨by first | rfl | simp [nth, ren2, ren1, ren0], trivial⟩ (by repeat' (first | exact trivial | exact rfl | refine ⟨?_, ?_⟩)) trivial trivial (by kernel_rfl) (fun k hk => ?_)
  obtain ⟨hk, he⟩ := hk
  conv => whnf
  refine ⟨fun h' => have h' := of_decide_eq_true h'; ?_, fun h' => have h' := of_decide_eq_false h'; ?_⟩ <;> conv => whnf
  · have h' : k < x.sums.length := by omega
    (repeat (refine ⟨by first | omega | (show _ ∧ _; omega) | ((repeat (first | rw [ByteArray.size_append] | rw [bsz] | rw [List.size_toArray] | rw [List.length_cons] | rw [List.length_nil])) <;> omega) | ((repeat rw [Int.toNat_natCast]) <;> first | omega | (show _ ∧ _; omega)) | (simp only [ByteArray.size_append, bsz, List.size_toArray, List.length_cons, List.length_nil]; omega) | (simp only [Int.toNat_natCast]; first | omega | (show _ ∧ _; omega)) | decide, ?_⟩; conv => whnf))
    refine callR (specIn _ _ _) rfl (go tbl_ok false ?_)
    conv => whnf
    refine ⟨fun h => ?_, fun h => ?_⟩ <;> conv => whnf
    · exact retW tbl_ok rfl rfl ⟨congrArg vb (decide_eq_false fun p => by have := p.2.2.2.1 _ (getD_mem (d := default) h'); clear hA hI he p; simp only [SumR] at this; simp only [Bool.not_eq_true', Go.Sx.within_f, decide_eq_true_eq, decide_eq_false_iff_not, Int.not_lt, Int.toNat_natCast] at *; omega), trivial⟩
    · (repeat (refine ⟨by first | omega | (show _ ∧ _; omega) | ((repeat (first | rw [ByteArray.size_append] | rw [bsz] | rw [List.size_toArray] | rw [List.length_cons] | rw [List.length_nil])) <;> omega) | ((repeat rw [Int.toNat_natCast]) <;> first | omega | (show _ ∧ _; omega)) | (simp only [ByteArray.size_append, bsz, List.size_toArray, List.length_cons, List.length_nil]; omega) | (simp only [Int.toNat_natCast]; first | omega | (show _ ∧ _; omega)) | decide, ?_⟩; conv => whnf))
      refine loopE [] (k + 1) ⟨by omega, upto_succ he (by clear he hA hI; simp only [SumR]; simp only [Bool.not_eq_false', Go.Sx.within_iff, decide_eq_true_eq, decide_eq_false_iff_not, Int.not_lt, Int.toNat_natCast] at *; omega)⟩ (by omega) ⟨rfl, trivial⟩ trivial (by repeat' (first | exact trivial | exact rfl | refine ⟨?_, ?_⟩)) (by kernel_rfl) trivial (by kernel_rfl)
  have e : k = x.sums.length := by omega
  have hS : SumsP x.sums := upto_mem (p := SumR) (e ▸ he)
  clear he hu
  have hu := upto_zero (DoneAt x.dones)
  refine loopW tbl_ok false [] (fun k : Nat => [(8, .c (vi k))]) (fun k => [⟨0, [.c (sGNode g.nodes), .c (vi g.workers), .c (vi g.cap)]⟩, ⟨1, [.c (sGRecord x.queue), .c (sGRecord x.staged), .c (sGRecord x.inputs), .c (sGCell x.cells), .c (sInt x.sums), .c (sBool x.black), .c (sBool x.caps), .c (sGDone x.dones)]⟩]) (fun k => [])
    (fun k => k ≤ x.dones.length ∧ Upto (DoneAt x.dones) k) (fun k => x.dones.length - k) 0 ⟨Nat.zero_le _, by first | rfl | assumption | simp⟩ ⟨by first | rfl | simp [nth, ren2, ren1, ren0], trivial⟩ (by repeat' (first | exact trivial | exact rfl | refine ⟨?_, ?_⟩)) trivial trivial (by kernel_rfl) (fun k hk => ?_)
  obtain ⟨hk, he⟩ := hk
  conv => whnf
  refine ⟨fun h' => have h' := of_decide_eq_true h'; ?_, fun h' => have h' := of_decide_eq_false h'; ?_⟩ <;> conv => whnf
  · have h' : k < x.dones.length := by omega
    (repeat (refine ⟨by first | omega | (show _ ∧ _; omega) | ((repeat (first | rw [ByteArray.size_append] | rw [bsz] | rw [List.size_toArray] | rw [List.length_cons] | rw [List.length_nil])) <;> omega) | ((repeat rw [Int.toNat_natCast]) <;> first | omega | (show _ ∧ _; omega)) | (simp only [ByteArray.size_append, bsz, List.size_toArray, List.length_cons, List.length_nil]; omega) | (simp only [Int.toNat_natCast]; first | omega | (show _ ∧ _; omega)) | decide, ?_⟩; conv => whnf))
    refine callR (specIn _ _ _) rfl (go tbl_ok false ?_)
    conv => whnf
    refine ⟨fun h => ?_, fun h => ?_⟩ <;> conv => whnf
    · exact retW tbl_ok rfl rfl ⟨congrArg vb (decide_eq_false fun p => by have := (p.2.2.2.2 k h').1; clear hA hI he hS p; simp only [Bool.not_eq_true', Go.Sx.within_f, decide_eq_true_eq, decide_eq_false_iff_not, Int.not_lt, Int.toNat_natCast] at *; omega), trivial⟩
    have hd : 0 ≤ (x.dones.getD k default).epoch ∧ (x.dones.getD k default).epoch ≤ 3 := by clear hA hI he hS hu; simp only [Bool.not_eq_false', Go.Sx.within_iff, decide_eq_true_eq, decide_eq_false_iff_not, Int.not_lt, Int.toNat_natCast] at *; omega
    have hv := upto_zero (fun i => (x.dones.getD i default).epoch ≠ (x.dones.getD k default).epoch)
    refine loopW tbl_ok false [] (fun j : Nat => [(9, .c (vi j))]) (fun j => [⟨0, [.c (sGNode g.nodes), .c (vi g.workers), .c (vi g.cap)]⟩, ⟨1, [.c (sGRecord x.queue), .c (sGRecord x.staged), .c (sGRecord x.inputs), .c (sGCell x.cells), .c (sInt x.sums), .c (sBool x.black), .c (sBool x.caps), .c (sGDone x.dones)]⟩]) (fun j => [])
      (fun j => j ≤ k ∧ Upto (fun i => (x.dones.getD i default).epoch ≠ (x.dones.getD k default).epoch) j) (fun j => k - j) 0 ⟨Nat.zero_le _, by first | rfl | assumption | simp⟩ ⟨by first | rfl | simp [nth, ren2, ren1, ren0], trivial⟩ (by repeat' (first | exact trivial | exact rfl | refine ⟨?_, ?_⟩)) trivial trivial (by kernel_rfl) (fun j hj => ?_)
    obtain ⟨hj, hej⟩ := hj
    conv => whnf
    refine ⟨fun h3 => have h3 := of_decide_eq_true h3; ?_, fun h3 => have h3 := of_decide_eq_false h3; ?_⟩ <;> conv => whnf
    · have h3 : j < k := by omega
      first | (refine drawI 7 rfl [0, 1, 2, 3, 4, 5, 6, 7, 8, 9, 10, 11, 12, 13, 14, 15, 16, 17, 18, 19, 20, 21, 22, 23, 24, 25, 26, 27, 28, 29, 30, 31, 32, 33, 34, 35, 36, 37, 38] (by kernel_rfl) (go tbl_ok false ?_); conv => whnf) | (refine drawI 22 rfl [0, 1, 2, 3, 4, 5, 6, 7, 8, 9, 10, 11, 12] (by kernel_rfl) (go tbl_ok false ?_); conv => whnf)
      (repeat (refine ⟨by first | omega | (show _ ∧ _; omega) | ((repeat (first | rw [ByteArray.size_append] | rw [bsz] | rw [List.size_toArray] | rw [List.length_cons] | rw [List.length_nil])) <;> omega) | ((repeat rw [Int.toNat_natCast]) <;> first | omega | (show _ ∧ _; omega)) | (simp only; omega) | (simp only [Int.toNat_natCast]; first | omega | (show _ ∧ _; omega)) | decide, ?_⟩; conv => whnf))
      refine ⟨fun h4 => have h4 := eq_of_beq h4; ?_, fun h4 => have h4 := beq_eq_false_iff_ne.1 h4; ?_⟩ <;> conv => whnf
      · exact retW tbl_ok rfl rfl ⟨congrArg vb (decide_eq_false fun p => (p.2.2.2.2 k h').2 j h3 h4), trivial⟩
      · (repeat (refine ⟨by first | omega | (show _ ∧ _; omega) | ((repeat (first | rw [ByteArray.size_append] | rw [bsz] | rw [List.size_toArray] | rw [List.length_cons] | rw [List.length_nil])) <;> omega) | ((repeat rw [Int.toNat_natCast]) <;> first | omega | (show _ ∧ _; omega)) | (simp only [ByteArray.size_append, bsz, List.size_toArray, List.length_cons, List.length_nil]; omega) | (simp only [Int.toNat_natCast]; first | omega | (show _ ∧ _; omega)) | decide, ?_⟩; conv => whnf))
        refine loopE [] (j + 1) ⟨by omega, upto_succ hej h4⟩ (by omega) ⟨rfl, trivial⟩ trivial (by repeat' (first | exact trivial | exact rfl | refine ⟨?_, ?_⟩)) (by kernel_rfl) trivial (by kernel_rfl)
    · have e : j = k := by omega
      (repeat (refine ⟨by first | omega | (show _ ∧ _; omega) | ((repeat (first | rw [ByteArray.size_append] | rw [bsz] | rw [List.size_toArray] | rw [List.length_cons] | rw [List.length_nil])) <;> omega) | ((repeat rw [Int.toNat_natCast]) <;> first | omega | (show _ ∧ _; omega)) | (simp only [ByteArray.size_append, bsz, List.size_toArray, List.length_cons, List.length_nil]; omega) | (simp only [Int.toNat_natCast]; first | omega | (show _ ∧ _; omega)) | decide, ?_⟩; conv => whnf))
      refine loopE [] (k + 1) ⟨by omega, upto_succ he ⟨hd, fun i hi => hej i (by omega)⟩⟩ (by omega) ⟨rfl, trivial⟩ trivial (by repeat' (first | exact trivial | exact rfl | refine ⟨?_, ?_⟩)) (by kernel_rfl) trivial (by kernel_rfl)
  · have e : k = x.dones.length := by omega
    exact retW tbl_ok rfl rfl ⟨congrArg vb (decide_eq_true ⟨hA, hL, hI, hS, fun i hi => he i (by omega)⟩), trivial⟩

end Go.Proofs.YtlbmkgkmbjadcaaGreat
