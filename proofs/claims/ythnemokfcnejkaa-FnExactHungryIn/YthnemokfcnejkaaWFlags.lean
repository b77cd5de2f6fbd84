/- Texts for the law FnExactHungryIn: WFlags. No conditions. -/
import Derived.Test.YthnemokfcnejkaaEng3
import Derived.Test.YthnemokfcnejkaaH2

set_option maxRecDepth 100000
namespace Go.Proofs.Ythnemokfcnejkaa
open Go.Sx
theorem specIn (n lo hi : Int) : Meets Try.prog 103 [.one (vi n), .one (vi lo), .one (vi hi)] [.one (vb (within n lo hi))] := by
  refine enterW tbl_ok false Try.func103 rfl (by decide) fun W => ?_
  conv => whnf
  repeat' (first | (refine ite_f (by first | with_reducible rfl | assumption) ?_; conv => whnf) | (refine ite_t (by first | with_reducible rfl | assumption) ?_; conv => whnf) | (refine ⟨fun h => ?_, fun h => ?_⟩ <;> conv => whnf) | (refine retW tbl_ok rfl rfl ⟨?_, trivial⟩; conv => whnf) | (refine ⟨by first | omega | (show _ ∧ _; omega) | (simp only [Int.toNat_natCast]; first | omega | (show _ ∧ _; omega)) | decide, ?_⟩; conv => whnf) | fail)
  all_goals (refine congrArg vb ?_; simp_all [within] <;> omega)
theorem implIn (n lo hi : Int) : Meets Try.prog 114 [.one (vi n), .one (vi lo), .one (vi hi)] [.one (vb (within n lo hi))] := by
  refine enterW tbl_ok false Try.func114 rfl (by decide) fun W => ?_
  conv => whnf
  repeat' (first | (refine ite_f (by first | with_reducible rfl | assumption) ?_; conv => whnf) | (refine ite_t (by first | with_reducible rfl | assumption) ?_; conv => whnf) | (refine ⟨fun h => ?_, fun h => ?_⟩ <;> conv => whnf) | (refine retW tbl_ok rfl rfl ⟨?_, trivial⟩; conv => whnf) | (refine ⟨by first | omega | (show _ ∧ _; omega) | (simp only [Int.toNat_natCast]; first | omega | (show _ ∧ _; omega)) | decide, ?_⟩; conv => whnf) | fail)
  all_goals (refine congrArg vb ?_; simp_all [within] <;> omega)


def flag (l : List Bool) (k : Int) : Bool := if within k 0 (l.length - 1) then l.getD k.toNat default else false
def thatW (p : Nat → Bool) (n : Nat) : List Int := (List.range n).flatMap fun k => if p k then [(k : Int)] else []
theorem thatW_succ (p : Nat → Bool) (k : Nat) : thatW p (k + 1) = thatW p k ++ if p k then [(k : Int)] else [] := flatMap_succ _ _
theorem thatW_len (p : Nat → Bool) (k : Nat) : (thatW p k).length ≤ k := by
  induction k with
  | zero => exact Nat.le_refl _
  | succ k ih => rw [thatW_succ, List.length_append]; split <;> simp <;> omega
def blackP (x : GCluster) (e : Int) (k : Nat) : Bool := flag (x.workers.getD k default).black e
def capsP (x : GCluster) (e : Int) (k : Nat) : Bool := flag (x.workers.getD k default).caps e
def idle (w : GWorker) : Bool := w.queue.length + w.staged.length + w.inputs.length == 0
def idleP (x : GCluster) (k : Nat) : Bool := idle (x.workers.getD k default)
theorem black_le_w (x : GWorker) : x.black.length ≤ x.w := by simp only [GWorker.w]; omega
theorem caps_le_w (x : GWorker) : x.caps.length ≤ x.w := by simp only [GWorker.w]; omega
theorem three_le_w (x : GWorker) : x.queue.length + x.staged.length + x.inputs.length ≤ x.w := by simp only [GWorker.w]; omega

theorem implFlagged (l : List Bool) (k : Int) (hx : l.length ≤ 1048576) : Meets Try.prog 105 [.one (sBool l), .one (vi k)] [.one (vb (flag l k))] := by
  refine enterW tbl_ok false Try.func105 rfl (by decide) fun W => ?_
  conv => whnf
  (repeat (refine ⟨by first | omega | (show _ ∧ _; omega) | (simp only [Int.toNat_natCast]; first | omega | (show _ ∧ _; omega)) | decide, ?_⟩; conv => whnf))
  refine callR (implIn k 0 (l.length - 1)) rfl (go tbl_ok false ?_)
  conv => whnf
  by_cases h1 : within k 0 (l.length - 1) = true
  · have h2 := Go.Sx.within_iff.1 h1
    repeat' (first | (refine ite_f (by first | with_reducible rfl | assumption) ?_; conv => whnf) | (refine ite_t (by first | with_reducible rfl | assumption) ?_; conv => whnf) | (refine ⟨fun h => ?_, fun h => ?_⟩ <;> conv => whnf) | (refine ⟨by first | omega | (show _ ∧ _; omega) | (simp only [Int.toNat_natCast]; first | omega | (show _ ∧ _; omega)) | decide, ?_⟩; conv => whnf) | fail)
    exact retW tbl_ok rfl rfl ⟨congrArg vb (by rw [flag, if_pos h1]), trivial⟩
  · have h3 : within k 0 (l.length - 1) = false := by simpa using h1
    repeat' (first | (refine ite_f (by first | with_reducible rfl | assumption) ?_; conv => whnf) | (refine ite_t (by first | with_reducible rfl | assumption) ?_; conv => whnf) | (refine ⟨fun h => ?_, fun h => ?_⟩ <;> conv => whnf) | (refine ⟨by first | omega | (show _ ∧ _; omega) | (simp only [Int.toNat_natCast]; first | omega | (show _ ∧ _; omega)) | decide, ?_⟩; conv => whnf) | fail)
    exact retW tbl_ok rfl rfl ⟨congrArg vb (by rw [flag, if_neg h1]), trivial⟩

theorem specIdle (x : GWorker) (hx : x.w ≤ 1048576) : Meets Try.prog 112 [.agg x.c] [.one (vb (idle x))] := by
  have h := three_le_w x
  refine enterW tbl_ok false Try.func112 rfl (by decide) fun W => ?_
  conv => whnf
  repeat' (first | (refine ite_f (by first | with_reducible rfl | assumption) ?_; conv => whnf) | (refine ite_t (by first | with_reducible rfl | assumption) ?_; conv => whnf) | (refine ⟨fun h => ?_, fun h => ?_⟩ <;> conv => whnf) | (refine ⟨by first | omega | (show _ ∧ _; omega) | (simp only [Int.toNat_natCast]; first | omega | (show _ ∧ _; omega)) | decide, ?_⟩; conv => whnf) | fail)
  all_goals (refine retW tbl_ok rfl rfl ⟨?_, trivial⟩; (conv => whnf); refine congrArg vb ?_; (first | (rw [Bool.eq_iff_iff]; simp only [idle, beq_iff_eq, beq_eq_false_iff_ne, ne_eq] at *; omega) | exact beq_eq_false_iff_ne.2 (by simp only [beq_iff_eq, beq_eq_false_iff_ne, ne_eq] at *; omega)))
theorem implIdle (x : GWorker) (hx : x.w ≤ 1048576) : Meets Try.prog 102 [.agg x.c] [.one (vb (idle x))] := by
  have h := three_le_w x
  refine enterW tbl_ok false Try.func102 rfl (by decide) fun W => ?_
  conv => whnf
  (repeat (refine ⟨by first | omega | (show _ ∧ _; omega) | (simp only [Int.toNat_natCast]; first | omega | (show _ ∧ _; omega)) | decide, ?_⟩; conv => whnf))
  exact retW tbl_ok rfl rfl ⟨congrArg vb (by rw [Bool.eq_iff_iff]; simp only [idle, beq_iff_eq]; omega), trivial⟩

theorem that1 (x : GCluster) (hx : x.w ≤ 1048576) (f : Nat) (cs : List Cell) (p : Nat → Bool) (hf : ∀ k : Nat, k < x.workers.length → Meets Try.prog f [.one (vi k), .ptr cs] [.one (vb (p k))]) :
    Meets Try.prog 95 [.agg x.c, .fn f [.ptr cs]] [.one (sInt (thatW p x.workers.length))] := by
  have hl := GCluster.workers_le hx
  refine enterW tbl_ok false Try.func95 rfl (by decide) fun W => ?_
  conv => whnf
  refine nilW 5 1 (fun i => (fun n => [vi n]) (([] : List Int).getD i default)) rfl ?_
  refine loopW tbl_ok false [] (fun k : Nat => [(10, .c (vi k))]) (fun k => []) (fun k => [⟨1, sInt (thatW p k)⟩])
    (fun k => k ≤ x.workers.length) (fun k => x.workers.length - k) 0 (Nat.zero_le _) ⟨by first | rfl | simp [nth, ren2, ren1, ren0], trivial⟩ trivial ⟨by first | rfl | exact (congrArg (fun l => slC _ _ l) (List.append_nil _)).symm | simp, trivial⟩ trivial (by kernel_rfl) (fun k hk => ?_)
  conv => whnf
  refine ⟨fun h' => have h' := of_decide_eq_true h'; ?_, fun h' => have h' := of_decide_eq_false h'; ?_⟩ <;> conv => whnf
  · have h' : k < x.workers.length := by omega
    have ht := thatW_succ p k
    have hn := thatW_len p k
    (repeat (refine ⟨by first | omega | (show _ ∧ _; omega) | (simp only [Int.toNat_natCast]; first | omega | (show _ ∧ _; omega)) | decide, ?_⟩; conv => whnf))
    refine callR (hf k h') rfl (go tbl_ok false ?_)
    conv => whnf
    refine ⟨fun hc => ?_, fun hc => ?_⟩ <;> conv => whnf
    · (repeat (refine ⟨by first | omega | (show _ ∧ _; omega) | (simp only [Int.toNat_natCast]; first | omega | (show _ ∧ _; omega)) | decide, ?_⟩; conv => whnf))
      refine appW tbl_ok rfl rfl rfl rfl rfl rfl rfl rfl rfl rfl rfl (sInt (thatW p k ++ [(k : Int)])) (slC_snoc rfl) (by intro h; cases h) (by omega) (go tbl_ok false ?_)
      conv => whnf
      (repeat (refine ⟨by first | omega | (show _ ∧ _; omega) | (simp only [Int.toNat_natCast]; first | omega | (show _ ∧ _; omega)) | decide, ?_⟩; conv => whnf))
      refine loopE [(1, 3)] (k + 1) (by omega) (by omega) ⟨rfl, trivial⟩ ⟨congrArg sInt (by rw [ht, if_pos hc]), trivial⟩ trivial (by kernel_rfl) trivial (by kernel_rfl)
    · (repeat (refine ⟨by first | omega | (show _ ∧ _; omega) | (simp only [Int.toNat_natCast]; first | omega | (show _ ∧ _; omega)) | decide, ?_⟩; conv => whnf))
      refine loopE [] (k + 1) (by omega) (by omega) ⟨rfl, trivial⟩ ⟨congrArg sInt (by rw [ht, if_neg (by rw [hc]; decide), List.append_nil]), trivial⟩ trivial (by kernel_rfl) trivial (by kernel_rfl)
  · refine retW tbl_ok rfl rfl ⟨?_, trivial⟩
    exact congrArg (fun k => sInt (thatW p k)) (show k = x.workers.length by omega)
theorem that2 (x : GCluster) (hx : x.w ≤ 1048576) (f : Nat) (cs ds : List Cell) (p : Nat → Bool) (hf : ∀ k : Nat, k < x.workers.length → Meets Try.prog f [.one (vi k), .ptr cs, .ptr ds] [.one (vb (p k))]) :
    Meets Try.prog 95 [.agg x.c, .fn f [.ptr cs, .ptr ds]] [.one (sInt (thatW p x.workers.length))] := by
  have hl := GCluster.workers_le hx
  refine enterW tbl_ok false Try.func95 rfl (by decide) fun W => ?_
  conv => whnf
  refine nilW 5 1 (fun i => (fun n => [vi n]) (([] : List Int).getD i default)) rfl ?_
  refine loopW tbl_ok false [] (fun k : Nat => [(10, .c (vi k))]) (fun k => []) (fun k => [⟨1, sInt (thatW p k)⟩])
    (fun k => k ≤ x.workers.length) (fun k => x.workers.length - k) 0 (Nat.zero_le _) ⟨by first | rfl | simp [nth, ren2, ren1, ren0], trivial⟩ trivial ⟨by first | rfl | exact (congrArg (fun l => slC _ _ l) (List.append_nil _)).symm | simp, trivial⟩ trivial (by kernel_rfl) (fun k hk => ?_)
  conv => whnf
  refine ⟨fun h' => have h' := of_decide_eq_true h'; ?_, fun h' => have h' := of_decide_eq_false h'; ?_⟩ <;> conv => whnf
  · have h' : k < x.workers.length := by omega
    have ht := thatW_succ p k
    have hn := thatW_len p k
    (repeat (refine ⟨by first | omega | (show _ ∧ _; omega) | (simp only [Int.toNat_natCast]; first | omega | (show _ ∧ _; omega)) | decide, ?_⟩; conv => whnf))
    refine callR (hf k h') rfl (go tbl_ok false ?_)
    conv => whnf
    refine ⟨fun hc => ?_, fun hc => ?_⟩ <;> conv => whnf
    · (repeat (refine ⟨by first | omega | (show _ ∧ _; omega) | (simp only [Int.toNat_natCast]; first | omega | (show _ ∧ _; omega)) | decide, ?_⟩; conv => whnf))
      refine appW tbl_ok rfl rfl rfl rfl rfl rfl rfl rfl rfl rfl rfl (sInt (thatW p k ++ [(k : Int)])) (slC_snoc rfl) (by intro h; cases h) (by omega) (go tbl_ok false ?_)
      conv => whnf
      (repeat (refine ⟨by first | omega | (show _ ∧ _; omega) | (simp only [Int.toNat_natCast]; first | omega | (show _ ∧ _; omega)) | decide, ?_⟩; conv => whnf))
      refine loopE [(1, 3)] (k + 1) (by omega) (by omega) ⟨rfl, trivial⟩ ⟨congrArg sInt (by rw [ht, if_pos hc]), trivial⟩ trivial (by kernel_rfl) trivial (by kernel_rfl)
    · (repeat (refine ⟨by first | omega | (show _ ∧ _; omega) | (simp only [Int.toNat_natCast]; first | omega | (show _ ∧ _; omega)) | decide, ?_⟩; conv => whnf))
      refine loopE [] (k + 1) (by omega) (by omega) ⟨rfl, trivial⟩ ⟨congrArg sInt (by rw [ht, if_neg (by rw [hc]; decide), List.append_nil]), trivial⟩ trivial (by kernel_rfl) trivial (by kernel_rfl)
  · refine retW tbl_ok rfl rfl ⟨?_, trivial⟩
    exact congrArg (fun k => sInt (thatW p k)) (show k = x.workers.length by omega)

theorem specBlackIn (x : GCluster) (e : Int) (hx : x.w ≤ 1048576) : Meets Try.prog 39 [.agg x.c, .one (vi e)] [.one (sInt (thatW (blackP x e) x.workers.length))] := by
  have hl := GCluster.workers_le hx
  refine enterW tbl_ok false Try.func39 rfl (by decide) fun W => ?_
  conv => whnf
  refine castW 1 (sInt []) rfl nil_cast ?_
  refine loopW tbl_ok false [7] (fun k : Nat => [(6, .c (vi k))]) (fun k => [⟨0, [.c (sGNode x.graph.nodes), .c (vi x.graph.workers), .c (vi x.graph.cap), .c (sGWorker x.workers), .c (sGLink x.links), .c (sGToken x.tokens), .c (sGNews x.news)]⟩]) (fun k => [⟨1, sInt (thatW (blackP x e) k)⟩])
    (fun k => k ≤ x.workers.length) (fun k => x.workers.length - k) 0 (Nat.zero_le _) ⟨by first | rfl | simp [nth, ren2, ren1, ren0], trivial⟩ (by repeat' (first | exact trivial | exact rfl | refine ⟨?_, ?_⟩)) ⟨by first | rfl | exact (congrArg (fun l => slC _ _ l) (List.append_nil _)).symm | simp, trivial⟩ trivial (by kernel_rfl) (fun k hk => ?_)
  conv => whnf
  refine ⟨fun h' => have h' := of_decide_eq_true h'; ?_, fun h' => have h' := of_decide_eq_false h'; ?_⟩ <;> conv => whnf
  · have h' : k < x.workers.length := by omega
    have hw := GCluster.worker_le hx h'
    have hq := Nat.le_trans (black_le_w (x.workers.getD k default)) (show _ ≤ 1048576 by omega)
    have ht := thatW_succ (blackP x e) k
    have hn := thatW_len (blackP x e) k
    (repeat (refine ⟨by first | omega | (show _ ∧ _; omega) | (simp only [Int.toNat_natCast]; first | omega | (show _ ∧ _; omega)) | decide, ?_⟩; conv => whnf))
    refine callR (specIn e 0 ((x.workers.getD k default).black.length - 1)) rfl (go tbl_ok false ?_)
    conv => whnf
    by_cases h1 : within e 0 ((x.workers.getD k default).black.length - 1) = true
    · have h2 := Go.Sx.within_iff.1 h1
      have hc0 : blackP x e k = (x.workers.getD k default).black.getD e.toNat default := by rw [blackP, flag, if_pos h1]
      repeat' (first | (refine ite_f (by first | with_reducible rfl | assumption) ?_; conv => whnf) | (refine ite_t (by first | with_reducible rfl | assumption) ?_; conv => whnf) | (refine ⟨fun h => ?_, fun h => ?_⟩ <;> conv => whnf) | (refine ⟨by first | omega | (show _ ∧ _; omega) | (simp only [Int.toNat_natCast]; first | omega | (show _ ∧ _; omega)) | decide, ?_⟩; conv => whnf) | fail)
      · have hc : blackP x e k = true := by rw [hc0]; exact h
        rw [if_pos hc] at ht
        refine appW tbl_ok rfl rfl rfl rfl rfl rfl rfl rfl rfl rfl rfl (sInt (thatW (blackP x e) k ++ [(k : Int)])) (slC_snoc rfl) (by intro h; cases h) (by omega) (go tbl_ok false ?_)
        conv => whnf
        (repeat (refine ⟨by first | omega | (show _ ∧ _; omega) | (simp only [Int.toNat_natCast]; first | omega | (show _ ∧ _; omega)) | decide, ?_⟩; conv => whnf))
        refine loopE [(1, 3)] (k + 1) (by omega) (by omega) ⟨rfl, trivial⟩ ⟨congrArg sInt ht.symm, trivial⟩ (by repeat' (first | exact trivial | exact rfl | refine ⟨?_, ?_⟩)) (by kernel_rfl) trivial (by kernel_rfl)
      · have hc : blackP x e k = false := by rw [hc0]; exact h
        rw [if_neg (by rw [hc]; decide), List.append_nil] at ht
        (repeat (refine ⟨by first | omega | (show _ ∧ _; omega) | (simp only [Int.toNat_natCast]; first | omega | (show _ ∧ _; omega)) | decide, ?_⟩; conv => whnf))
        refine loopE [] (k + 1) (by omega) (by omega) ⟨rfl, trivial⟩ ⟨congrArg sInt ht.symm, trivial⟩ (by repeat' (first | exact trivial | exact rfl | refine ⟨?_, ?_⟩)) (by kernel_rfl) trivial (by kernel_rfl)
    · have h3 : within e 0 ((x.workers.getD k default).black.length - 1) = false := by simpa using h1
      have hc : blackP x e k = false := by rw [blackP, flag, if_neg h1]
      rw [if_neg (by rw [hc]; decide), List.append_nil] at ht
      repeat' (first | (refine ite_f (by first | with_reducible rfl | assumption) ?_; conv => whnf) | (refine ite_t (by first | with_reducible rfl | assumption) ?_; conv => whnf) | (refine ⟨fun h => ?_, fun h => ?_⟩ <;> conv => whnf) | (refine ⟨by first | omega | (show _ ∧ _; omega) | (simp only [Int.toNat_natCast]; first | omega | (show _ ∧ _; omega)) | decide, ?_⟩; conv => whnf) | fail)
      refine loopE [] (k + 1) (by omega) (by omega) ⟨rfl, trivial⟩ ⟨congrArg sInt ht.symm, trivial⟩ (by repeat' (first | exact trivial | exact rfl | refine ⟨?_, ?_⟩)) (by kernel_rfl) trivial (by kernel_rfl)
  · refine retW tbl_ok rfl rfl ⟨?_, trivial⟩
    exact congrArg (fun k => sInt (thatW (blackP x e) k)) (show k = x.workers.length by omega)

theorem implBlackInF (x : GCluster) (e : Int) (hx : x.w ≤ 1048576) (k : Nat) (hk : k < x.workers.length) : Meets Try.prog 104 [.one (vi k), .ptr x.c, .ptr [vi e]] [.one (vb (blackP x e k))] := by
  have hl := GCluster.workers_le hx
  have hw := GCluster.worker_le hx hk
  have hq := Nat.le_trans (black_le_w (x.workers.getD k default)) (show _ ≤ 1048576 by omega)
  refine enterW tbl_ok false Try.func104 rfl (by decide) fun W => ?_
  conv => whnf
  first | (refine drawI 1 rfl [0, 1, 2, 3, 4, 5, 6, 7, 8] (by kernel_rfl) (go tbl_ok false ?_); conv => whnf)
  (repeat (refine ⟨by first | omega | (show _ ∧ _; omega) | (simp only [Int.toNat_natCast]; first | omega | (show _ ∧ _; omega)) | decide, ?_⟩; conv => whnf))
  refine callR (implFlagged (x.workers.getD k default).black e hq) rfl (go tbl_ok false ?_)
  conv => whnf
  (repeat (refine ⟨by first | omega | (show _ ∧ _; omega) | (simp only [Int.toNat_natCast]; first | omega | (show _ ∧ _; omega)) | decide, ?_⟩; conv => whnf))
  exact retW tbl_ok rfl rfl ⟨rfl, trivial⟩
theorem implBlackIn (x : GCluster) (e : Int) (hx : x.w ≤ 1048576) : Meets Try.prog 40 [.agg x.c, .one (vi e)] [.one (sInt (thatW (blackP x e) x.workers.length))] := by
  refine enterW tbl_ok false Try.func40 rfl (by decide) fun W => ?_
  conv => whnf
  refine callW (that2 x hx _ x.c [vi e] (blackP x e) (fun k hk => implBlackInF x e hx k hk)) rfl (go tbl_ok false ?_)
  conv => whnf
  exact retW tbl_ok rfl rfl ⟨rfl, trivial⟩

theorem specCapsIn (x : GCluster) (e : Int) (hx : x.w ≤ 1048576) : Meets Try.prog 45 [.agg x.c, .one (vi e)] [.one (sInt (thatW (capsP x e) x.workers.length))] := by
  have hl := GCluster.workers_le hx
  refine enterW tbl_ok false Try.func45 rfl (by decide) fun W => ?_
  conv => whnf
  refine castW 1 (sInt []) rfl nil_cast ?_
  refine loopW tbl_ok false [7] (fun k : Nat => [(6, .c (vi k))]) (fun k => [⟨0, [.c (sGNode x.graph.nodes), .c (vi x.graph.workers), .c (vi x.graph.cap), .c (sGWorker x.workers), .c (sGLink x.links), .c (sGToken x.tokens), .c (sGNews x.news)]⟩]) (fun k => [⟨1, sInt (thatW (capsP x e) k)⟩])
    (fun k => k ≤ x.workers.length) (fun k => x.workers.length - k) 0 (Nat.zero_le _) ⟨by first | rfl | simp [nth, ren2, ren1, ren0], trivial⟩ (by repeat' (first | exact trivial | exact rfl | refine ⟨?_, ?_⟩)) ⟨by first | rfl | exact (congrArg (fun l => slC _ _ l) (List.append_nil _)).symm | simp, trivial⟩ trivial (by kernel_rfl) (fun k hk => ?_)
  conv => whnf
  refine ⟨fun h' => have h' := of_decide_eq_true h'; ?_, fun h' => have h' := of_decide_eq_false h'; ?_⟩ <;> conv => whnf
  · have h' : k < x.workers.length := by omega
    have hw := GCluster.worker_le hx h'
    have hq := Nat.le_trans (caps_le_w (x.workers.getD k default)) (show _ ≤ 1048576 by omega)
    have ht := thatW_succ (capsP x e) k
    have hn := thatW_len (capsP x e) k
    (repeat (refine ⟨by first | omega | (show _ ∧ _; omega) | (simp only [Int.toNat_natCast]; first | omega | (show _ ∧ _; omega)) | decide, ?_⟩; conv => whnf))
    refine callR (specIn e 0 ((x.workers.getD k default).caps.length - 1)) rfl (go tbl_ok false ?_)
    conv => whnf
    by_cases h1 : within e 0 ((x.workers.getD k default).caps.length - 1) = true
    · have h2 := Go.Sx.within_iff.1 h1
      have hc0 : capsP x e k = (x.workers.getD k default).caps.getD e.toNat default := by rw [capsP, flag, if_pos h1]
      repeat' (first | (refine ite_f (by first | with_reducible rfl | assumption) ?_; conv => whnf) | (refine ite_t (by first | with_reducible rfl | assumption) ?_; conv => whnf) | (refine ⟨fun h => ?_, fun h => ?_⟩ <;> conv => whnf) | (refine ⟨by first | omega | (show _ ∧ _; omega) | (simp only [Int.toNat_natCast]; first | omega | (show _ ∧ _; omega)) | decide, ?_⟩; conv => whnf) | fail)
      · have hc : capsP x e k = true := by rw [hc0]; exact h
        rw [if_pos hc] at ht
        refine appW tbl_ok rfl rfl rfl rfl rfl rfl rfl rfl rfl rfl rfl (sInt (thatW (capsP x e) k ++ [(k : Int)])) (slC_snoc rfl) (by intro h; cases h) (by omega) (go tbl_ok false ?_)
        conv => whnf
        (repeat (refine ⟨by first | omega | (show _ ∧ _; omega) | (simp only [Int.toNat_natCast]; first | omega | (show _ ∧ _; omega)) | decide, ?_⟩; conv => whnf))
        refine loopE [(1, 3)] (k + 1) (by omega) (by omega) ⟨rfl, trivial⟩ ⟨congrArg sInt ht.symm, trivial⟩ (by repeat' (first | exact trivial | exact rfl | refine ⟨?_, ?_⟩)) (by kernel_rfl) trivial (by kernel_rfl)
      · have hc : capsP x e k = false := by rw [hc0]; exact h
        rw [if_neg (by rw [hc]; decide), List.append_nil] at ht
        (repeat (refine ⟨by first | omega | (show _ ∧ _; omega) | (simp only [Int.toNat_natCast]; first | omega | (show _ ∧ _; omega)) | decide, ?_⟩; conv => whnf))
        refine loopE [] (k + 1) (by omega) (by omega) ⟨rfl, trivial⟩ ⟨congrArg sInt ht.symm, trivial⟩ (by repeat' (first | exact trivial | exact rfl | refine ⟨?_, ?_⟩)) (by kernel_rfl) trivial (by kernel_rfl)
    · have h3 : within e 0 ((x.workers.getD k default).caps.length - 1) = false := by simpa using h1
      have hc : capsP x e k = false := by rw [capsP, flag, if_neg h1]
      rw [if_neg (by rw [hc]; decide), List.append_nil] at ht
      repeat' (first | (refine ite_f (by first | with_reducible rfl | assumption) ?_; conv => whnf) | (refine ite_t (by first | with_reducible rfl | assumption) ?_; conv => whnf) | (refine ⟨fun h => ?_, fun h => ?_⟩ <;> conv => whnf) | (refine ⟨by first | omega | (show _ ∧ _; omega) | (simp only [Int.toNat_natCast]; first | omega | (show _ ∧ _; omega)) | decide, ?_⟩; conv => whnf) | fail)
      refine loopE [] (k + 1) (by omega) (by omega) ⟨rfl, trivial⟩ ⟨congrArg sInt ht.symm, trivial⟩ (by repeat' (first | exact trivial | exact rfl | refine ⟨?_, ?_⟩)) (by kernel_rfl) trivial (by kernel_rfl)
  · refine retW tbl_ok rfl rfl ⟨?_, trivial⟩
    exact congrArg (fun k => sInt (thatW (capsP x e) k)) (show k = x.workers.length by omega)

theorem implCapsInF (x : GCluster) (e : Int) (hx : x.w ≤ 1048576) (k : Nat) (hk : k < x.workers.length) : Meets Try.prog 111 [.one (vi k), .ptr x.c, .ptr [vi e]] [.one (vb (capsP x e k))] := by
  have hl := GCluster.workers_le hx
  have hw := GCluster.worker_le hx hk
  have hq := Nat.le_trans (caps_le_w (x.workers.getD k default)) (show _ ≤ 1048576 by omega)
  refine enterW tbl_ok false Try.func111 rfl (by decide) fun W => ?_
  conv => whnf
  first | (refine drawI 1 rfl [0, 1, 2, 3, 4, 5, 6, 7, 8] (by kernel_rfl) (go tbl_ok false ?_); conv => whnf)
  (repeat (refine ⟨by first | omega | (show _ ∧ _; omega) | (simp only [Int.toNat_natCast]; first | omega | (show _ ∧ _; omega)) | decide, ?_⟩; conv => whnf))
  refine callR (implFlagged (x.workers.getD k default).caps e hq) rfl (go tbl_ok false ?_)
  conv => whnf
  (repeat (refine ⟨by first | omega | (show _ ∧ _; omega) | (simp only [Int.toNat_natCast]; first | omega | (show _ ∧ _; omega)) | decide, ?_⟩; conv => whnf))
  exact retW tbl_ok rfl rfl ⟨rfl, trivial⟩
theorem implCapsIn (x : GCluster) (e : Int) (hx : x.w ≤ 1048576) : Meets Try.prog 46 [.agg x.c, .one (vi e)] [.one (sInt (thatW (capsP x e) x.workers.length))] := by
  refine enterW tbl_ok false Try.func46 rfl (by decide) fun W => ?_
  conv => whnf
  refine callW (that2 x hx _ x.c [vi e] (capsP x e) (fun k hk => implCapsInF x e hx k hk)) rfl (go tbl_ok false ?_)
  conv => whnf
  exact retW tbl_ok rfl rfl ⟨rfl, trivial⟩

theorem specHungryIn (x : GCluster) (hx : x.w ≤ 1048576) : Meets Try.prog 47 [.agg x.c] [.one (sInt (thatW (idleP x) x.workers.length))] := by
  have hl := GCluster.workers_le hx
  refine enterW tbl_ok false Try.func47 rfl (by decide) fun W => ?_
  conv => whnf
  refine castW 1 (sInt []) rfl nil_cast ?_
  refine loopW tbl_ok false [5] (fun k : Nat => [(4, .c (vi k))]) (fun k => [⟨0, [.c (sGNode x.graph.nodes), .c (vi x.graph.workers), .c (vi x.graph.cap), .c (sGWorker x.workers), .c (sGLink x.links), .c (sGToken x.tokens), .c (sGNews x.news)]⟩]) (fun k => [⟨1, sInt (thatW (idleP x) k)⟩])
    (fun k => k ≤ x.workers.length) (fun k => x.workers.length - k) 0 (Nat.zero_le _) ⟨by first | rfl | simp [nth, ren2, ren1, ren0], trivial⟩ (by repeat' (first | exact trivial | exact rfl | refine ⟨?_, ?_⟩)) ⟨by first | rfl | exact (congrArg (fun l => slC _ _ l) (List.append_nil _)).symm | simp, trivial⟩ trivial (by kernel_rfl) (fun k hk => ?_)
  conv => whnf
  refine ⟨fun h' => have h' := of_decide_eq_true h'; ?_, fun h' => have h' := of_decide_eq_false h'; ?_⟩ <;> conv => whnf
  · have h' : k < x.workers.length := by omega
    have hw := GCluster.worker_le hx h'
    have ht := thatW_succ (idleP x) k
    have hn := thatW_len (idleP x) k
    (repeat (refine ⟨by first | omega | (show _ ∧ _; omega) | (simp only [Int.toNat_natCast]; first | omega | (show _ ∧ _; omega)) | decide, ?_⟩; conv => whnf))
    refine callR (specIdle (x.workers.getD k default) (by omega)) rfl (go tbl_ok false ?_)
    conv => whnf
    refine ⟨fun hc => ?_, fun hc => ?_⟩ <;> conv => whnf
    · (repeat (refine ⟨by first | omega | (show _ ∧ _; omega) | (simp only [Int.toNat_natCast]; first | omega | (show _ ∧ _; omega)) | decide, ?_⟩; conv => whnf))
      refine appW tbl_ok rfl rfl rfl rfl rfl rfl rfl rfl rfl rfl rfl (sInt (thatW (idleP x) k ++ [(k : Int)])) (slC_snoc rfl) (by intro h; cases h) (by omega) (go tbl_ok false ?_)
      conv => whnf
      (repeat (refine ⟨by first | omega | (show _ ∧ _; omega) | (simp only [Int.toNat_natCast]; first | omega | (show _ ∧ _; omega)) | decide, ?_⟩; conv => whnf))
      refine loopE [(1, 3)] (k + 1) (by omega) (by omega) ⟨rfl, trivial⟩ ⟨congrArg sInt (by rw [ht, if_pos (show idleP x k = true from hc)]), trivial⟩ (by repeat' (first | exact trivial | exact rfl | refine ⟨?_, ?_⟩)) (by kernel_rfl) trivial (by kernel_rfl)
    · (repeat (refine ⟨by first | omega | (show _ ∧ _; omega) | (simp only [Int.toNat_natCast]; first | omega | (show _ ∧ _; omega)) | decide, ?_⟩; conv => whnf))
      refine loopE [] (k + 1) (by omega) (by omega) ⟨rfl, trivial⟩ ⟨congrArg sInt (by rw [ht, if_neg (by rw [show idleP x k = false from hc]; decide), List.append_nil]), trivial⟩ (by repeat' (first | exact trivial | exact rfl | refine ⟨?_, ?_⟩)) (by kernel_rfl) trivial (by kernel_rfl)
  · refine retW tbl_ok rfl rfl ⟨?_, trivial⟩
    exact congrArg (fun k => sInt (thatW (idleP x) k)) (show k = x.workers.length by omega)
theorem implHungryInF (x : GCluster) (hx : x.w ≤ 1048576) (k : Nat) (hk : k < x.workers.length) : Meets Try.prog 101 [.one (vi k), .ptr x.c] [.one (vb (idleP x k))] := by
  have hl := GCluster.workers_le hx
  have hw := GCluster.worker_le hx hk
  refine enterW tbl_ok false Try.func101 rfl (by decide) fun W => ?_
  conv => whnf
  (repeat (refine ⟨by first | omega | (show _ ∧ _; omega) | (simp only [Int.toNat_natCast]; first | omega | (show _ ∧ _; omega)) | decide, ?_⟩; conv => whnf))
  refine callR (implIdle (x.workers.getD k default) (by omega)) rfl (go tbl_ok false ?_)
  conv => whnf
  exact retW tbl_ok rfl rfl ⟨rfl, trivial⟩
theorem implHungryIn (x : GCluster) (hx : x.w ≤ 1048576) : Meets Try.prog 36 [.agg x.c] [.one (sInt (thatW (idleP x) x.workers.length))] := by
  refine enterW tbl_ok false Try.func36 rfl (by decide) fun W => ?_
  conv => whnf
  refine callW (that1 x hx _ x.c (idleP x) (fun k hk => implHungryInF x hx k hk)) rfl (go tbl_ok false ?_)
  conv => whnf
  exact retW tbl_ok rfl rfl ⟨rfl, trivial⟩

end Go.Proofs.Ythnemokfcnejkaa
