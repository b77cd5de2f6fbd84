/- Texts for the law FnExactRoundTold: WOk3. No conditions. -/
import Derived.Test.YtlbmkgkmbjadcaaGreatWOk2
import Derived.Test.YtlbmkgkmbjadcaaGreatWGr2

set_option maxRecDepth 100000
namespace Go.Proofs.YtlbmkgkmbjadcaaGreat
open Go.Sx
theorem GCluster.graph_le {c : GCluster} {n : Nat} (h : c.w ≤ n) : c.graph.w ≤ n := by simp only [GCluster.w] at h; omega
theorem GCluster.worker_le {c : GCluster} {n : Nat} (h : c.w ≤ n) {k : Nat} (hk : k < c.workers.length) : (c.workers.getD k default).w ≤ n := by
  simp only [GCluster.w, wS] at h
  have hle := wS_take_le GWorker.w c.workers k hk
  omega
theorem GCluster.link_le {c : GCluster} {n : Nat} (h : c.w ≤ n) {k : Nat} (hk : k < c.links.length) : (c.links.getD k default).w ≤ n := by
  simp only [GCluster.w, wS] at h
  have hle := wS_take_le GLink.w c.links k hk
  omega
def GotR (c : GCluster) : Prop := ∀ l ∈ c.links, l.got ≤ 9223372036854775807
def LinkA (c : GCluster) (i : Nat) (l : GLink) : Prop := l.cap = c.graph.cap ∧ OpsP c.graph.nodes.length l.queue ∧ ((i : Int).tdiv c.graph.workers = (i : Int).tmod c.graph.workers → l.queue.length = 0)
instance (c : GCluster) (i : Nat) (l : GLink) : Decidable (LinkA c i l) := by unfold LinkA; infer_instance
def LinkAt (c : GCluster) (i : Nat) : Prop := LinkP (c.links.getD i default) ∧ LinkA c i (c.links.getD i default)
instance (c : GCluster) (i : Nat) : Decidable (LinkAt c i) := by unfold LinkAt; infer_instance
def TokP (n : Int) (t : GToken) : Prop := (0 ≤ t.at_ ∧ t.at_ ≤ n - 1) ∧ (t.going = false → t.at_ = 0) ∧ (-1000000 ≤ t.sum ∧ t.sum ≤ 1000000)
instance (n : Int) (t : GToken) : Decidable (TokP n t) := by unfold TokP; infer_instance
def NewsP (n : Int) (x : GNews) : Prop := (0 ≤ x.to_ ∧ x.to_ ≤ n - 1) ∧ (0 ≤ x.epoch ∧ x.epoch ≤ 3)
instance (n : Int) (x : GNews) : Decidable (NewsP n x) := by unfold NewsP; infer_instance
def ClusterH (c : GCluster) : Prop := GraphP c.graph ∧ c.workers.length = c.graph.workers ∧ c.links.length = c.graph.workers * c.graph.workers ∧ c.tokens.length = 4
instance (c : GCluster) : Decidable (ClusterH c) := by unfold ClusterH; infer_instance
def ClusterP (c : GCluster) : Prop := ClusterH c ∧ (∀ w ∈ c.workers, WorkerP c.graph.nodes.length w) ∧ (∀ i, i < c.links.length → LinkAt c i) ∧ (∀ t ∈ c.tokens, TokP c.graph.workers t) ∧ ∀ x ∈ c.news, NewsP c.graph.workers x
instance (c : GCluster) : Decidable (ClusterP c) := by unfold ClusterP; infer_instance
def clusterOk (c : GCluster) : Bool := decide (ClusterP c)
theorem nn_bd {n : Int} (h1 : 1 ≤ n) (h2 : n ≤ 4) : 1 ≤ n * n ∧ n * n ≤ 16 := by
  have : n = 1 ∨ n = 2 ∨ n = 3 ∨ n = 4 := by omega
  rcases this with rfl | rfl | rfl | rfl <;> decide
theorem tdiv_bd {n k : Int} (hn : 1 ≤ n) (hk : 0 ≤ k) : 0 ≤ k.tdiv n ∧ k.tdiv n ≤ k := by
  obtain ⟨m, rfl⟩ := Int.eq_ofNat_of_zero_le hk
  obtain ⟨d, rfl⟩ := Int.eq_ofNat_of_zero_le (show 0 ≤ n by omega)
  rw [← Int.ofNat_tdiv]
  exact ⟨Int.natCast_nonneg _, Int.ofNat_le.2 (Nat.div_le_self m d)⟩
set_option maxHeartbeats 2000000 in
theorem implClusterOk (x : GCluster) (hx : x.w ≤ 16777216) (hgo : GotR x) : Meets Tryz.prog 136 [.agg x.c] [.one (vb (clusterOk x))] := by
  have hg := GCluster.graph_le hx
  have hx2 := hx
  simp only [GCluster.w, wS] at hx2
  refine enterW tbl_ok false Tryz.func136 rfl (by decide) fun W => ?_
  conv => whnf
  refine callR (implGraphOk x.graph hg) rfl (go tbl_ok false ?_)
  conv => whnf
  refine ⟨fun hG => ?_, fun hG => ?_⟩ <;> conv => whnf
  · repeat (first | (refine ite_f (by first | with_reducible rfl | assumption | (simp; done) | fail) ?_; conv => whnf) | (refine ite_t (by first | with_reducible rfl | assumption | (simp; done) | fail) ?_; conv => whnf) | (refine ⟨by first | omega | (show _ ∧ _; omega) | ((repeat (first | rw [ByteArray.size_append] | rw [bsz] | rw [List.size_toArray] | rw [List.length_cons] | rw [List.length_nil])) <;> omega) | ((repeat rw [Int.toNat_natCast]) <;> first | omega | (show _ ∧ _; omega)) | (simp only [ByteArray.size_append, bsz, List.size_toArray, List.length_cons, List.length_nil]; omega) | (simp only [Int.toNat_natCast]; first | omega | (show _ ∧ _; omega)) | decide, ?_⟩; conv => whnf))
    exact retW tbl_ok rfl rfl ⟨congrArg vb (decide_eq_false fun p => by rw [show graphOk x.graph = true from decide_eq_true p.1.1] at hG; exact absurd hG (by decide)), trivial⟩
  have hG : GraphP x.graph := of_decide_eq_true (show graphOk x.graph = true by simpa using hG)
  have hn1 := hG.2.1.1
  have hn2 := hG.2.1.2
  have hnn := nn_bd hn1 hn2
  repeat' (first | (refine ite_f (by first | with_reducible rfl | assumption) ?_; conv => whnf) | (refine ite_t (by first | with_reducible rfl | assumption) ?_; conv => whnf) | (refine ⟨fun h => ?_, fun h => ?_⟩ <;> conv => whnf) | (refine ⟨by first | omega | (show _ ∧ _; omega) | ((repeat (first | rw [ByteArray.size_append] | rw [bsz] | rw [List.size_toArray] | rw [List.length_cons] | rw [List.length_nil])) <;> omega) | ((repeat rw [Int.toNat_natCast]) <;> first | omega | (show _ ∧ _; omega)) | (simp only [ByteArray.size_append, bsz, List.size_toArray, List.length_cons, List.length_nil]; omega) | (simp only [Int.toNat_natCast]; first | omega | (show _ ∧ _; omega)) | decide | (simp only [beq_iff_eq, beq_eq_false_iff_ne, bne_iff_ne, bne_eq_false_iff_eq, Bool.not_eq_true', Bool.not_eq_false', Go.Sx.within_iff, Go.Sx.within_f, decide_eq_true_eq, decide_eq_false_iff_not, ne_eq, Int.not_lt, Int.not_le, ge_iff_le, gt_iff_lt, Int.toNat_zero, Int.toNat_one, Int.toNat_natCast] at * <;> first | omega | (show _ ∧ _; omega)), ?_⟩; conv => whnf) | (refine drawI 13 rfl [0, 1, 2, 3, 4, 5, 6, 7, 8, 9, 10, 11, 12, 13, 14, 15, 16, 17, 18, 19, 20, 21, 22, 23, 24, 25, 26, 27, 28, 29, 30, 31, 32, 33] (by kernel_rfl) (go tbl_ok false ?_); conv => whnf) | fail)
  all_goals try (refine retW tbl_ok rfl rfl ⟨congrArg vb (decide_eq_false fun p => ?_), trivial⟩; obtain ⟨_, p1, p2, p3⟩ := p.1; clear p hgo hG; simp only [bne_iff_ne, bne_eq_false_iff_eq, Bool.not_eq_false', ne_eq] at *; omega)
  have hH : ClusterH x := by refine ⟨hG, ?_, ?_, ?_⟩ <;> (clear hgo hG; simp only [bne_eq_false_iff_eq, Bool.not_eq_false'] at *; omega)
  rename_i a1 a2
  clear h a1 a2
  have hu := upto_zero (fun i => WorkerP x.graph.nodes.length (x.workers.getD i default))
  refine loopW tbl_ok false [] (fun k : Nat => [(44, .c (vi k))]) (fun k => [⟨0, [.c (sGNode x.graph.nodes), .c (vi x.graph.workers), .c (vi x.graph.cap), .c (sGWorker x.workers), .c (sGLink x.links), .c (sGToken x.tokens), .c (sGNews x.news)]⟩]) (fun k => [])
    (fun k => k ≤ x.workers.length ∧ Upto (fun i => WorkerP x.graph.nodes.length (x.workers.getD i default)) k) (fun k => x.workers.length - k) 0 ⟨Nat.zero_le _, by first | rfl | assumption | simp⟩ ⟨by first | rfl | simp [nth, ren2, ren1, ren0], trivial⟩ (by repeat' (first | exact trivial | exact rfl | refine ⟨?_, ?_⟩)) trivial trivial (by kernel_rfl) (fun k hk => ?_)
  obtain ⟨hk, he⟩ := hk
  conv => whnf
  refine ⟨fun h' => have h' := of_decide_eq_true h'; ?_, fun h' => have h' := of_decide_eq_false h'; ?_⟩ <;> conv => whnf
  · have h' : k < x.workers.length := by omega
    (repeat (refine ⟨by first | omega | (show _ ∧ _; omega) | ((repeat (first | rw [ByteArray.size_append] | rw [bsz] | rw [List.size_toArray] | rw [List.length_cons] | rw [List.length_nil])) <;> omega) | ((repeat rw [Int.toNat_natCast]) <;> first | omega | (show _ ∧ _; omega)) | (simp only [ByteArray.size_append, bsz, List.size_toArray, List.length_cons, List.length_nil]; omega) | (simp only [Int.toNat_natCast]; first | omega | (show _ ∧ _; omega)) | decide, ?_⟩; conv => whnf))
    refine callR (implWorkerOk x.graph (x.workers.getD k default) hg (GCluster.worker_le hx h')) rfl (go tbl_ok false ?_)
    conv => whnf
    refine ⟨fun h => ?_, fun h => ?_⟩ <;> conv => whnf
    · exact retW tbl_ok rfl rfl ⟨congrArg vb (decide_eq_false fun p => by rw [show workerOk _ _ = true from decide_eq_true (p.2.1 _ (getD_mem (d := default) h'))] at h; exact absurd h (by decide)), trivial⟩
    · (repeat (refine ⟨by first | omega | (show _ ∧ _; omega) | ((repeat (first | rw [ByteArray.size_append] | rw [bsz] | rw [List.size_toArray] | rw [List.length_cons] | rw [List.length_nil])) <;> omega) | ((repeat rw [Int.toNat_natCast]) <;> first | omega | (show _ ∧ _; omega)) | (simp only [ByteArray.size_append, bsz, List.size_toArray, List.length_cons, List.length_nil]; omega) | (simp only [Int.toNat_natCast]; first | omega | (show _ ∧ _; omega)) | decide, ?_⟩; conv => whnf))
      refine loopE [] (k + 1) ⟨by omega, upto_succ he (of_decide_eq_true (show workerOk _ _ = true by simpa using h))⟩ (by omega) ⟨rfl, trivial⟩ trivial (by repeat' (first | exact trivial | exact rfl | refine ⟨?_, ?_⟩)) (by kernel_rfl) trivial (by kernel_rfl)
  have e : k = x.workers.length := by omega
  have hW : ∀ w ∈ x.workers, WorkerP x.graph.nodes.length w := upto_mem (p := fun w => WorkerP x.graph.nodes.length w) (e ▸ he)
  clear he hu
  have hu := upto_zero (LinkAt x)
  refine loopW tbl_ok false [] (fun k : Nat => [(57, .c (vi k))]) (fun k => [⟨0, [.c (sGNode x.graph.nodes), .c (vi x.graph.workers), .c (vi x.graph.cap), .c (sGWorker x.workers), .c (sGLink x.links), .c (sGToken x.tokens), .c (sGNews x.news)]⟩]) (fun k => [])
    (fun k => k ≤ x.links.length ∧ Upto (LinkAt x) k) (fun k => x.links.length - k) 0 ⟨Nat.zero_le _, by first | rfl | assumption | simp⟩ ⟨by first | rfl | simp [nth, ren2, ren1, ren0], trivial⟩ (by repeat' (first | exact trivial | exact rfl | refine ⟨?_, ?_⟩)) trivial trivial (by kernel_rfl) (fun k hk => ?_)
  obtain ⟨hk, he⟩ := hk
  conv => whnf
  refine ⟨fun h' => have h' := of_decide_eq_true h'; ?_, fun h' => have h' := of_decide_eq_false h'; ?_⟩ <;> conv => whnf
  · have h' : k < x.links.length := by omega
    have hq : (x.links.getD k default).queue.length ≤ 16777216 := GCluster.link_le hx h'
    have hd := tdiv_bd hn1 (show 0 ≤ (k : Int) by omega)
    repeat' (first | (refine ite_f (by first | with_reducible rfl | assumption) ?_; conv => whnf) | (refine ite_t (by first | with_reducible rfl | assumption) ?_; conv => whnf) | (refine ⟨fun h => ?_, fun h => ?_⟩ <;> conv => whnf) | (refine callR (implLinkOk (x.links.getD k default) (GCluster.link_le hx h') (hgo _ (getD_mem h'))) rfl (go tbl_ok false ?_); conv => whnf) | (refine callR (implOpsOk x.graph (x.links.getD k default).queue hg hq) rfl (go tbl_ok false ?_); conv => whnf) | (refine ⟨by first | omega | (show _ ∧ _; omega) | ((repeat (first | rw [ByteArray.size_append] | rw [bsz] | rw [List.size_toArray] | rw [List.length_cons] | rw [List.length_nil])) <;> omega) | ((repeat rw [Int.toNat_natCast]) <;> first | omega | (show _ ∧ _; omega)) | (simp only [ByteArray.size_append, bsz, List.size_toArray, List.length_cons, List.length_nil]; omega) | (simp only [Int.toNat_natCast]; first | omega | (show _ ∧ _; omega)) | decide | (simp only [beq_iff_eq, beq_eq_false_iff_ne, bne_iff_ne, bne_eq_false_iff_eq, Bool.not_eq_true', Bool.not_eq_false', Go.Sx.within_iff, Go.Sx.within_f, decide_eq_true_eq, decide_eq_false_iff_not, ne_eq, Int.not_lt, Int.not_le, ge_iff_le, gt_iff_lt, Int.toNat_zero, Int.toNat_one, Int.toNat_natCast] at * <;> first | omega | (show _ ∧ _; omega)), ?_⟩; conv => whnf) | (refine drawI 13 rfl [0, 1, 2, 3, 4, 5, 6, 7, 8, 9, 10, 11, 12, 13, 14, 15, 16, 17, 18, 19, 20, 21, 22, 23, 24, 25, 26, 27, 28, 29, 30, 31, 32, 33] (by kernel_rfl) (go tbl_ok false ?_); conv => whnf) | fail)
    all_goals try (refine retW tbl_ok rfl rfl ⟨congrArg vb (decide_eq_false fun p => ?_), trivial⟩; obtain ⟨q1, q2, q3, q4⟩ := p.2.2.1 k h'; clear p he hu hgo hG hW hH; simp only [Int.toNat_natCast, linkOk, opsOk] at *; first | (simp_all; done) | (simp_all; omega))
    all_goals
      have hs : LinkAt x k := by
        refine ⟨of_decide_eq_true (show linkOk _ = true by simp_all), ?_, of_decide_eq_true (show opsOk _ _ = true by simp_all), ?_⟩ <;> clear he hu hgo hG hW hH <;> simp only [Int.toNat_natCast] at * <;> first | (simp_all; done) | (simp_all; omega)
      refine loopE [] (k + 1) ⟨by omega, upto_succ he hs⟩ (by omega) ⟨rfl, trivial⟩ trivial (by repeat' (first | exact trivial | exact rfl | refine ⟨?_, ?_⟩)) (by kernel_rfl) trivial (by kernel_rfl)
  have hK : ∀ i, i < x.links.length → LinkAt x i := fun i hi => he i (by omega)
  clear he hu
  have hu := upto_zero (fun i => TokP x.graph.workers (x.tokens.getD i default))
  refine loopW tbl_ok false [] (fun k : Nat => [(100, .c (vi k))]) (fun k => [⟨0, [.c (sGNode x.graph.nodes), .c (vi x.graph.workers), .c (vi x.graph.cap), .c (sGWorker x.workers), .c (sGLink x.links), .c (sGToken x.tokens), .c (sGNews x.news)]⟩]) (fun k => [])
    (fun k => k ≤ x.tokens.length ∧ Upto (fun i => TokP x.graph.workers (x.tokens.getD i default)) k) (fun k => x.tokens.length - k) 0 ⟨Nat.zero_le _, by first | rfl | assumption | simp⟩ ⟨by first | rfl | simp [nth, ren2, ren1, ren0], trivial⟩ (by repeat' (first | exact trivial | exact rfl | refine ⟨?_, ?_⟩)) trivial trivial (by kernel_rfl) (fun k hk => ?_)
  obtain ⟨hk, he⟩ := hk
  conv => whnf
  refine ⟨fun h' => have h' := of_decide_eq_true h'; ?_, fun h' => have h' := of_decide_eq_false h'; ?_⟩ <;> conv => whnf
  · have h' : k < x.tokens.length := by omega
    repeat' (first | (refine ite_f (by first | with_reducible rfl | assumption) ?_; conv => whnf) | (refine ite_t (by first | with_reducible rfl | assumption) ?_; conv => whnf) | (refine ⟨fun h => ?_, fun h => ?_⟩ <;> conv => whnf) | (refine callR (implIn _ _ _) rfl (go tbl_ok false ?_); conv => whnf) | (refine ⟨by first | omega | (show _ ∧ _; omega) | ((repeat (first | rw [ByteArray.size_append] | rw [bsz] | rw [List.size_toArray] | rw [List.length_cons] | rw [List.length_nil])) <;> omega) | ((repeat rw [Int.toNat_natCast]) <;> first | omega | (show _ ∧ _; omega)) | (simp only [ByteArray.size_append, bsz, List.size_toArray, List.length_cons, List.length_nil]; omega) | (simp only [Int.toNat_natCast]; first | omega | (show _ ∧ _; omega)) | decide | (simp only [beq_iff_eq, beq_eq_false_iff_ne, bne_iff_ne, bne_eq_false_iff_eq, Bool.not_eq_true', Bool.not_eq_false', Go.Sx.within_iff, Go.Sx.within_f, decide_eq_true_eq, decide_eq_false_iff_not, ne_eq, Int.not_lt, Int.not_le, ge_iff_le, gt_iff_lt, Int.toNat_zero, Int.toNat_one, Int.toNat_natCast] at * <;> first | omega | (show _ ∧ _; omega)), ?_⟩; conv => whnf) | (refine drawI 13 rfl [0, 1, 2, 3, 4, 5, 6, 7, 8, 9, 10, 11, 12, 13, 14, 15, 16, 17, 18, 19, 20, 21, 22, 23, 24, 25, 26, 27, 28, 29, 30, 31, 32, 33] (by kernel_rfl) (go tbl_ok false ?_); conv => whnf) | fail)
    all_goals try (refine retW tbl_ok rfl rfl ⟨congrArg vb (decide_eq_false fun p => ?_), trivial⟩; obtain ⟨q1, q2, q3⟩ := p.2.2.2.1 _ (getD_mem (d := default) h'); clear p he hu hgo hG hW hH hK; simp only [Int.toNat_natCast] at *; first | (simp only [bne_iff_ne, bne_eq_false_iff_eq, Bool.not_eq_true', Bool.not_eq_false', Go.Sx.within_iff, Go.Sx.within_f, decide_eq_true_eq, decide_eq_false_iff_not, ne_eq, Int.not_lt] at *; omega) | (simp only [bne_iff_ne, Bool.not_eq_true', Bool.not_eq_false', Go.Sx.within_iff, decide_eq_true_eq, decide_eq_false_iff_not, ne_eq, Int.not_lt] at *; simp_all; done) | (simp_all; done))
    all_goals
      have hs : TokP x.graph.workers (x.tokens.getD k default) := by
        refine ⟨?_, ?_, ?_⟩ <;> clear he hu hgo hG hW hH hK <;> simp only [Int.toNat_natCast] at * <;> first | (simp only [bne_eq_false_iff_eq, Bool.not_eq_true', Bool.not_eq_false', Go.Sx.within_iff, decide_eq_true_eq, decide_eq_false_iff_not, Int.not_lt] at *; omega) | (simp only [Bool.not_eq_false', Go.Sx.within_iff, decide_eq_true_eq, decide_eq_false_iff_not, Int.not_lt] at *; simp_all; done) | (simp_all; done)
      refine loopE [] (k + 1) ⟨by omega, upto_succ he hs⟩ (by omega) ⟨rfl, trivial⟩ trivial (by repeat' (first | exact trivial | exact rfl | refine ⟨?_, ?_⟩)) (by kernel_rfl) trivial (by kernel_rfl)
  have e : k = x.tokens.length := by omega
  have hT : ∀ t ∈ x.tokens, TokP x.graph.workers t := upto_mem (p := TokP x.graph.workers) (e ▸ he)
  clear he hu
  have hu := upto_zero (fun i => NewsP x.graph.workers (x.news.getD i default))
  refine loopW tbl_ok false [] (fun k : Nat => [(130, .c (vi k))]) (fun k => [⟨0, [.c (sGNode x.graph.nodes), .c (vi x.graph.workers), .c (vi x.graph.cap), .c (sGWorker x.workers), .c (sGLink x.links), .c (sGToken x.tokens), .c (sGNews x.news)]⟩]) (fun k => [])
    (fun k => k ≤ x.news.length ∧ Upto (fun i => NewsP x.graph.workers (x.news.getD i default)) k) (fun k => x.news.length - k) 0 ⟨Nat.zero_le _, by first | rfl | assumption | simp⟩ ⟨by first | rfl | simp [nth, ren2, ren1, ren0], trivial⟩ (by repeat' (first | exact trivial | exact rfl | refine ⟨?_, ?_⟩)) trivial trivial (by kernel_rfl) (fun k hk => ?_)
  obtain ⟨hk, he⟩ := hk
  conv => whnf
  refine ⟨fun h' => have h' := of_decide_eq_true h'; ?_, fun h' => have h' := of_decide_eq_false h'; ?_⟩ <;> conv => whnf
  · have h' : k < x.news.length := by omega
    repeat' (first | (refine ite_f (by first | with_reducible rfl | assumption) ?_; conv => whnf) | (refine ite_t (by first | with_reducible rfl | assumption) ?_; conv => whnf) | (refine ⟨fun h => ?_, fun h => ?_⟩ <;> conv => whnf) | (refine callR (implIn _ _ _) rfl (go tbl_ok false ?_); conv => whnf) | (refine ⟨by first | omega | (show _ ∧ _; omega) | ((repeat (first | rw [ByteArray.size_append] | rw [bsz] | rw [List.size_toArray] | rw [List.length_cons] | rw [List.length_nil])) <;> omega) | ((repeat rw [Int.toNat_natCast]) <;> first | omega | (show _ ∧ _; omega)) | (simp only [ByteArray.size_append, bsz, List.size_toArray, List.length_cons, List.length_nil]; omega) | (simp only [Int.toNat_natCast]; first | omega | (show _ ∧ _; omega)) | decide | (simp only [beq_iff_eq, beq_eq_false_iff_ne, bne_iff_ne, bne_eq_false_iff_eq, Bool.not_eq_true', Bool.not_eq_false', Go.Sx.within_iff, Go.Sx.within_f, decide_eq_true_eq, decide_eq_false_iff_not, ne_eq, Int.not_lt, Int.not_le, ge_iff_le, gt_iff_lt, Int.toNat_zero, Int.toNat_one, Int.toNat_natCast] at * <;> first | omega | (show _ ∧ _; omega)), ?_⟩; conv => whnf) | (refine drawI 13 rfl [0, 1, 2, 3, 4, 5, 6, 7, 8, 9, 10, 11, 12, 13, 14, 15, 16, 17, 18, 19, 20, 21, 22, 23, 24, 25, 26, 27, 28, 29, 30, 31, 32, 33] (by kernel_rfl) (go tbl_ok false ?_); conv => whnf) | fail)
    all_goals try (refine retW tbl_ok rfl rfl ⟨congrArg vb (decide_eq_false fun p => ?_), trivial⟩; obtain ⟨q1, q2⟩ := p.2.2.2.2 _ (getD_mem (d := default) h'); clear p he hu hgo hG hW hH hK hT; simp only [Bool.not_eq_true', Bool.not_eq_false', Go.Sx.within_iff, Go.Sx.within_f, decide_eq_true_eq, decide_eq_false_iff_not, Int.not_lt, Int.toNat_natCast] at *; omega)
    all_goals
      have hs : NewsP x.graph.workers (x.news.getD k default) := by
        refine ⟨?_, ?_⟩ <;> clear he hu hgo hG hW hH hK hT <;> (simp only [Bool.not_eq_false', Go.Sx.within_iff, decide_eq_true_eq, decide_eq_false_iff_not, Int.not_lt, Int.toNat_natCast] at *; omega)
      refine loopE [] (k + 1) ⟨by omega, upto_succ he hs⟩ (by omega) ⟨rfl, trivial⟩ trivial (by repeat' (first | exact trivial | exact rfl | refine ⟨?_, ?_⟩)) (by kernel_rfl) trivial (by kernel_rfl)
  have e : k = x.news.length := by omega
  have hN : ∀ t ∈ x.news, NewsP x.graph.workers t := upto_mem (p := NewsP x.graph.workers) (e ▸ he)
  exact retW tbl_ok rfl rfl ⟨congrArg vb (decide_eq_true ⟨hH, hW, hK, hT, hN⟩), trivial⟩
set_option maxHeartbeats 2000000 in
theorem specClusterOk (x : GCluster) (hx : x.w ≤ 16777216) : Meets Tryz.prog 143 [.agg x.c] [.one (vb (clusterOk x))] := by
  have hg := GCluster.graph_le hx
  have hx2 := hx
  simp only [GCluster.w, wS] at hx2
  refine enterW tbl_ok false Tryz.func143 rfl (by decide) fun W => ?_
  conv => whnf
  refine callR (specGraphOk x.graph hg) rfl (go tbl_ok false ?_)
  conv => whnf
  refine ⟨fun hG => ?_, fun hG => ?_⟩ <;> conv => whnf
  · repeat (first | (refine ite_f (by first | with_reducible rfl | assumption | (simp; done) | fail) ?_; conv => whnf) | (refine ite_t (by first | with_reducible rfl | assumption | (simp; done) | fail) ?_; conv => whnf) | (refine ⟨by first | omega | (show _ ∧ _; omega) | ((repeat (first | rw [ByteArray.size_append] | rw [bsz] | rw [List.size_toArray] | rw [List.length_cons] | rw [List.length_nil])) <;> omega) | ((repeat rw [Int.toNat_natCast]) <;> first | omega | (show _ ∧ _; omega)) | (simp only [ByteArray.size_append, bsz, List.size_toArray, List.length_cons, List.length_nil]; omega) | (simp only [Int.toNat_natCast]; first | omega | (show _ ∧ _; omega)) | decide, ?_⟩; conv => whnf))
    exact retW tbl_ok rfl rfl ⟨congrArg vb (decide_eq_false fun p => by rw [show graphOk x.graph = true from decide_eq_true p.1.1] at hG; exact absurd hG (by decide)), trivial⟩
  have hG : GraphP x.graph := of_decide_eq_true (show graphOk x.graph = true by simpa using hG)
  have hn1 := hG.2.1.1
  have hn2 := hG.2.1.2
  have hnn := nn_bd hn1 hn2
  repeat' (first | (refine ite_f (by first | with_reducible rfl | assumption) ?_; conv => whnf) | (refine ite_t (by first | with_reducible rfl | assumption) ?_; conv => whnf) | (refine ⟨fun h => ?_, fun h => ?_⟩ <;> conv => whnf) | (refine ⟨by first | omega | (show _ ∧ _; omega) | ((repeat (first | rw [ByteArray.size_append] | rw [bsz] | rw [List.size_toArray] | rw [List.length_cons] | rw [List.length_nil])) <;> omega) | ((repeat rw [Int.toNat_natCast]) <;> first | omega | (show _ ∧ _; omega)) | (simp only [ByteArray.size_append, bsz, List.size_toArray, List.length_cons, List.length_nil]; omega) | (simp only [Int.toNat_natCast]; first | omega | (show _ ∧ _; omega)) | decide | (simp only [beq_iff_eq, beq_eq_false_iff_ne, bne_iff_ne, bne_eq_false_iff_eq, Bool.not_eq_true', Bool.not_eq_false', Go.Sx.within_iff, Go.Sx.within_f, decide_eq_true_eq, decide_eq_false_iff_not, ne_eq, Int.not_lt, Int.not_le, ge_iff_le, gt_iff_lt, Int.toNat_zero, Int.toNat_one, Int.toNat_natCast] at * <;> first | omega | (show _ ∧ _; omega)), ?_⟩; conv => whnf) | (refine drawI 7 rfl [0, 1, 2, 3, 4, 5, 6, 7, 8] (by kernel_rfl) (go tbl_ok false ?_); conv => whnf) | (refine drawI 13 rfl [0, 1, 2, 3, 4, 5, 6, 7, 8, 9, 10, 11, 12, 13, 14, 15, 16, 17, 18, 19, 20, 21, 22, 23, 24, 25, 26, 27, 28, 29, 30, 31, 32, 33] (by kernel_rfl) (go tbl_ok false ?_); conv => whnf) | fail)
  all_goals try (refine retW tbl_ok rfl rfl ⟨congrArg vb (decide_eq_false fun p => ?_), trivial⟩; obtain ⟨_, p1, p2, p3⟩ := p.1; clear p hG; simp only [bne_iff_ne, bne_eq_false_iff_eq, Bool.not_eq_false', ne_eq] at *; omega)
  have hH : ClusterH x := by refine ⟨hG, ?_, ?_, ?_⟩ <;> (clear hG; simp only [bne_eq_false_iff_eq, Bool.not_eq_false'] at *; omega)
  rename_i a1 a2
  clear h a1 a2
  have hu := upto_zero (fun i => WorkerP x.graph.nodes.length (x.workers.getD i default))
  refine loopW tbl_ok false [] (fun k : Nat => [(4, .c (vi k))]) (fun k => [⟨0, [.c (sGNode x.graph.nodes), .c (vi x.graph.workers), .c (vi x.graph.cap), .c (sGWorker x.workers), .c (sGLink x.links), .c (sGToken x.tokens), .c (sGNews x.news)]⟩]) (fun k => [])
    (fun k => k ≤ x.workers.length ∧ Upto (fun i => WorkerP x.graph.nodes.length (x.workers.getD i default)) k) (fun k => x.workers.length - k) 0 ⟨Nat.zero_le _, by first | rfl | assumption | simp⟩ ⟨by first | rfl | simp [nth, ren2, ren1, ren0], trivial⟩ (by repeat' (first | exact trivial | exact rfl | refine ⟨?_, ?_⟩)) trivial trivial (by kernel_rfl) (fun k hk => ?_)
  obtain ⟨hk, he⟩ := hk
  conv => whnf
  have hwl := hH.2.1
  refine ⟨fun h' => have h' := of_decide_eq_true h'; ?_, fun h' => have h' := of_decide_eq_false h'; ?_⟩ <;> conv => whnf
  · have h' : k < x.workers.length := by omega
    (repeat (refine ⟨by first | omega | (show _ ∧ _; omega) | ((repeat (first | rw [ByteArray.size_append] | rw [bsz] | rw [List.size_toArray] | rw [List.length_cons] | rw [List.length_nil])) <;> omega) | ((repeat rw [Int.toNat_natCast]) <;> first | omega | (show _ ∧ _; omega)) | (simp only [ByteArray.size_append, bsz, List.size_toArray, List.length_cons, List.length_nil]; omega) | (simp only [Int.toNat_natCast]; first | omega | (show _ ∧ _; omega)) | decide, ?_⟩; conv => whnf))
    first | (refine drawI 7 rfl [0, 1, 2, 3, 4, 5, 6, 7, 8] (by kernel_rfl) (go tbl_ok false ?_); conv => whnf) | (refine drawI 13 rfl [0, 1, 2, 3, 4, 5, 6, 7, 8, 9, 10, 11, 12, 13, 14, 15, 16, 17, 18, 19, 20, 21, 22, 23, 24, 25, 26, 27, 28, 29, 30, 31, 32, 33] (by kernel_rfl) (go tbl_ok false ?_); conv => whnf)
    (repeat (refine ⟨by first | omega | (show _ ∧ _; omega) | ((repeat (first | rw [ByteArray.size_append] | rw [bsz] | rw [List.size_toArray] | rw [List.length_cons] | rw [List.length_nil])) <;> omega) | ((repeat rw [Int.toNat_natCast]) <;> first | omega | (show _ ∧ _; omega)) | (simp only [ByteArray.size_append, bsz, List.size_toArray, List.length_cons, List.length_nil]; omega) | (simp only [Int.toNat_natCast]; first | omega | (show _ ∧ _; omega)) | decide, ?_⟩; conv => whnf))
    refine callR (specWorkerOk x.graph (x.workers.getD k default) hg (GCluster.worker_le hx h')) rfl (go tbl_ok false ?_)
    conv => whnf
    refine ⟨fun h => ?_, fun h => ?_⟩ <;> conv => whnf
    · exact retW tbl_ok rfl rfl ⟨congrArg vb (decide_eq_false fun p => by rw [show workerOk _ _ = true from decide_eq_true (p.2.1 _ (getD_mem (d := default) h'))] at h; exact absurd h (by decide)), trivial⟩
    · (repeat (refine ⟨by first | omega | (show _ ∧ _; omega) | ((repeat (first | rw [ByteArray.size_append] | rw [bsz] | rw [List.size_toArray] | rw [List.length_cons] | rw [List.length_nil])) <;> omega) | ((repeat rw [Int.toNat_natCast]) <;> first | omega | (show _ ∧ _; omega)) | (simp only [ByteArray.size_append, bsz, List.size_toArray, List.length_cons, List.length_nil]; omega) | (simp only [Int.toNat_natCast]; first | omega | (show _ ∧ _; omega)) | decide, ?_⟩; conv => whnf))
      refine loopE [] (k + 1) ⟨by omega, upto_succ he (of_decide_eq_true (show workerOk _ _ = true by simpa using h))⟩ (by omega) ⟨rfl, trivial⟩ trivial (by repeat' (first | exact trivial | exact rfl | refine ⟨?_, ?_⟩)) (by kernel_rfl) trivial (by kernel_rfl)
  have e : k = x.workers.length := by omega
  have hW : ∀ w ∈ x.workers, WorkerP x.graph.nodes.length w := upto_mem (p := fun w => WorkerP x.graph.nodes.length w) (e ▸ he)
  clear he hu
  have hu := upto_zero (LinkAt x)
  refine loopW tbl_ok false [] (fun k : Nat => [(5, .c (vi k))]) (fun k => [⟨0, [.c (sGNode x.graph.nodes), .c (vi x.graph.workers), .c (vi x.graph.cap), .c (sGWorker x.workers), .c (sGLink x.links), .c (sGToken x.tokens), .c (sGNews x.news)]⟩]) (fun k => [])
    (fun k => k ≤ x.links.length ∧ Upto (LinkAt x) k) (fun k => x.links.length - k) 0 ⟨Nat.zero_le _, by first | rfl | assumption | simp⟩ ⟨by first | rfl | simp [nth, ren2, ren1, ren0], trivial⟩ (by repeat' (first | exact trivial | exact rfl | refine ⟨?_, ?_⟩)) trivial trivial (by kernel_rfl) (fun k hk => ?_)
  obtain ⟨hk, he⟩ := hk
  conv => whnf
  refine ⟨fun h' => have h' := of_decide_eq_true h'; ?_, fun h' => have h' := of_decide_eq_false h'; ?_⟩ <;> conv => whnf
  · have h' : k < x.links.length := by omega
    have hq : (x.links.getD k default).queue.length ≤ 16777216 := GCluster.link_le hx h'
    have hd := tdiv_bd hn1 (show 0 ≤ (k : Int) by omega)
    repeat' (first | (refine ite_f (by first | with_reducible rfl | assumption) ?_; conv => whnf) | (refine ite_t (by first | with_reducible rfl | assumption) ?_; conv => whnf) | (refine ⟨fun h => ?_, fun h => ?_⟩ <;> conv => whnf) | (refine callR (specLinkOk (x.links.getD k default) (GCluster.link_le hx h')) rfl (go tbl_ok false ?_); conv => whnf) | (refine callR (specOpsOk x.graph (x.links.getD k default).queue hg hq) rfl (go tbl_ok false ?_); conv => whnf) | (refine ⟨by first | omega | (show _ ∧ _; omega) | ((repeat (first | rw [ByteArray.size_append] | rw [bsz] | rw [List.size_toArray] | rw [List.length_cons] | rw [List.length_nil])) <;> omega) | ((repeat rw [Int.toNat_natCast]) <;> first | omega | (show _ ∧ _; omega)) | (simp only [ByteArray.size_append, bsz, List.size_toArray, List.length_cons, List.length_nil]; omega) | (simp only [Int.toNat_natCast]; first | omega | (show _ ∧ _; omega)) | decide | (simp only [beq_iff_eq, beq_eq_false_iff_ne, bne_iff_ne, bne_eq_false_iff_eq, Bool.not_eq_true', Bool.not_eq_false', Go.Sx.within_iff, Go.Sx.within_f, decide_eq_true_eq, decide_eq_false_iff_not, ne_eq, Int.not_lt, Int.not_le, ge_iff_le, gt_iff_lt, Int.toNat_zero, Int.toNat_one, Int.toNat_natCast] at * <;> first | omega | (show _ ∧ _; omega)), ?_⟩; conv => whnf) | (refine drawI 7 rfl [0, 1, 2, 3, 4, 5, 6, 7, 8] (by kernel_rfl) (go tbl_ok false ?_); conv => whnf) | (refine drawI 13 rfl [0, 1, 2, 3, 4, 5, 6, 7, 8, 9, 10, 11, 12, 13, 14, 15, 16, 17, 18, 19, 20, 21, 22, 23, 24, 25, 26, 27, 28, 29, 30, 31, 32, 33] (by kernel_rfl) (go tbl_ok false ?_); conv => whnf) | fail)
    all_goals try (refine retW tbl_ok rfl rfl ⟨congrArg vb (decide_eq_false fun p => ?_), trivial⟩; obtain ⟨q1, q2, q3, q4⟩ := p.2.2.1 k h'; clear p he hu hG hW hH; simp only [Int.toNat_natCast, linkOk, opsOk] at *; first | (simp_all; done) | (simp_all; omega))
    all_goals
      have hs : LinkAt x k := by
        refine ⟨of_decide_eq_true (show linkOk _ = true by simp_all), ?_, of_decide_eq_true (show opsOk _ _ = true by simp_all), ?_⟩ <;> clear he hu hG hW hH <;> simp only [Int.toNat_natCast] at * <;> first | (simp_all; done) | (simp_all; omega)
      refine loopE [] (k + 1) ⟨by omega, upto_succ he hs⟩ (by omega) ⟨rfl, trivial⟩ trivial (by repeat' (first | exact trivial | exact rfl | refine ⟨?_, ?_⟩)) (by kernel_rfl) trivial (by kernel_rfl)
  have hK : ∀ i, i < x.links.length → LinkAt x i := fun i hi => he i (by omega)
  clear he hu
  have hu := upto_zero (fun i => TokP x.graph.workers (x.tokens.getD i default))
  refine loopW tbl_ok false [] (fun k : Nat => [(7, .c (vi k))]) (fun k => [⟨0, [.c (sGNode x.graph.nodes), .c (vi x.graph.workers), .c (vi x.graph.cap), .c (sGWorker x.workers), .c (sGLink x.links), .c (sGToken x.tokens), .c (sGNews x.news)]⟩]) (fun k => [])
    (fun k => k ≤ x.tokens.length ∧ Upto (fun i => TokP x.graph.workers (x.tokens.getD i default)) k) (fun k => x.tokens.length - k) 0 ⟨Nat.zero_le _, by first | rfl | assumption | simp⟩ ⟨by first | rfl | simp [nth, ren2, ren1, ren0], trivial⟩ (by repeat' (first | exact trivial | exact rfl | refine ⟨?_, ?_⟩)) trivial trivial (by kernel_rfl) (fun k hk => ?_)
  obtain ⟨hk, he⟩ := hk
  conv => whnf
  refine ⟨fun h' => have h' := of_decide_eq_true h'; ?_, fun h' => have h' := of_decide_eq_false h'; ?_⟩ <;> conv => whnf
  · have h' : k < x.tokens.length := by omega
    repeat' (first | (refine ite_f (by first | with_reducible rfl | assumption) ?_; conv => whnf) | (refine ite_t (by first | with_reducible rfl | assumption) ?_; conv => whnf) | (refine ⟨fun h => ?_, fun h => ?_⟩ <;> conv => whnf) | (refine callR (specIn _ _ _) rfl (go tbl_ok false ?_); conv => whnf) | (refine ⟨by first | omega | (show _ ∧ _; omega) | ((repeat (first | rw [ByteArray.size_append] | rw [bsz] | rw [List.size_toArray] | rw [List.length_cons] | rw [List.length_nil])) <;> omega) | ((repeat rw [Int.toNat_natCast]) <;> first | omega | (show _ ∧ _; omega)) | (simp only [ByteArray.size_append, bsz, List.size_toArray, List.length_cons, List.length_nil]; omega) | (simp only [Int.toNat_natCast]; first | omega | (show _ ∧ _; omega)) | decide | (simp only [beq_iff_eq, beq_eq_false_iff_ne, bne_iff_ne, bne_eq_false_iff_eq, Bool.not_eq_true', Bool.not_eq_false', Go.Sx.within_iff, Go.Sx.within_f, decide_eq_true_eq, decide_eq_false_iff_not, ne_eq, Int.not_lt, Int.not_le, ge_iff_le, gt_iff_lt, Int.toNat_zero, Int.toNat_one, Int.toNat_natCast] at * <;> first | omega | (show _ ∧ _; omega)), ?_⟩; conv => whnf) | (refine drawI 7 rfl [0, 1, 2, 3, 4, 5, 6, 7, 8] (by kernel_rfl) (go tbl_ok false ?_); conv => whnf) | (refine drawI 13 rfl [0, 1, 2, 3, 4, 5, 6, 7, 8, 9, 10, 11, 12, 13, 14, 15, 16, 17, 18, 19, 20, 21, 22, 23, 24, 25, 26, 27, 28, 29, 30, 31, 32, 33] (by kernel_rfl) (go tbl_ok false ?_); conv => whnf) | fail)
    all_goals try (refine retW tbl_ok rfl rfl ⟨congrArg vb (decide_eq_false fun p => ?_), trivial⟩; obtain ⟨q1, q2, q3⟩ := p.2.2.2.1 _ (getD_mem (d := default) h'); clear p he hu hG hW hH hK; simp only [Int.toNat_natCast] at *; first | (simp only [bne_iff_ne, bne_eq_false_iff_eq, Bool.not_eq_true', Bool.not_eq_false', Go.Sx.within_iff, Go.Sx.within_f, decide_eq_true_eq, decide_eq_false_iff_not, ne_eq, Int.not_lt] at *; omega) | (simp only [bne_iff_ne, Bool.not_eq_true', Bool.not_eq_false', Go.Sx.within_iff, decide_eq_true_eq, decide_eq_false_iff_not, ne_eq, Int.not_lt] at *; simp_all; done) | (simp_all; done))
    all_goals
      have hs : TokP x.graph.workers (x.tokens.getD k default) := by
        refine ⟨?_, ?_, ?_⟩ <;> clear he hu hG hW hH hK <;> simp only [Int.toNat_natCast] at * <;> first | (simp only [bne_eq_false_iff_eq, Bool.not_eq_true', Bool.not_eq_false', Go.Sx.within_iff, decide_eq_true_eq, decide_eq_false_iff_not, Int.not_lt] at *; omega) | (simp only [Bool.not_eq_false', Go.Sx.within_iff, decide_eq_true_eq, decide_eq_false_iff_not, Int.not_lt] at *; simp_all; done) | (simp_all; done)
      refine loopE [] (k + 1) ⟨by omega, upto_succ he hs⟩ (by omega) ⟨rfl, trivial⟩ trivial (by repeat' (first | exact trivial | exact rfl | refine ⟨?_, ?_⟩)) (by kernel_rfl) trivial (by kernel_rfl)
  have e : k = x.tokens.length := by omega
  have hT : ∀ t ∈ x.tokens, TokP x.graph.workers t := upto_mem (p := TokP x.graph.workers) (e ▸ he)
  clear he hu
  have hu := upto_zero (fun i => NewsP x.graph.workers (x.news.getD i default))
  refine loopW tbl_ok false [] (fun k : Nat => [(8, .c (vi k))]) (fun k => [⟨0, [.c (sGNode x.graph.nodes), .c (vi x.graph.workers), .c (vi x.graph.cap), .c (sGWorker x.workers), .c (sGLink x.links), .c (sGToken x.tokens), .c (sGNews x.news)]⟩]) (fun k => [])
    (fun k => k ≤ x.news.length ∧ Upto (fun i => NewsP x.graph.workers (x.news.getD i default)) k) (fun k => x.news.length - k) 0 ⟨Nat.zero_le _, by first | rfl | assumption | simp⟩ ⟨by first | rfl | simp [nth, ren2, ren1, ren0], trivial⟩ (by repeat' (first | exact trivial | exact rfl | refine ⟨?_, ?_⟩)) trivial trivial (by kernel_rfl) (fun k hk => ?_)
  obtain ⟨hk, he⟩ := hk
  conv => whnf
  refine ⟨fun h' => have h' := of_decide_eq_true h'; ?_, fun h' => have h' := of_decide_eq_false h'; ?_⟩ <;> conv => whnf
  · have h' : k < x.news.length := by omega
    repeat' (first | (refine ite_f (by first | with_reducible rfl | assumption) ?_; conv => whnf) | (refine ite_t (by first | with_reducible rfl | assumption) ?_; conv => whnf) | (refine ⟨fun h => ?_, fun h => ?_⟩ <;> conv => whnf) | (refine callR (specIn _ _ _) rfl (go tbl_ok false ?_); conv => whnf) | (refine ⟨by first | omega | (show _ ∧ _; omega) | ((repeat (first | rw [ByteArray.size_append] | rw [bsz] | rw [List.size_toArray] | rw [List.length_cons] | rw [List.length_nil])) <;> omega) | ((repeat rw [Int.toNat_natCast]) <;> first | omega | (show _ ∧ _; omega)) | (simp only [ByteArray.size_append, bsz, List.size_toArray, List.length_cons, List.length_nil]; omega) | (simp only [Int.toNat_natCast]; first | omega | (show _ ∧ _; omega)) | decide | (simp only [beq_iff_eq, beq_eq_false_iff_ne, bne_iff_ne, bne_eq_false_iff_eq, Bool.not_eq_true', Bool.not_eq_false', Go.Sx.within_iff, Go.Sx.within_f, decide_eq_true_eq, decide_eq_false_iff_not, ne_eq, Int.not_lt, Int.not_le, ge_iff_le, gt_iff_lt, Int.toNat_zero, Int.toNat_one, Int.toNat_natCast] at * <;> first | omega | (show _ ∧ _; omega)), ?_⟩; conv => whnf) | (refine drawI 7 rfl [0, 1, 2, 3, 4, 5, 6, 7, 8] (by kernel_rfl) (go tbl_ok false ?_); conv => whnf) | (refine drawI 13 rfl [0, 1, 2, 3, 4, 5, 6, 7, 8, 9, 10, 11, 12, 13, 14, 15, 16, 17, 18, 19, 20, 21, 22, 23, 24, 25, 26, 27, 28, 29, 30, 31, 32, 33] (by kernel_rfl) (go tbl_ok false ?_); conv => whnf) | fail)
    all_goals try (refine retW tbl_ok rfl rfl ⟨congrArg vb (decide_eq_false fun p => ?_), trivial⟩; obtain ⟨q1, q2⟩ := p.2.2.2.2 _ (getD_mem (d := default) h'); clear p he hu hG hW hH hK hT; simp only [Bool.not_eq_true', Bool.not_eq_false', Go.Sx.within_iff, Go.Sx.within_f, decide_eq_true_eq, decide_eq_false_iff_not, Int.not_lt, Int.toNat_natCast] at *; omega)
    all_goals
      have hs : NewsP x.graph.workers (x.news.getD k default) := by
        refine ⟨?_, ?_⟩ <;> clear he hu hG hW hH hK hT <;> (simp only [Bool.not_eq_false', Go.Sx.within_iff, decide_eq_true_eq, decide_eq_false_iff_not, Int.not_lt, Int.toNat_natCast] at *; omega)
      refine loopE [] (k + 1) ⟨by omega, upto_succ he hs⟩ (by omega) ⟨rfl, trivial⟩ trivial (by repeat' (first | exact trivial | exact rfl | refine ⟨?_, ?_⟩)) (by kernel_rfl) trivial (by kernel_rfl)
  have e : k = x.news.length := by omega
  have hN : ∀ t ∈ x.news, NewsP x.graph.workers t := upto_mem (p := NewsP x.graph.workers) (e ▸ he)
  exact retW tbl_ok rfl rfl ⟨congrArg vb (decide_eq_true ⟨hH, hW, hK, hT, hN⟩), trivial⟩

end Go.Proofs.YtlbmkgkmbjadcaaGreat
