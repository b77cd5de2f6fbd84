/- Texts for the law FnExactCellsSpread: WOver. No conditions. -/
import Derived.Test.YtifdjnpnhgdcgaaWPass

set_option maxRecDepth 100000
namespace Go.Proofs.Ytifdjnpnhgdcgaa
open Go.Sx
theorem specIn (n lo hi : Int) : Meets Try.prog 97 [.one (vi n), .one (vi lo), .one (vi hi)] [.one (vb (within n lo hi))] := by
  refine enterW tbl_ok false Try.func97 rfl (by decide) fun W => ?_
  conv => whnf
  repeat' (first | (refine ite_f (by first | with_reducible rfl | assumption) ?_; conv => whnf) | (refine ite_t (by first | with_reducible rfl | assumption) ?_; conv => whnf) | (refine ⟨fun h => ?_, fun h => ?_⟩ <;> conv => whnf) | (refine retW tbl_ok rfl rfl ⟨?_, trivial⟩; conv => whnf) | (refine ⟨by first | omega | (show _ ∧ _; omega) | (simp only [Int.toNat_natCast]; first | omega | (show _ ∧ _; omega)) | decide, ?_⟩; conv => whnf) | fail)
  all_goals (refine congrArg vb ?_; simp_all [within] <;> omega)
theorem implIn (n lo hi : Int) : Meets Try.prog 99 [.one (vi n), .one (vi lo), .one (vi hi)] [.one (vb (within n lo hi))] := by
  refine enterW tbl_ok false Try.func99 rfl (by decide) fun W => ?_
  conv => whnf
  repeat' (first | (refine ite_f (by first | with_reducible rfl | assumption) ?_; conv => whnf) | (refine ite_t (by first | with_reducible rfl | assumption) ?_; conv => whnf) | (refine ⟨fun h => ?_, fun h => ?_⟩ <;> conv => whnf) | (refine retW tbl_ok rfl rfl ⟨?_, trivial⟩; conv => whnf) | (refine ⟨by first | omega | (show _ ∧ _; omega) | (simp only [Int.toNat_natCast]; first | omega | (show _ ∧ _; omega)) | decide, ?_⟩; conv => whnf) | fail)
  all_goals (refine congrArg vb ?_; simp_all [within] <;> omega)

theorem specRoundsDone (x : GCluster) (e : Int) (h : x.w ≤ 1048576) : Meets Try.prog 98 [.agg x.c, .one (vi e)] [.one (vb (roundsDone x e))] := by
  have hl := GCluster.workers_le h
  refine enterW tbl_ok false Try.func98 rfl (by decide) fun W => ?_
  conv => whnf
  refine ⟨fun h0 => have h0 := of_decide_eq_true h0; ?_, fun h0 => have h0 := of_decide_eq_false h0; ?_⟩ <;> conv => whnf
  · have hw := GCluster.worker_le h (show 0 < x.workers.length by omega)
    repeat' (first | (refine ite_f (by first | with_reducible rfl | assumption) ?_; conv => whnf) | (refine ite_t (by first | with_reducible rfl | assumption) ?_; conv => whnf) | (refine ⟨fun h => ?_, fun h => ?_⟩ <;> conv => whnf) | (refine ⟨by first | omega | (show _ ∧ _; omega) | (simp only [Int.toNat_natCast]; first | omega | (show _ ∧ _; omega)) | decide, ?_⟩; conv => whnf) | fail)
    refine callR (specIsDone (x.workers.getD 0 default) e (by omega)) rfl (go tbl_ok false ?_)
    conv => whnf
    repeat' (first | (refine ite_f (by first | with_reducible rfl | assumption) ?_; conv => whnf) | (refine ite_t (by first | with_reducible rfl | assumption) ?_; conv => whnf) | (refine ⟨fun h => ?_, fun h => ?_⟩ <;> conv => whnf) | (refine ⟨by first | omega | (show _ ∧ _; omega) | (simp only [Int.toNat_natCast]; first | omega | (show _ ∧ _; omega)) | decide, ?_⟩; conv => whnf) | fail)
    exact retW tbl_ok rfl rfl ⟨congrArg vb (by rw [roundsDone, if_pos (by omega)]), trivial⟩
  · repeat' (first | (refine ite_f (by first | with_reducible rfl | assumption) ?_; conv => whnf) | (refine ite_t (by first | with_reducible rfl | assumption) ?_; conv => whnf) | (refine ⟨fun h => ?_, fun h => ?_⟩ <;> conv => whnf) | (refine ⟨by first | omega | (show _ ∧ _; omega) | (simp only [Int.toNat_natCast]; first | omega | (show _ ∧ _; omega)) | decide, ?_⟩; conv => whnf) | fail)
    exact retW tbl_ok rfl rfl ⟨congrArg vb (by rw [roundsDone, if_neg (by omega)]), trivial⟩
theorem implRoundsDone (x : GCluster) (e : Int) (h : x.w ≤ 1048576) : Meets Try.prog 100 [.agg x.c, .one (vi e)] [.one (vb (roundsDone x e))] := by
  have hl := GCluster.workers_le h
  refine enterW tbl_ok false Try.func100 rfl (by decide) fun W => ?_
  conv => whnf
  refine ⟨fun h0 => have h0 := of_decide_eq_true h0; ?_, fun h0 => have h0 := of_decide_eq_false h0; ?_⟩ <;> conv => whnf
  · have hw := GCluster.worker_le h (show 0 < x.workers.length by omega)
    repeat' (first | (refine ite_f (by first | with_reducible rfl | assumption) ?_; conv => whnf) | (refine ite_t (by first | with_reducible rfl | assumption) ?_; conv => whnf) | (refine ⟨fun h => ?_, fun h => ?_⟩ <;> conv => whnf) | (refine ⟨by first | omega | (show _ ∧ _; omega) | (simp only [Int.toNat_natCast]; first | omega | (show _ ∧ _; omega)) | decide, ?_⟩; conv => whnf) | fail)
    refine callR (implIsDone (x.workers.getD 0 default) e (by omega)) rfl (go tbl_ok false ?_)
    conv => whnf
    repeat' (first | (refine ite_f (by first | with_reducible rfl | assumption) ?_; conv => whnf) | (refine ite_t (by first | with_reducible rfl | assumption) ?_; conv => whnf) | (refine ⟨fun h => ?_, fun h => ?_⟩ <;> conv => whnf) | (refine ⟨by first | omega | (show _ ∧ _; omega) | (simp only [Int.toNat_natCast]; first | omega | (show _ ∧ _; omega)) | decide, ?_⟩; conv => whnf) | fail)
    exact retW tbl_ok rfl rfl ⟨congrArg vb (by rw [roundsDone, if_pos (by omega)]), trivial⟩
  · repeat' (first | (refine ite_f (by first | with_reducible rfl | assumption) ?_; conv => whnf) | (refine ite_t (by first | with_reducible rfl | assumption) ?_; conv => whnf) | (refine ⟨fun h => ?_, fun h => ?_⟩ <;> conv => whnf) | (refine ⟨by first | omega | (show _ ∧ _; omega) | (simp only [Int.toNat_natCast]; first | omega | (show _ ∧ _; omega)) | decide, ?_⟩; conv => whnf) | fail)
    exact retW tbl_ok rfl rfl ⟨congrArg vb (by rw [roundsDone, if_neg (by omega)]), trivial⟩

theorem specAllPassive (x : GCluster) (e : Int) (h : x.w ≤ 1048576) : Meets Try.prog 50 [.agg x.c, .one (vi e)] [.one (vb (allPassive x e))] := by
  have hl := GCluster.workers_le h
  refine enterW tbl_ok false Try.func50 rfl (by decide) fun W => ?_
  conv => whnf
  refine loopW tbl_ok false [] (fun k : Nat => [(5, .c (vi k))]) (fun k => [⟨0, [.c (sGNode x.graph.nodes), .c (vi x.graph.workers), .c (vi x.graph.cap), .c (sGWorker x.workers), .c (sGLink x.links), .c (sGToken x.tokens), .c (sGNews x.news)]⟩]) (fun k => [])
    (fun k => k ≤ x.workers.length ∧ (x.workers.take k).all (fun w => passiveAt w e) = true) (fun k => x.workers.length - k) 0 ⟨Nat.zero_le _, by first | rfl | simp⟩ ⟨by first | rfl | simp [nth, ren2, ren1, ren0], trivial⟩ (by repeat' (first | exact trivial | exact rfl | refine ⟨?_, ?_⟩)) trivial trivial (by kernel_rfl) (fun k hk => ?_)
  obtain ⟨hk, he⟩ := hk
  conv => whnf
  refine ⟨fun h' => have h' := of_decide_eq_true h'; ?_, fun h' => have h' := of_decide_eq_false h'; ?_⟩ <;> conv => whnf
  · have h' : k < x.workers.length := by omega
    have hw := GCluster.worker_le h h'
    (repeat (refine ⟨by first | omega | (show _ ∧ _; omega) | (simp only [Int.toNat_natCast]; first | omega | (show _ ∧ _; omega)) | decide, ?_⟩; conv => whnf))
    refine callR (specPassiveAt (x.workers.getD k default) e (by omega)) rfl (go tbl_ok false ?_)
    conv => whnf
    refine ⟨fun hc => ?_, fun hc => ?_⟩ <;> conv => whnf
    · exact retW tbl_ok rfl rfl ⟨congrArg vb (all_of_getD h' (by simpa using hc)), trivial⟩
    · (repeat (refine ⟨by first | omega | (show _ ∧ _; omega) | (simp only [Int.toNat_natCast]; first | omega | (show _ ∧ _; omega)) | decide, ?_⟩; conv => whnf))
      refine loopE [] (k + 1) ⟨by omega, all_take_true he h' (by simpa using hc)⟩ (by omega) ⟨rfl, trivial⟩ trivial (by repeat' (first | exact trivial | exact rfl | refine ⟨?_, ?_⟩)) (by kernel_rfl) trivial (by kernel_rfl)
  · exact retW tbl_ok rfl rfl ⟨congrArg vb (by rw [take_all x.workers k (by omega)] at he; exact he), trivial⟩

theorem implAllPassive (x : GCluster) (e : Int) (h : x.w ≤ 1048576) : Meets Try.prog 51 [.agg x.c, .one (vi e)] [.one (vb (allPassive x e))] := by
  have hl := GCluster.workers_le h
  refine enterW tbl_ok false Try.func51 rfl (by decide) fun W => ?_
  conv => whnf
  refine loopW tbl_ok false [] (fun k : Nat => [(10, .c (vi k))]) (fun k => [⟨0, [.c (sGNode x.graph.nodes), .c (vi x.graph.workers), .c (vi x.graph.cap), .c (sGWorker x.workers), .c (sGLink x.links), .c (sGToken x.tokens), .c (sGNews x.news)]⟩]) (fun k => [])
    (fun k => k ≤ x.workers.length ∧ (x.workers.take k).all (fun w => passiveAt w e) = true) (fun k => x.workers.length - k) 0 ⟨Nat.zero_le _, by first | rfl | simp⟩ ⟨by first | rfl | simp [nth, ren2, ren1, ren0], trivial⟩ (by repeat' (first | exact trivial | exact rfl | refine ⟨?_, ?_⟩)) trivial trivial (by kernel_rfl) (fun k hk => ?_)
  obtain ⟨hk, he⟩ := hk
  conv => whnf
  refine ⟨fun h' => have h' := of_decide_eq_true h'; ?_, fun h' => have h' := of_decide_eq_false h'; ?_⟩ <;> conv => whnf
  · have h' : k < x.workers.length := by omega
    have hw := GCluster.worker_le h h'
    (repeat (refine ⟨by first | omega | (show _ ∧ _; omega) | (simp only [Int.toNat_natCast]; first | omega | (show _ ∧ _; omega)) | decide, ?_⟩; conv => whnf))
    refine callR (implPassiveAt (x.workers.getD k default) e (by omega)) rfl (go tbl_ok false ?_)
    conv => whnf
    refine ⟨fun hc => ?_, fun hc => ?_⟩ <;> conv => whnf
    · exact retW tbl_ok rfl rfl ⟨congrArg vb (all_of_getD h' (by simpa using hc)), trivial⟩
    · (repeat (refine ⟨by first | omega | (show _ ∧ _; omega) | (simp only [Int.toNat_natCast]; first | omega | (show _ ∧ _; omega)) | decide, ?_⟩; conv => whnf))
      refine loopE [] (k + 1) ⟨by omega, all_take_true he h' (by simpa using hc)⟩ (by omega) ⟨rfl, trivial⟩ trivial (by repeat' (first | exact trivial | exact rfl | refine ⟨?_, ?_⟩)) (by kernel_rfl) trivial (by kernel_rfl)
  · exact retW tbl_ok rfl rfl ⟨congrArg vb (by rw [take_all x.workers k (by omega)] at he; exact he), trivial⟩

theorem specOverAt (x : GCluster) (e : Int) (h : x.w ≤ 1048576) : Meets Try.prog 52 [.agg x.c, .one (vi e)] [.one (vb (overAt x e))] := by
  have hl := GCluster.links_le h
  refine enterW tbl_ok false Try.func52 rfl (by decide) fun W => ?_
  conv => whnf
  refine loopW tbl_ok false [] (fun k : Nat => [(5, .c (vi k))]) (fun k => [⟨0, [.c (sGNode x.graph.nodes), .c (vi x.graph.workers), .c (vi x.graph.cap), .c (sGWorker x.workers), .c (sGLink x.links), .c (sGToken x.tokens), .c (sGNews x.news)]⟩]) (fun k => [])
    (fun k => k ≤ x.links.length ∧ (x.links.take k).any (fun l => decide (((ofEpoch l.queue e).length : Int) > 0)) = false) (fun k => x.links.length - k) 0 ⟨Nat.zero_le _, by first | rfl | simp⟩ ⟨by first | rfl | simp [nth, ren2, ren1, ren0], trivial⟩ (by repeat' (first | exact trivial | exact rfl | refine ⟨?_, ?_⟩)) trivial trivial (by kernel_rfl) (fun k hk => ?_)
  obtain ⟨hk, he⟩ := hk
  conv => whnf
  refine ⟨fun h' => have h' := of_decide_eq_true h'; ?_, fun h' => have h' := of_decide_eq_false h'; ?_⟩ <;> conv => whnf
  · have h' : k < x.links.length := by omega
    have hw := GCluster.link_le h h'
    (repeat (refine ⟨by first | omega | (show _ ∧ _; omega) | (simp only [Int.toNat_natCast]; first | omega | (show _ ∧ _; omega)) | decide, ?_⟩; conv => whnf))
    refine callR (specInFlight (x.links.getD k default) e (by omega)) rfl (go tbl_ok false ?_)
    conv => whnf
    refine ⟨fun hc => ?_, fun hc => ?_⟩ <;> conv => whnf
    · exact retW tbl_ok rfl rfl ⟨congrArg vb (by rw [overAt, if_pos (any_of_getD h' hc)]), trivial⟩
    · (repeat (refine ⟨by first | omega | (show _ ∧ _; omega) | (simp only [Int.toNat_natCast]; first | omega | (show _ ∧ _; omega)) | decide, ?_⟩; conv => whnf))
      refine loopE [] (k + 1) ⟨by omega, any_take_false he h' hc⟩ (by omega) ⟨rfl, trivial⟩ trivial (by repeat' (first | exact trivial | exact rfl | refine ⟨?_, ?_⟩)) (by kernel_rfl) trivial (by kernel_rfl)
  · (repeat (refine ⟨by first | omega | (show _ ∧ _; omega) | (simp only [Int.toNat_natCast]; first | omega | (show _ ∧ _; omega)) | decide, ?_⟩; conv => whnf))
    refine callR (specAllPassive x e h) rfl (go tbl_ok false ?_)
    conv => whnf
    exact retW tbl_ok rfl rfl ⟨congrArg vb (by rw [take_all x.links k (by omega)] at he; rw [overAt, if_neg (by rw [he]; decide)]), trivial⟩

theorem implOverAt (x : GCluster) (e : Int) (h : x.w ≤ 1048576) : Meets Try.prog 53 [.agg x.c, .one (vi e)] [.one (vb (overAt x e))] := by
  have hl := GCluster.links_le h
  refine enterW tbl_ok false Try.func53 rfl (by decide) fun W => ?_
  conv => whnf
  refine loopW tbl_ok false [] (fun k : Nat => [(10, .c (vi k))]) (fun k => [⟨0, [.c (sGNode x.graph.nodes), .c (vi x.graph.workers), .c (vi x.graph.cap), .c (sGWorker x.workers), .c (sGLink x.links), .c (sGToken x.tokens), .c (sGNews x.news)]⟩]) (fun k => [])
    (fun k => k ≤ x.links.length ∧ (x.links.take k).any (fun l => decide (((ofEpoch l.queue e).length : Int) > 0)) = false) (fun k => x.links.length - k) 0 ⟨Nat.zero_le _, by first | rfl | simp⟩ ⟨by first | rfl | simp [nth, ren2, ren1, ren0], trivial⟩ (by repeat' (first | exact trivial | exact rfl | refine ⟨?_, ?_⟩)) trivial trivial (by kernel_rfl) (fun k hk => ?_)
  obtain ⟨hk, he⟩ := hk
  conv => whnf
  refine ⟨fun h' => have h' := of_decide_eq_true h'; ?_, fun h' => have h' := of_decide_eq_false h'; ?_⟩ <;> conv => whnf
  · have h' : k < x.links.length := by omega
    have hw := GCluster.link_le h h'
    (repeat (refine ⟨by first | omega | (show _ ∧ _; omega) | (simp only [Int.toNat_natCast]; first | omega | (show _ ∧ _; omega)) | decide, ?_⟩; conv => whnf))
    refine callR (implInFlight (x.links.getD k default) e (by omega)) rfl (go tbl_ok false ?_)
    conv => whnf
    refine ⟨fun hc => ?_, fun hc => ?_⟩ <;> conv => whnf
    · exact retW tbl_ok rfl rfl ⟨congrArg vb (by rw [overAt, if_pos (any_of_getD h' hc)]), trivial⟩
    · (repeat (refine ⟨by first | omega | (show _ ∧ _; omega) | (simp only [Int.toNat_natCast]; first | omega | (show _ ∧ _; omega)) | decide, ?_⟩; conv => whnf))
      refine loopE [] (k + 1) ⟨by omega, any_take_false he h' hc⟩ (by omega) ⟨rfl, trivial⟩ trivial (by repeat' (first | exact trivial | exact rfl | refine ⟨?_, ?_⟩)) (by kernel_rfl) trivial (by kernel_rfl)
  · (repeat (refine ⟨by first | omega | (show _ ∧ _; omega) | (simp only [Int.toNat_natCast]; first | omega | (show _ ∧ _; omega)) | decide, ?_⟩; conv => whnf))
    refine callR (implAllPassive x e h) rfl (go tbl_ok false ?_)
    conv => whnf
    exact retW tbl_ok rfl rfl ⟨congrArg vb (by rw [take_all x.links k (by omega)] at he; rw [overAt, if_neg (by rw [he]; decide)]), trivial⟩

theorem specWaitsFor (x : GCluster) (e : Int) (hx : x.w ≤ 1048576) : Meets Try.prog 54 [.agg x.c, .one (vi e)] [.one (vi (waitsFor x e))] := by
  have hl := GCluster.workers_le hx
  have hl' := GCluster.tokens_le hx
  refine enterW tbl_ok false Try.func54 rfl (by decide) fun W => ?_
  conv => whnf
  (repeat (refine ⟨by first | omega | (show _ ∧ _; omega) | (simp only [Int.toNat_natCast]; first | omega | (show _ ∧ _; omega)) | decide, ?_⟩; conv => whnf))
  refine callR (specIn e 0 (x.tokens.length - 1)) rfl (go tbl_ok false ?_)
  conv => whnf
  by_cases h1 : within e 0 (x.tokens.length - 1) = true
  · have h2 := Go.Sx.within_iff.1 h1
    refine ⟨fun h => ?_, fun h => ?_⟩ <;> conv => whnf
    · rw [h1] at h; cases h
    repeat' (first | (refine ite_f (by first | with_reducible rfl | assumption) ?_; conv => whnf) | (refine ite_t (by first | with_reducible rfl | assumption) ?_; conv => whnf) | (refine ⟨fun h => ?_, fun h => ?_⟩ <;> conv => whnf) | (refine ⟨by first | omega | (show _ ∧ _; omega) | (simp only [Int.toNat_natCast]; first | omega | (show _ ∧ _; omega)) | decide, ?_⟩; conv => whnf) | fail)
    refine callR (specRoundsDone x e hx) rfl (go tbl_ok false ?_)
    conv => whnf
    repeat' (first | (refine ite_f (by first | with_reducible rfl | assumption) ?_; conv => whnf) | (refine ite_t (by first | with_reducible rfl | assumption) ?_; conv => whnf) | (refine ⟨fun h => ?_, fun h => ?_⟩ <;> conv => whnf) | (refine ⟨by first | omega | (show _ ∧ _; omega) | (simp only [Int.toNat_natCast]; first | omega | (show _ ∧ _; omega)) | decide, ?_⟩; conv => whnf) | fail)
    · exact retW tbl_ok rfl rfl ⟨congrArg vi (by simp_all [waitsFor]), trivial⟩
    · refine callR (specIn (x.tokens.getD e.toNat default).at_ 0 (x.workers.length - 1)) rfl (go tbl_ok false ?_)
      conv => whnf
      by_cases h3 : within (x.tokens.getD e.toNat default).at_ 0 (x.workers.length - 1) = true
      · have h4 := Go.Sx.within_iff.1 h3
        have hw := GCluster.worker_le hx (show (x.tokens.getD e.toNat default).at_.toNat < x.workers.length by omega)
        refine ⟨fun h => ?_, fun h => ?_⟩ <;> conv => whnf
        · rw [h3] at h; cases h
        repeat' (first | (refine ite_f (by first | with_reducible rfl | assumption) ?_; conv => whnf) | (refine ite_t (by first | with_reducible rfl | assumption) ?_; conv => whnf) | (refine ⟨fun h => ?_, fun h => ?_⟩ <;> conv => whnf) | (refine ⟨by first | omega | (show _ ∧ _; omega) | (simp only [Int.toNat_natCast]; first | omega | (show _ ∧ _; omega)) | decide, ?_⟩; conv => whnf) | fail)
        refine callR (specPassiveAt (x.workers.getD (x.tokens.getD e.toNat default).at_.toNat default) e (by omega)) rfl (go tbl_ok false ?_)
        conv => whnf
        repeat' (first | (refine ite_f (by first | with_reducible rfl | assumption) ?_; conv => whnf) | (refine ite_t (by first | with_reducible rfl | assumption) ?_; conv => whnf) | (refine ⟨fun h => ?_, fun h => ?_⟩ <;> conv => whnf) | (refine ⟨by first | omega | (show _ ∧ _; omega) | (simp only [Int.toNat_natCast]; first | omega | (show _ ∧ _; omega)) | decide, ?_⟩; conv => whnf) | fail)
        · exact retW tbl_ok rfl rfl ⟨congrArg vi (by simp_all [waitsFor]), trivial⟩
        · exact retW tbl_ok rfl rfl ⟨congrArg vi (by simp_all [waitsFor]), trivial⟩
      · refine ⟨fun h => ?_, fun h => ?_⟩ <;> conv => whnf
        · repeat' (first | (refine ite_f (by first | with_reducible rfl | assumption) ?_; conv => whnf) | (refine ite_t (by first | with_reducible rfl | assumption) ?_; conv => whnf) | (refine ⟨fun h => ?_, fun h => ?_⟩ <;> conv => whnf) | (refine ⟨by first | omega | (show _ ∧ _; omega) | (simp only [Int.toNat_natCast]; first | omega | (show _ ∧ _; omega)) | decide, ?_⟩; conv => whnf) | fail)
          exact retW tbl_ok rfl rfl ⟨congrArg vi (by simp_all [waitsFor]), trivial⟩
        · rw [Bool.not_eq_true] at h3; rw [h3] at h; cases h
  · refine ⟨fun h => ?_, fun h => ?_⟩ <;> conv => whnf
    · repeat' (first | (refine ite_f (by first | with_reducible rfl | assumption) ?_; conv => whnf) | (refine ite_t (by first | with_reducible rfl | assumption) ?_; conv => whnf) | (refine ⟨fun h => ?_, fun h => ?_⟩ <;> conv => whnf) | (refine ⟨by first | omega | (show _ ∧ _; omega) | (simp only [Int.toNat_natCast]; first | omega | (show _ ∧ _; omega)) | decide, ?_⟩; conv => whnf) | fail)
      exact retW tbl_ok rfl rfl ⟨congrArg vi (by simp_all [waitsFor]), trivial⟩
    · rw [Bool.not_eq_true] at h1; rw [h1] at h; cases h

theorem implWaitsFor (x : GCluster) (e : Int) (hx : x.w ≤ 1048576) : Meets Try.prog 55 [.agg x.c, .one (vi e)] [.one (vi (waitsFor x e))] := by
  have hl := GCluster.workers_le hx
  have hl' := GCluster.tokens_le hx
  refine enterW tbl_ok false Try.func55 rfl (by decide) fun W => ?_
  conv => whnf
  (repeat (refine ⟨by first | omega | (show _ ∧ _; omega) | (simp only [Int.toNat_natCast]; first | omega | (show _ ∧ _; omega)) | decide, ?_⟩; conv => whnf))
  refine callR (implIn e 0 (x.tokens.length - 1)) rfl (go tbl_ok false ?_)
  conv => whnf
  by_cases h1 : within e 0 (x.tokens.length - 1) = true
  · have h2 := Go.Sx.within_iff.1 h1
    refine ⟨fun h => ?_, fun h => ?_⟩ <;> conv => whnf
    · rw [h1] at h; cases h
    repeat' (first | (refine ite_f (by first | with_reducible rfl | assumption) ?_; conv => whnf) | (refine ite_t (by first | with_reducible rfl | assumption) ?_; conv => whnf) | (refine ⟨fun h => ?_, fun h => ?_⟩ <;> conv => whnf) | (refine ⟨by first | omega | (show _ ∧ _; omega) | (simp only [Int.toNat_natCast]; first | omega | (show _ ∧ _; omega)) | decide, ?_⟩; conv => whnf) | fail)
    refine callR (implRoundsDone x e hx) rfl (go tbl_ok false ?_)
    conv => whnf
    repeat' (first | (refine ite_f (by first | with_reducible rfl | assumption) ?_; conv => whnf) | (refine ite_t (by first | with_reducible rfl | assumption) ?_; conv => whnf) | (refine ⟨fun h => ?_, fun h => ?_⟩ <;> conv => whnf) | (refine ⟨by first | omega | (show _ ∧ _; omega) | (simp only [Int.toNat_natCast]; first | omega | (show _ ∧ _; omega)) | decide, ?_⟩; conv => whnf) | fail)
    · exact retW tbl_ok rfl rfl ⟨congrArg vi (by simp_all [waitsFor]), trivial⟩
    · refine callR (implIn (x.tokens.getD e.toNat default).at_ 0 (x.workers.length - 1)) rfl (go tbl_ok false ?_)
      conv => whnf
      by_cases h3 : within (x.tokens.getD e.toNat default).at_ 0 (x.workers.length - 1) = true
      · have h4 := Go.Sx.within_iff.1 h3
        have hw := GCluster.worker_le hx (show (x.tokens.getD e.toNat default).at_.toNat < x.workers.length by omega)
        refine ⟨fun h => ?_, fun h => ?_⟩ <;> conv => whnf
        · rw [h3] at h; cases h
        repeat' (first | (refine ite_f (by first | with_reducible rfl | assumption) ?_; conv => whnf) | (refine ite_t (by first | with_reducible rfl | assumption) ?_; conv => whnf) | (refine ⟨fun h => ?_, fun h => ?_⟩ <;> conv => whnf) | (refine ⟨by first | omega | (show _ ∧ _; omega) | (simp only [Int.toNat_natCast]; first | omega | (show _ ∧ _; omega)) | decide, ?_⟩; conv => whnf) | fail)
        refine callR (implPassiveAt (x.workers.getD (x.tokens.getD e.toNat default).at_.toNat default) e (by omega)) rfl (go tbl_ok false ?_)
        conv => whnf
        repeat' (first | (refine ite_f (by first | with_reducible rfl | assumption) ?_; conv => whnf) | (refine ite_t (by first | with_reducible rfl | assumption) ?_; conv => whnf) | (refine ⟨fun h => ?_, fun h => ?_⟩ <;> conv => whnf) | (refine ⟨by first | omega | (show _ ∧ _; omega) | (simp only [Int.toNat_natCast]; first | omega | (show _ ∧ _; omega)) | decide, ?_⟩; conv => whnf) | fail)
        · exact retW tbl_ok rfl rfl ⟨congrArg vi (by simp_all [waitsFor]), trivial⟩
        · exact retW tbl_ok rfl rfl ⟨congrArg vi (by simp_all [waitsFor]), trivial⟩
      · refine ⟨fun h => ?_, fun h => ?_⟩ <;> conv => whnf
        · repeat' (first | (refine ite_f (by first | with_reducible rfl | assumption) ?_; conv => whnf) | (refine ite_t (by first | with_reducible rfl | assumption) ?_; conv => whnf) | (refine ⟨fun h => ?_, fun h => ?_⟩ <;> conv => whnf) | (refine ⟨by first | omega | (show _ ∧ _; omega) | (simp only [Int.toNat_natCast]; first | omega | (show _ ∧ _; omega)) | decide, ?_⟩; conv => whnf) | fail)
          exact retW tbl_ok rfl rfl ⟨congrArg vi (by simp_all [waitsFor]), trivial⟩
        · rw [Bool.not_eq_true] at h3; rw [h3] at h; cases h
  · refine ⟨fun h => ?_, fun h => ?_⟩ <;> conv => whnf
    · repeat' (first | (refine ite_f (by first | with_reducible rfl | assumption) ?_; conv => whnf) | (refine ite_t (by first | with_reducible rfl | assumption) ?_; conv => whnf) | (refine ⟨fun h => ?_, fun h => ?_⟩ <;> conv => whnf) | (refine ⟨by first | omega | (show _ ∧ _; omega) | (simp only [Int.toNat_natCast]; first | omega | (show _ ∧ _; omega)) | decide, ?_⟩; conv => whnf) | fail)
      exact retW tbl_ok rfl rfl ⟨congrArg vi (by simp_all [waitsFor]), trivial⟩
    · rw [Bool.not_eq_true] at h1; rw [h1] at h; cases h

end Go.Proofs.Ytifdjnpnhgdcgaa
