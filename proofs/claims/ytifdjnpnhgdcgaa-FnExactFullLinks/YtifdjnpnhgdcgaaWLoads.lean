/- Texts for the law FnExactFullLinks: WLoads. No conditions. -/
import Derived.Test.YtifdjnpnhgdcgaaH2

set_option maxRecDepth 100000
namespace Go.Proofs.Ytifdjnpnhgdcgaa
open Go.Sx
theorem specQueueLoad (x : GCluster) (h : x.w ≤ 1048576) : Meets Try.prog 40 [.agg x.c] [.one (vi ((x.workers.map qLoad).sum : Nat))] := by
  have hl := GCluster.workers_le h
  refine enterW tbl_ok false Try.func40 rfl (by decide) fun W => ?_
  conv => whnf
  refine loopW tbl_ok false [] (fun k : Nat => [(3, .c (vi (((x.workers.take k).map qLoad).sum : Nat))), (4, .c (vi k))]) (fun k => [⟨0, [.c (sGNode x.graph.nodes), .c (vi x.graph.workers), .c (vi x.graph.cap), .c (sGWorker x.workers), .c (sGLink x.links), .c (sGToken x.tokens), .c (sGNews x.news)]⟩]) (fun k => [])
    (fun k => k ≤ x.workers.length) (fun k => x.workers.length - k) 0 (Nat.zero_le _) ⟨by first | rfl | simp [nth, ren2, ren1, ren0], by first | rfl | simp [nth, ren2, ren1, ren0], trivial⟩ (by repeat' (first | exact trivial | exact rfl | refine ⟨?_, ?_⟩)) trivial trivial (by kernel_rfl) (fun k hk => ?_)
  conv => whnf
  refine ⟨fun h => have h := of_decide_eq_true h; ?_, fun h => have h := of_decide_eq_false h; ?_⟩ <;> conv => whnf
  · have h : k < x.workers.length := by omega
    have h1 := wS_take qLoad x.workers k h
    have h2 := GCluster.worker_le (by assumption) h
    have h3 := sum_map_le qLoad GWorker.w (x.workers.take k) qLoad_le
    have h4 : (x.workers.getD k default).queue.length + (x.workers.getD k default).staged.length ≤ (x.workers.getD k default).w := qLoad_le _
    have h5 : qLoad (x.workers.getD k default) = (x.workers.getD k default).queue.length + (x.workers.getD k default).staged.length := rfl
    refine drawO rfl (by kernel_rfl) (go tbl_ok false ?_)
    conv => whnf
    (repeat (refine ⟨by first | omega | (show _ ∧ _; omega) | (simp only [Int.toNat_natCast]; omega) | (simp only [inR, Int.toNat_natCast]; omega) | decide, ?_⟩; conv => whnf))
    refine loopE [] (k + 1) (by omega) (by omega) ⟨congrArg (fun n => AV.c (vi n)) (by simp only [Int.toNat_natCast]; omega), rfl, trivial⟩ trivial (by repeat' (first | exact trivial | exact rfl | refine ⟨?_, ?_⟩)) (by kernel_rfl) trivial (by kernel_rfl)
  · exact retW tbl_ok rfl rfl ⟨congrArg (fun l : List GWorker => vi ((l.map qLoad).sum : Nat)) (take_all x.workers k (by omega)).symm, trivial⟩

theorem implQueueLoad (x : GCluster) (h : x.w ≤ 1048576) : Meets Try.prog 41 [.agg x.c] [.one (vi ((x.workers.map qLoad).sum : Nat))] := by
  have hl := GCluster.workers_le h
  refine enterW tbl_ok false Try.func41 rfl (by decide) fun W => ?_
  conv => whnf
  refine loopW tbl_ok false [] (fun k : Nat => [(3, .c (vi (((x.workers.take k).map qLoad).sum : Nat))), (9, .c (vi k))]) (fun k => [⟨0, [.c (sGNode x.graph.nodes), .c (vi x.graph.workers), .c (vi x.graph.cap), .c (sGWorker x.workers), .c (sGLink x.links), .c (sGToken x.tokens), .c (sGNews x.news)]⟩]) (fun k => [])
    (fun k => k ≤ x.workers.length) (fun k => x.workers.length - k) 0 (Nat.zero_le _) ⟨by first | rfl | simp [nth, ren2, ren1, ren0], by first | rfl | simp [nth, ren2, ren1, ren0], trivial⟩ (by repeat' (first | exact trivial | exact rfl | refine ⟨?_, ?_⟩)) trivial trivial (by kernel_rfl) (fun k hk => ?_)
  conv => whnf
  refine ⟨fun h => have h := of_decide_eq_true h; ?_, fun h => have h := of_decide_eq_false h; ?_⟩ <;> conv => whnf
  · have h : k < x.workers.length := by omega
    have h1 := wS_take qLoad x.workers k h
    have h2 := GCluster.worker_le (by assumption) h
    have h3 := sum_map_le qLoad GWorker.w (x.workers.take k) qLoad_le
    have h4 : (x.workers.getD k default).queue.length + (x.workers.getD k default).staged.length ≤ (x.workers.getD k default).w := qLoad_le _
    have h5 : qLoad (x.workers.getD k default) = (x.workers.getD k default).queue.length + (x.workers.getD k default).staged.length := rfl
    (repeat (refine ⟨by first | omega | (show _ ∧ _; omega) | (simp only [Int.toNat_natCast]; omega) | (simp only [inR, Int.toNat_natCast]; omega) | decide, ?_⟩; conv => whnf))
    refine loopE [] (k + 1) (by omega) (by omega) ⟨congrArg (fun n => AV.c (vi n)) (by simp only [Int.toNat_natCast]; omega), rfl, trivial⟩ trivial (by repeat' (first | exact trivial | exact rfl | refine ⟨?_, ?_⟩)) (by kernel_rfl) trivial (by kernel_rfl)
  · exact retW tbl_ok rfl rfl ⟨congrArg (fun l : List GWorker => vi ((l.map qLoad).sum : Nat)) (take_all x.workers k (by omega)).symm, trivial⟩

theorem specFullLinks (x : GCluster) (h : x.w ≤ 1048576) : Meets Try.prog 44 [.agg x.c] [.one (vi (fullLinks x.links : Nat))] := by
  have hl := GCluster.links_le h
  refine enterW tbl_ok false Try.func44 rfl (by decide) fun W => ?_
  conv => whnf
  refine loopW tbl_ok false [] (fun k : Nat => [(3, .c (vi (fullLinks (x.links.take k) : Nat))), (4, .c (vi k))]) (fun k => [⟨0, [.c (sGNode x.graph.nodes), .c (vi x.graph.workers), .c (vi x.graph.cap), .c (sGWorker x.workers), .c (sGLink x.links), .c (sGToken x.tokens), .c (sGNews x.news)]⟩]) (fun k => [])
    (fun k => k ≤ x.links.length) (fun k => x.links.length - k) 0 (Nat.zero_le _) ⟨by first | rfl | simp [nth, ren2, ren1, ren0], by first | rfl | simp [nth, ren2, ren1, ren0], trivial⟩ (by repeat' (first | exact trivial | exact rfl | refine ⟨?_, ?_⟩)) trivial trivial (by kernel_rfl) (fun k hk => ?_)
  conv => whnf
  refine ⟨fun h => have h := of_decide_eq_true h; ?_, fun h => have h := of_decide_eq_false h; ?_⟩ <;> conv => whnf
  · have h : k < x.links.length := by omega
    have h1 := fullLinks_take x.links k h
    have h2 := fullLinks_le (x.links.take k)
    have h3 := List.length_take_le k x.links
    refine drawO rfl (by kernel_rfl) (go tbl_ok false ?_)
    conv => whnf
    (repeat (refine ⟨by first | omega | (show _ ∧ _; omega) | (simp only [Int.toNat_natCast]; omega) | (simp only [inR, Int.toNat_natCast]; omega) | decide, ?_⟩; conv => whnf))
    refine ⟨fun h' => have h' := eq_of_beq h'; ?_, fun h' => have h' := beq_eq_false_iff_ne.1 h'; ?_⟩ <;> conv => whnf
    · have h' : ((x.links.getD k default).queue.length : Int) = (x.links.getD k default).cap := h'
      rw [if_pos h'] at h1
      (repeat (refine ⟨by first | omega | (show _ ∧ _; omega) | (simp only [Int.toNat_natCast]; omega) | (simp only [inR, Int.toNat_natCast]; omega) | decide, ?_⟩; conv => whnf))
      refine loopE [] (k + 1) (by omega) (by omega) ⟨congrArg (fun n => AV.c (vi n)) (by omega), rfl, trivial⟩ trivial (by repeat' (first | exact trivial | exact rfl | refine ⟨?_, ?_⟩)) (by kernel_rfl) trivial (by kernel_rfl)
    · have h' : ¬ ((x.links.getD k default).queue.length : Int) = (x.links.getD k default).cap := h'
      rw [if_neg h'] at h1
      (repeat (refine ⟨by first | omega | (show _ ∧ _; omega) | (simp only [Int.toNat_natCast]; omega) | (simp only [inR, Int.toNat_natCast]; omega) | decide, ?_⟩; conv => whnf))
      refine loopE [] (k + 1) (by omega) (by omega) ⟨congrArg (fun n => AV.c (vi n)) (by omega), rfl, trivial⟩ trivial (by repeat' (first | exact trivial | exact rfl | refine ⟨?_, ?_⟩)) (by kernel_rfl) trivial (by kernel_rfl)
  · exact retW tbl_ok rfl rfl ⟨congrArg (fun l : List GLink => vi (fullLinks l : Nat)) (take_all x.links k (by omega)).symm, trivial⟩

theorem implFullLinks (x : GCluster) (h : x.w ≤ 1048576) : Meets Try.prog 45 [.agg x.c] [.one (vi (fullLinks x.links : Nat))] := by
  have hl := GCluster.links_le h
  refine enterW tbl_ok false Try.func45 rfl (by decide) fun W => ?_
  conv => whnf
  refine loopW tbl_ok false [] (fun k : Nat => [(3, .c (vi (fullLinks (x.links.take k) : Nat))), (9, .c (vi k))]) (fun k => [⟨0, [.c (sGNode x.graph.nodes), .c (vi x.graph.workers), .c (vi x.graph.cap), .c (sGWorker x.workers), .c (sGLink x.links), .c (sGToken x.tokens), .c (sGNews x.news)]⟩]) (fun k => [])
    (fun k => k ≤ x.links.length) (fun k => x.links.length - k) 0 (Nat.zero_le _) ⟨by first | rfl | simp [nth, ren2, ren1, ren0], by first | rfl | simp [nth, ren2, ren1, ren0], trivial⟩ (by repeat' (first | exact trivial | exact rfl | refine ⟨?_, ?_⟩)) trivial trivial (by kernel_rfl) (fun k hk => ?_)
  conv => whnf
  refine ⟨fun h => have h := of_decide_eq_true h; ?_, fun h => have h := of_decide_eq_false h; ?_⟩ <;> conv => whnf
  · have h : k < x.links.length := by omega
    have h1 := fullLinks_take x.links k h
    have h2 := fullLinks_le (x.links.take k)
    have h3 := List.length_take_le k x.links
    (repeat (refine ⟨by first | omega | (show _ ∧ _; omega) | (simp only [Int.toNat_natCast]; omega) | (simp only [inR, Int.toNat_natCast]; omega) | decide, ?_⟩; conv => whnf))
    refine ⟨fun h' => have h' := eq_of_beq h'; ?_, fun h' => have h' := beq_eq_false_iff_ne.1 h'; ?_⟩ <;> conv => whnf
    · have h' : ((x.links.getD k default).queue.length : Int) = (x.links.getD k default).cap := h'
      rw [if_pos h'] at h1
      (repeat (refine ⟨by first | omega | (show _ ∧ _; omega) | (simp only [Int.toNat_natCast]; omega) | (simp only [inR, Int.toNat_natCast]; omega) | decide, ?_⟩; conv => whnf))
      refine loopE [] (k + 1) (by omega) (by omega) ⟨congrArg (fun n => AV.c (vi n)) (by omega), rfl, trivial⟩ trivial (by repeat' (first | exact trivial | exact rfl | refine ⟨?_, ?_⟩)) (by kernel_rfl) trivial (by kernel_rfl)
    · have h' : ¬ ((x.links.getD k default).queue.length : Int) = (x.links.getD k default).cap := h'
      rw [if_neg h'] at h1
      (repeat (refine ⟨by first | omega | (show _ ∧ _; omega) | (simp only [Int.toNat_natCast]; omega) | (simp only [inR, Int.toNat_natCast]; omega) | decide, ?_⟩; conv => whnf))
      refine loopE [] (k + 1) (by omega) (by omega) ⟨congrArg (fun n => AV.c (vi n)) (by omega), rfl, trivial⟩ trivial (by repeat' (first | exact trivial | exact rfl | refine ⟨?_, ?_⟩)) (by kernel_rfl) trivial (by kernel_rfl)
  · exact retW tbl_ok rfl rfl ⟨congrArg (fun l : List GLink => vi (fullLinks l : Nat)) (take_all x.links k (by omega)).symm, trivial⟩

theorem l02More (a b : Int) : Meets Try.prog 90 [.one (vi a), .one (vi b)] [.one (vi (if b > a then b else a))] := by
  refine enterW tbl_ok false Try.func90 rfl (by decide) fun W => ?_
  conv => whnf
  refine ⟨fun h => have h := of_decide_eq_true h; ?_, fun h => have h := of_decide_eq_false h; ?_⟩ <;> conv => whnf
  · exact retW tbl_ok rfl rfl ⟨congrArg vi (if_pos h), trivial⟩
  · exact retW tbl_ok rfl rfl ⟨congrArg vi (if_neg h), trivial⟩

theorem specLongestQueue (x : GCluster) (h : x.w ≤ 1048576) : Meets Try.prog 46 [.agg x.c] [.one (vi (longest x.workers))] := by
  have hl := GCluster.workers_le h
  refine enterW tbl_ok false Try.func46 rfl (by decide) fun W => ?_
  conv => whnf
  refine loopW tbl_ok false [] (fun k : Nat => [(3, .c (vi (longest (x.workers.take k)))), (4, .c (vi k))]) (fun k => [⟨0, [.c (sGNode x.graph.nodes), .c (vi x.graph.workers), .c (vi x.graph.cap), .c (sGWorker x.workers), .c (sGLink x.links), .c (sGToken x.tokens), .c (sGNews x.news)]⟩]) (fun k => [])
    (fun k => k ≤ x.workers.length) (fun k => x.workers.length - k) 0 (Nat.zero_le _) ⟨by first | rfl | simp [nth, ren2, ren1, ren0], by first | rfl | simp [nth, ren2, ren1, ren0], trivial⟩ (by repeat' (first | exact trivial | exact rfl | refine ⟨?_, ?_⟩)) trivial trivial (by kernel_rfl) (fun k hk => ?_)
  conv => whnf
  refine ⟨fun h => have h := of_decide_eq_true h; ?_, fun h => have h := of_decide_eq_false h; ?_⟩ <;> conv => whnf
  · have h : k < x.workers.length := by omega
    (repeat (refine ⟨by first | omega | (show _ ∧ _; omega) | (simp only [Int.toNat_natCast]; omega) | (simp only [inR, Int.toNat_natCast]; omega) | decide, ?_⟩; conv => whnf))
    refine callR (l02More _ _) rfl (go tbl_ok false ?_)
    conv => whnf
    (repeat (refine ⟨by first | omega | (show _ ∧ _; omega) | (simp only [Int.toNat_natCast]; omega) | (simp only [inR, Int.toNat_natCast]; omega) | decide, ?_⟩; conv => whnf))
    refine loopE [] (k + 1) (by omega) (by omega) ⟨congrArg (fun n => AV.c (vi n)) (longest_take x.workers k h).symm, rfl, trivial⟩ trivial (by repeat' (first | exact trivial | exact rfl | refine ⟨?_, ?_⟩)) (by kernel_rfl) trivial (by kernel_rfl)
  · exact retW tbl_ok rfl rfl ⟨congrArg (fun l : List GWorker => vi (longest l)) (take_all x.workers k (by omega)).symm, trivial⟩

theorem implLongestQueue (x : GCluster) (h : x.w ≤ 1048576) : Meets Try.prog 47 [.agg x.c] [.one (vi (longest x.workers))] := by
  have hl := GCluster.workers_le h
  refine enterW tbl_ok false Try.func47 rfl (by decide) fun W => ?_
  conv => whnf
  refine loopW tbl_ok false [] (fun k : Nat => [(3, .c (vi (longest (x.workers.take k)))), (9, .c (vi k))]) (fun k => [⟨0, [.c (sGNode x.graph.nodes), .c (vi x.graph.workers), .c (vi x.graph.cap), .c (sGWorker x.workers), .c (sGLink x.links), .c (sGToken x.tokens), .c (sGNews x.news)]⟩]) (fun k => [])
    (fun k => k ≤ x.workers.length) (fun k => x.workers.length - k) 0 (Nat.zero_le _) ⟨by first | rfl | simp [nth, ren2, ren1, ren0], by first | rfl | simp [nth, ren2, ren1, ren0], trivial⟩ (by repeat' (first | exact trivial | exact rfl | refine ⟨?_, ?_⟩)) trivial trivial (by kernel_rfl) (fun k hk => ?_)
  conv => whnf
  refine ⟨fun h => have h := of_decide_eq_true h; ?_, fun h => have h := of_decide_eq_false h; ?_⟩ <;> conv => whnf
  · have h : k < x.workers.length := by omega
    (repeat (refine ⟨by first | omega | (show _ ∧ _; omega) | (simp only [Int.toNat_natCast]; omega) | (simp only [inR, Int.toNat_natCast]; omega) | decide, ?_⟩; conv => whnf))
    refine loopE [] (k + 1) (by omega) (by omega) ⟨congrArg (fun n => AV.c (vi n)) (longest_take x.workers k h).symm, rfl, trivial⟩ trivial (by repeat' (first | exact trivial | exact rfl | refine ⟨?_, ?_⟩)) (by kernel_rfl) trivial (by kernel_rfl)
  · exact retW tbl_ok rfl rfl ⟨congrArg (fun l : List GWorker => vi (longest l)) (take_all x.workers k (by omega)).symm, trivial⟩

end Go.Proofs.Ytifdjnpnhgdcgaa
