/- Texts for the law FnExactSentIn: WSums. No conditions. -/
import Derived.Test.YtifdjnpnhgdcgaaH2

set_option maxRecDepth 100000
namespace Go.Proofs.Ytifdjnpnhgdcgaa
open Go.Sx
theorem specGotIn (x : GCluster) (h : x.w ≤ 1048576) : Meets Try.prog 34 [.agg x.c] [.one (vi (sum64 (fun l : GLink => l.got) x.links))] := by
  have hl := GCluster.links_le h
  refine enterW tbl_ok false Try.func34 rfl (by decide) fun W => ?_
  conv => whnf
  refine loopW tbl_ok true [] (fun k : Nat => [(3, .c (vi (sum64 (fun l : GLink => l.got) (x.links.take k)))), (4, .c (vi k))]) (fun k => [⟨0, [.c (sGNode x.graph.nodes), .c (vi x.graph.workers), .c (vi x.graph.cap), .c (sGWorker x.workers), .c (sGLink x.links), .c (sGToken x.tokens), .c (sGNews x.news)]⟩]) (fun k => [])
    (fun k => k ≤ x.links.length) (fun k => x.links.length - k) 0 (Nat.zero_le _) ⟨by first | rfl | simp [nth, ren2, ren1, ren0], by first | rfl | simp [nth, ren2, ren1, ren0], trivial⟩ (by repeat' (first | exact trivial | exact rfl | refine ⟨?_, ?_⟩)) trivial trivial (by kernel_rfl) (fun k hk => ?_)
  conv => whnf
  refine ⟨fun h => have h := of_decide_eq_true h; ?_, fun h => have h := of_decide_eq_false h; ?_⟩ <;> conv => whnf
  · have h : k < x.links.length := by omega
    (repeat (refine ⟨by first | omega | (show _ ∧ _; omega) | (simp only [Int.toNat_natCast]; omega) | decide, ?_⟩; conv => whnf))
    refine loopE [] (k + 1) (by omega) (by omega) ⟨congrArg (fun n => AV.c (vi n)) (sum64_take (fun l : GLink => l.got) _ k h).symm, congrArg (fun n => AV.c (vi n)) (wrap_succ k (by omega)), trivial⟩ trivial (by repeat' (first | exact trivial | exact rfl | refine ⟨?_, ?_⟩)) (by kernel_rfl) trivial (by kernel_rfl)
  · exact retW tbl_ok rfl rfl ⟨congrArg vi (congrArg _ (take_all x.links k (by omega)).symm), trivial⟩

theorem implGotIn (x : GCluster) (h : x.w ≤ 1048576) : Meets Try.prog 36 [.agg x.c] [.one (vi (sum64 (fun l : GLink => l.got) x.links))] := by
  have hl := GCluster.links_le h
  refine enterW tbl_ok false Try.func36 rfl (by decide) fun W => ?_
  conv => whnf
  refine loopW tbl_ok true [] (fun k : Nat => [(3, .c (vi (sum64 (fun l : GLink => l.got) (x.links.take k)))), (9, .c (vi k))]) (fun k => [⟨0, [.c (sGNode x.graph.nodes), .c (vi x.graph.workers), .c (vi x.graph.cap), .c (sGWorker x.workers), .c (sGLink x.links), .c (sGToken x.tokens), .c (sGNews x.news)]⟩]) (fun k => [])
    (fun k => k ≤ x.links.length) (fun k => x.links.length - k) 0 (Nat.zero_le _) ⟨by first | rfl | simp [nth, ren2, ren1, ren0], by first | rfl | simp [nth, ren2, ren1, ren0], trivial⟩ (by repeat' (first | exact trivial | exact rfl | refine ⟨?_, ?_⟩)) trivial trivial (by kernel_rfl) (fun k hk => ?_)
  conv => whnf
  refine ⟨fun h => have h := of_decide_eq_true h; ?_, fun h => have h := of_decide_eq_false h; ?_⟩ <;> conv => whnf
  · have h : k < x.links.length := by omega
    (repeat (refine ⟨by first | omega | (show _ ∧ _; omega) | (simp only [Int.toNat_natCast]; omega) | decide, ?_⟩; conv => whnf))
    refine loopE [] (k + 1) (by omega) (by omega) ⟨congrArg (fun n => AV.c (vi n)) (sum64_take (fun l : GLink => l.got) _ k h).symm, congrArg (fun n => AV.c (vi n)) (wrap_succ k (by omega)), trivial⟩ trivial (by repeat' (first | exact trivial | exact rfl | refine ⟨?_, ?_⟩)) (by kernel_rfl) trivial (by kernel_rfl)
  · exact retW tbl_ok rfl rfl ⟨congrArg vi (congrArg _ (take_all x.links k (by omega)).symm), trivial⟩

theorem specSentIn (x : GCluster) (h : x.w ≤ 1048576) : Meets Try.prog 42 [.agg x.c] [.one (vi (sum64 (fun l : GLink => l.sent) x.links))] := by
  have hl := GCluster.links_le h
  refine enterW tbl_ok false Try.func42 rfl (by decide) fun W => ?_
  conv => whnf
  refine loopW tbl_ok true [] (fun k : Nat => [(3, .c (vi (sum64 (fun l : GLink => l.sent) (x.links.take k)))), (4, .c (vi k))]) (fun k => [⟨0, [.c (sGNode x.graph.nodes), .c (vi x.graph.workers), .c (vi x.graph.cap), .c (sGWorker x.workers), .c (sGLink x.links), .c (sGToken x.tokens), .c (sGNews x.news)]⟩]) (fun k => [])
    (fun k => k ≤ x.links.length) (fun k => x.links.length - k) 0 (Nat.zero_le _) ⟨by first | rfl | simp [nth, ren2, ren1, ren0], by first | rfl | simp [nth, ren2, ren1, ren0], trivial⟩ (by repeat' (first | exact trivial | exact rfl | refine ⟨?_, ?_⟩)) trivial trivial (by kernel_rfl) (fun k hk => ?_)
  conv => whnf
  refine ⟨fun h => have h := of_decide_eq_true h; ?_, fun h => have h := of_decide_eq_false h; ?_⟩ <;> conv => whnf
  · have h : k < x.links.length := by omega
    (repeat (refine ⟨by first | omega | (show _ ∧ _; omega) | (simp only [Int.toNat_natCast]; omega) | decide, ?_⟩; conv => whnf))
    refine loopE [] (k + 1) (by omega) (by omega) ⟨congrArg (fun n => AV.c (vi n)) (sum64_take (fun l : GLink => l.sent) _ k h).symm, congrArg (fun n => AV.c (vi n)) (wrap_succ k (by omega)), trivial⟩ trivial (by repeat' (first | exact trivial | exact rfl | refine ⟨?_, ?_⟩)) (by kernel_rfl) trivial (by kernel_rfl)
  · exact retW tbl_ok rfl rfl ⟨congrArg vi (congrArg _ (take_all x.links k (by omega)).symm), trivial⟩

theorem implSentIn (x : GCluster) (h : x.w ≤ 1048576) : Meets Try.prog 43 [.agg x.c] [.one (vi (sum64 (fun l : GLink => l.sent) x.links))] := by
  have hl := GCluster.links_le h
  refine enterW tbl_ok false Try.func43 rfl (by decide) fun W => ?_
  conv => whnf
  refine loopW tbl_ok true [] (fun k : Nat => [(3, .c (vi (sum64 (fun l : GLink => l.sent) (x.links.take k)))), (9, .c (vi k))]) (fun k => [⟨0, [.c (sGNode x.graph.nodes), .c (vi x.graph.workers), .c (vi x.graph.cap), .c (sGWorker x.workers), .c (sGLink x.links), .c (sGToken x.tokens), .c (sGNews x.news)]⟩]) (fun k => [])
    (fun k => k ≤ x.links.length) (fun k => x.links.length - k) 0 (Nat.zero_le _) ⟨by first | rfl | simp [nth, ren2, ren1, ren0], by first | rfl | simp [nth, ren2, ren1, ren0], trivial⟩ (by repeat' (first | exact trivial | exact rfl | refine ⟨?_, ?_⟩)) trivial trivial (by kernel_rfl) (fun k hk => ?_)
  conv => whnf
  refine ⟨fun h => have h := of_decide_eq_true h; ?_, fun h => have h := of_decide_eq_false h; ?_⟩ <;> conv => whnf
  · have h : k < x.links.length := by omega
    (repeat (refine ⟨by first | omega | (show _ ∧ _; omega) | (simp only [Int.toNat_natCast]; omega) | decide, ?_⟩; conv => whnf))
    refine loopE [] (k + 1) (by omega) (by omega) ⟨congrArg (fun n => AV.c (vi n)) (sum64_take (fun l : GLink => l.sent) _ k h).symm, congrArg (fun n => AV.c (vi n)) (wrap_succ k (by omega)), trivial⟩ trivial (by repeat' (first | exact trivial | exact rfl | refine ⟨?_, ?_⟩)) (by kernel_rfl) trivial (by kernel_rfl)
  · exact retW tbl_ok rfl rfl ⟨congrArg vi (congrArg _ (take_all x.links k (by omega)).symm), trivial⟩

theorem specLinkLoad (x : GCluster) (h : x.w ≤ 1048576) : Meets Try.prog 38 [.agg x.c] [.one (vi (sum64 (fun l : GLink => (l.queue.length : Int)) x.links))] := by
  have hl := GCluster.links_le h
  refine enterW tbl_ok false Try.func38 rfl (by decide) fun W => ?_
  conv => whnf
  refine loopW tbl_ok true [] (fun k : Nat => [(3, .c (vi (sum64 (fun l : GLink => (l.queue.length : Int)) (x.links.take k)))), (4, .c (vi k))]) (fun k => [⟨0, [.c (sGNode x.graph.nodes), .c (vi x.graph.workers), .c (vi x.graph.cap), .c (sGWorker x.workers), .c (sGLink x.links), .c (sGToken x.tokens), .c (sGNews x.news)]⟩]) (fun k => [])
    (fun k => k ≤ x.links.length) (fun k => x.links.length - k) 0 (Nat.zero_le _) ⟨by first | rfl | simp [nth, ren2, ren1, ren0], by first | rfl | simp [nth, ren2, ren1, ren0], trivial⟩ (by repeat' (first | exact trivial | exact rfl | refine ⟨?_, ?_⟩)) trivial trivial (by kernel_rfl) (fun k hk => ?_)
  conv => whnf
  refine ⟨fun h => have h := of_decide_eq_true h; ?_, fun h => have h := of_decide_eq_false h; ?_⟩ <;> conv => whnf
  · have h : k < x.links.length := by omega
    (repeat (refine ⟨by first | omega | (show _ ∧ _; omega) | (simp only [Int.toNat_natCast]; omega) | decide, ?_⟩; conv => whnf))
    refine loopE [] (k + 1) (by omega) (by omega) ⟨congrArg (fun n => AV.c (vi n)) (sum64_take (fun l : GLink => (l.queue.length : Int)) _ k h).symm, congrArg (fun n => AV.c (vi n)) (wrap_succ k (by omega)), trivial⟩ trivial (by repeat' (first | exact trivial | exact rfl | refine ⟨?_, ?_⟩)) (by kernel_rfl) trivial (by kernel_rfl)
  · exact retW tbl_ok rfl rfl ⟨congrArg vi (congrArg _ (take_all x.links k (by omega)).symm), trivial⟩

theorem implLinkLoad (x : GCluster) (h : x.w ≤ 1048576) : Meets Try.prog 39 [.agg x.c] [.one (vi (sum64 (fun l : GLink => (l.queue.length : Int)) x.links))] := by
  have hl := GCluster.links_le h
  refine enterW tbl_ok false Try.func39 rfl (by decide) fun W => ?_
  conv => whnf
  refine loopW tbl_ok true [] (fun k : Nat => [(3, .c (vi (sum64 (fun l : GLink => (l.queue.length : Int)) (x.links.take k)))), (9, .c (vi k))]) (fun k => [⟨0, [.c (sGNode x.graph.nodes), .c (vi x.graph.workers), .c (vi x.graph.cap), .c (sGWorker x.workers), .c (sGLink x.links), .c (sGToken x.tokens), .c (sGNews x.news)]⟩]) (fun k => [])
    (fun k => k ≤ x.links.length) (fun k => x.links.length - k) 0 (Nat.zero_le _) ⟨by first | rfl | simp [nth, ren2, ren1, ren0], by first | rfl | simp [nth, ren2, ren1, ren0], trivial⟩ (by repeat' (first | exact trivial | exact rfl | refine ⟨?_, ?_⟩)) trivial trivial (by kernel_rfl) (fun k hk => ?_)
  conv => whnf
  refine ⟨fun h => have h := of_decide_eq_true h; ?_, fun h => have h := of_decide_eq_false h; ?_⟩ <;> conv => whnf
  · have h : k < x.links.length := by omega
    (repeat (refine ⟨by first | omega | (show _ ∧ _; omega) | (simp only [Int.toNat_natCast]; omega) | decide, ?_⟩; conv => whnf))
    refine loopE [] (k + 1) (by omega) (by omega) ⟨congrArg (fun n => AV.c (vi n)) (sum64_take (fun l : GLink => (l.queue.length : Int)) _ k h).symm, congrArg (fun n => AV.c (vi n)) (wrap_succ k (by omega)), trivial⟩ trivial (by repeat' (first | exact trivial | exact rfl | refine ⟨?_, ?_⟩)) (by kernel_rfl) trivial (by kernel_rfl)
  · exact retW tbl_ok rfl rfl ⟨congrArg vi (congrArg _ (take_all x.links k (by omega)).symm), trivial⟩


end Go.Proofs.Ytifdjnpnhgdcgaa
