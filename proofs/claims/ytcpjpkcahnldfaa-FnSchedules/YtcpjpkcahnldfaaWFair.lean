/- Texts for the law FnSchedules: WFair. No conditions. -/
import Derived.Test.YtcpjpkcahnldfaaEng3
import Derived.Test.YtcpjpkcahnldfaaWNames

set_option maxRecDepth 100000
namespace Go.Proofs.Ytcpjpkcahnldfaa
open Go.Sx
def isFair (n : Nat) (l : List GPick) (w : Int) : Bool := if w < 1 then false else (List.range (l.length + 1 - w.toNat)).all fun i => nameEach n ((l.drop i).take w.toNat)
theorem range_all_succ (p : Nat → Bool) (k : Nat) : (List.range (k + 1)).all p = ((List.range k).all p && p k) := by simp [List.range_succ]
theorem range_all_false {p : Nat → Bool} {k n : Nat} (h : k < n) (hp : p k = false) : (List.range n).all p = false := List.all_eq_false.2 ⟨k, List.mem_range.2 h, by rw [hp]; decide⟩
theorem sub_picks (l : List GPick) (k : Nat) (w : Int) (h1 : 1 ≤ w) (h2 : (k : Int) + w ≤ l.length) : SubOk l.length 3 (fun i => GPick.c (l.getD i default)) k (k + w) (sGPick ((l.drop k).take w.toNat)) := by
  have h := slC_sub (es := 3) (e := GPick.c) (xs := l) (l := k) (h := k + w) (by omega) (by omega) h2
  rwa [show ((k : Int) + w - k).toNat = w.toNat by omega, Int.toNat_natCast] at h

theorem specIsFair (x : GCluster) (l : List GPick) (w : Int) (hx : l.length ≤ 1048576) (ow : inR .i64 w) : Meets Try.prog 19 [.agg x.c, .one (sGPick l), .one (vi w)] [.one (vb (isFair (pN x) l w))] := by
  have hw : w ≤ 9223372036854775807 := ow.2
  refine enterW tbl_ok false Try.func19 rfl (by decide) fun W => ?_
  conv => whnf
  refine ⟨fun h1 => have h1 := of_decide_eq_true h1; ?_, fun h1 => have h1 := of_decide_eq_false h1; ?_⟩ <;> conv => whnf
  · exact retW tbl_ok rfl rfl ⟨congrArg vb (by rw [isFair, if_pos h1]), trivial⟩
  have hm : isFair (pN x) l w = (List.range (l.length + 1 - w.toNat)).all fun i => nameEach (pN x) ((l.drop i).take w.toNat) := by rw [isFair, if_neg h1]
  refine loopW tbl_ok false [] (fun k : Nat => [(7, .c (vi k))]) (fun k => [⟨0, [.c (sGNode x.graph.nodes), .c (vi x.graph.workers), .c (vi x.graph.cap), .c (sGWorker x.workers), .c (sGLink x.links), .c (sGToken x.tokens), .c (sGNews x.news)]⟩]) (fun k => [])
    (fun k => k ≤ (l.length + 1 - w.toNat) ∧ ((List.range k).all fun i => nameEach (pN x) ((l.drop i).take w.toNat)) = true) (fun k => (l.length + 1 - w.toNat) - k) 0 ⟨Nat.zero_le _, by first | rfl | assumption | simp⟩ ⟨by first | rfl | simp [nth, ren2, ren1, ren0], trivial⟩ (by repeat' (first | exact trivial | exact rfl | refine ⟨?_, ?_⟩)) trivial trivial (by kernel_rfl) (fun k hk => ?_)
  obtain ⟨hk, he⟩ := hk
  conv => whnf
  (repeat (refine ⟨by first | omega | (simp only [ByteArray.size_append, bsz, List.size_toArray, List.length_cons, List.length_nil]; omega) | (show _ ∧ _; omega) | (simp only [Int.toNat_natCast]; first | omega | (show _ ∧ _; omega)) | decide, ?_⟩; conv => whnf))
  refine ⟨fun h => have h := of_decide_eq_true h; ?_, fun h => have h := of_decide_eq_false h; ?_⟩ <;> conv => whnf
  · first | (refine drawI 6 rfl [0, 1, 2, 3, 4, 5, 6, 7, 8] (by kernel_rfl) (go tbl_ok false ?_); conv => whnf)
    (repeat (refine ⟨by first | omega | (simp only [ByteArray.size_append, bsz, List.size_toArray, List.length_cons, List.length_nil]; omega) | (show _ ∧ _; omega) | (simp only [Int.toNat_natCast]; first | omega | (show _ ∧ _; omega)) | decide, ?_⟩; conv => whnf))
    refine sliceW tbl_ok rfl rfl rfl rfl rfl rfl rfl rfl rfl ⟨by omega, by omega, by omega⟩ (sGPick ((l.drop k).take w.toNat)) (sub_picks l k w (by omega) (by omega)) (go tbl_ok false ?_)
    conv => whnf
    refine callR (specNameEach x ((l.drop k).take w.toNat) (by simp; omega)) rfl (go tbl_ok false ?_)
    conv => whnf
    refine ⟨fun hc => ?_, fun hc => ?_⟩ <;> conv => whnf
    · exact retW tbl_ok rfl rfl ⟨congrArg vb (by rw [hm]; exact range_all_false (show k < _ by omega) (by simpa using hc)), trivial⟩
    · (repeat (refine ⟨by first | omega | (simp only [ByteArray.size_append, bsz, List.size_toArray, List.length_cons, List.length_nil]; omega) | (show _ ∧ _; omega) | (simp only [Int.toNat_natCast]; first | omega | (show _ ∧ _; omega)) | decide, ?_⟩; conv => whnf))
      refine loopE [] (k + 1) ⟨by omega, by rw [range_all_succ, he]; simpa using hc⟩ (by omega) ⟨rfl, trivial⟩ trivial (by repeat' (first | exact trivial | exact rfl | refine ⟨?_, ?_⟩)) (by kernel_rfl) trivial (by kernel_rfl)
  · exact retW tbl_ok rfl rfl ⟨congrArg vb (by rw [hm, ← he]; congr 2; omega), trivial⟩

theorem implIsFair (x : GCluster) (l : List GPick) (w : Int) (hx : l.length ≤ 1048576) (ow : inR .i64 w) : Meets Try.prog 18 [.agg x.c, .one (sGPick l), .one (vi w)] [.one (vb (isFair (pN x) l w))] := by
  have hw : w ≤ 9223372036854775807 := ow.2
  refine enterW tbl_ok false Try.func18 rfl (by decide) fun W => ?_
  conv => whnf
  refine ⟨fun h1 => have h1 := of_decide_eq_true h1; ?_, fun h1 => have h1 := of_decide_eq_false h1; ?_⟩ <;> conv => whnf
  · exact retW tbl_ok rfl rfl ⟨congrArg vb (by rw [isFair, if_pos h1]), trivial⟩
  have hm : isFair (pN x) l w = (List.range (l.length + 1 - w.toNat)).all fun i => nameEach (pN x) ((l.drop i).take w.toNat) := by rw [isFair, if_neg h1]
  refine loopW tbl_ok false [] (fun k : Nat => [(7, .c (vi k))]) (fun k => [⟨0, [.c (sGNode x.graph.nodes), .c (vi x.graph.workers), .c (vi x.graph.cap), .c (sGWorker x.workers), .c (sGLink x.links), .c (sGToken x.tokens), .c (sGNews x.news)]⟩]) (fun k => [])
    (fun k => k ≤ (l.length + 1 - w.toNat) ∧ ((List.range k).all fun i => nameEach (pN x) ((l.drop i).take w.toNat)) = true) (fun k => (l.length + 1 - w.toNat) - k) 0 ⟨Nat.zero_le _, by first | rfl | assumption | simp⟩ ⟨by first | rfl | simp [nth, ren2, ren1, ren0], trivial⟩ (by repeat' (first | exact trivial | exact rfl | refine ⟨?_, ?_⟩)) trivial trivial (by kernel_rfl) (fun k hk => ?_)
  obtain ⟨hk, he⟩ := hk
  conv => whnf
  (repeat (refine ⟨by first | omega | (simp only [ByteArray.size_append, bsz, List.size_toArray, List.length_cons, List.length_nil]; omega) | (show _ ∧ _; omega) | (simp only [Int.toNat_natCast]; first | omega | (show _ ∧ _; omega)) | decide, ?_⟩; conv => whnf))
  refine ⟨fun h => have h := of_decide_eq_true h; ?_, fun h => have h := of_decide_eq_false h; ?_⟩ <;> conv => whnf
  · first | (refine drawI 6 rfl [0, 1, 2, 3, 4, 5, 6, 7, 8] (by kernel_rfl) (go tbl_ok false ?_); conv => whnf)
    (repeat (refine ⟨by first | omega | (simp only [ByteArray.size_append, bsz, List.size_toArray, List.length_cons, List.length_nil]; omega) | (show _ ∧ _; omega) | (simp only [Int.toNat_natCast]; first | omega | (show _ ∧ _; omega)) | decide, ?_⟩; conv => whnf))
    refine sliceW tbl_ok rfl rfl rfl rfl rfl rfl rfl rfl rfl ⟨by omega, by omega, by omega⟩ (sGPick ((l.drop k).take w.toNat)) (sub_picks l k w (by omega) (by omega)) (go tbl_ok false ?_)
    conv => whnf
    refine callR (implNameEach x ((l.drop k).take w.toNat) (by simp; omega)) rfl (go tbl_ok false ?_)
    conv => whnf
    refine ⟨fun hc => ?_, fun hc => ?_⟩ <;> conv => whnf
    · exact retW tbl_ok rfl rfl ⟨congrArg vb (by rw [hm]; exact range_all_false (show k < _ by omega) (by simpa using hc)), trivial⟩
    · (repeat (refine ⟨by first | omega | (simp only [ByteArray.size_append, bsz, List.size_toArray, List.length_cons, List.length_nil]; omega) | (show _ ∧ _; omega) | (simp only [Int.toNat_natCast]; first | omega | (show _ ∧ _; omega)) | decide, ?_⟩; conv => whnf))
      refine loopE [] (k + 1) ⟨by omega, by rw [range_all_succ, he]; simpa using hc⟩ (by omega) ⟨rfl, trivial⟩ trivial (by repeat' (first | exact trivial | exact rfl | refine ⟨?_, ?_⟩)) (by kernel_rfl) trivial (by kernel_rfl)
  · exact retW tbl_ok rfl rfl ⟨congrArg vb (by rw [hm, ← he]; congr 2; omega), trivial⟩

end Go.Proofs.Ytcpjpkcahnldfaa
