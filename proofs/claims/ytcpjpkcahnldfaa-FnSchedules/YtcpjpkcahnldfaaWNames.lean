/- Texts for the law FnSchedules: WNames. No conditions. -/
import Derived.Test.YtcpjpkcahnldfaaWPicks

set_option maxRecDepth 100000
namespace Go.Proofs.Ytcpjpkcahnldfaa
open Go.Sx
def hasP (l : List GPick) (p : GPick) : Bool := l.any fun y => decide (y = p)
def nameEach (n : Nat) (l : List GPick) : Bool := (allP n).all fun p => hasP l p
def pN (x : GCluster) : Nat := (brought x.graph.workers 0 4).toNat
theorem pN_le (x : GCluster) : pN x ≤ 4 := by have := brought_range x.graph.workers 0 4 (by decide); unfold pN; omega

theorem idxP (xs : List GPick) (p : GPick) (hx : xs.length ≤ 1048576) : Meets Try.prog 45 [.one (sGPick xs), .agg p.c] [.one (vi (findI (fun y => decide (p = y)) xs))] := by
  refine enterW tbl_ok false Try.func45 rfl (by decide) fun W => ?_
  conv => whnf
  refine loopW tbl_ok false [] (fun k : Nat => [(8, .c (vi k))]) (fun k => [⟨0, [.c (vi p.kind), .c (vi p.a), .c (vi p.b)]⟩]) (fun k => [])
    (fun k => k ≤ xs.length ∧ (xs.take k).any (fun y => decide (p = y)) = false) (fun k => xs.length - k) 0 ⟨Nat.zero_le _, by first | rfl | assumption | simp⟩ ⟨by first | rfl | simp [nth, ren2, ren1, ren0], trivial⟩ (by repeat' (first | exact trivial | exact rfl | refine ⟨?_, ?_⟩)) trivial trivial (by kernel_rfl) (fun k hk => ?_)
  obtain ⟨hk, he⟩ := hk
  conv => whnf
  refine ⟨fun h => have h := of_decide_eq_true h; ?_, fun h => have h := of_decide_eq_false h; ?_⟩ <;> conv => whnf
  · have h : k < xs.length := by omega
    (repeat (refine ⟨by first | omega | (simp only [ByteArray.size_append, bsz, List.size_toArray, List.length_cons, List.length_nil]; omega) | (show _ ∧ _; omega) | (simp only [Int.toNat_natCast]; first | omega | (show _ ∧ _; omega)) | decide, ?_⟩; conv => whnf))
    first | (refine drawI 4 rfl [0, 1, 2, 3, 4, 5] (by kernel_rfl) (go tbl_ok false ?_); conv => whnf)
    (repeat (refine ⟨by first | omega | (simp only [ByteArray.size_append, bsz, List.size_toArray, List.length_cons, List.length_nil]; omega) | (show _ ∧ _; omega) | (simp only [Int.toNat_natCast]; first | omega | (show _ ∧ _; omega)) | decide, ?_⟩; conv => whnf))
    refine ⟨fun hc => ?_, fun hc => ?_⟩ <;> conv => whnf
    · have hc : decide (p = xs.getD k default) = true := by rw [← GPick.eqv]; exact hc
      exact retW tbl_ok rfl rfl ⟨congrArg vi (findI_of _ xs k he h hc), trivial⟩
    · have hc : decide (p = xs.getD k default) = false := by rw [← GPick.eqv]; exact hc
      (repeat (refine ⟨by first | omega | (simp only [ByteArray.size_append, bsz, List.size_toArray, List.length_cons, List.length_nil]; omega) | (show _ ∧ _; omega) | (simp only [Int.toNat_natCast]; first | omega | (show _ ∧ _; omega)) | decide, ?_⟩; conv => whnf))
      refine loopE [] (k + 1) ⟨by omega, any_take_false he h hc⟩ (by omega) ⟨rfl, trivial⟩ trivial (by repeat' (first | exact trivial | exact rfl | refine ⟨?_, ?_⟩)) (by kernel_rfl) trivial (by kernel_rfl)
  · exact retW tbl_ok rfl rfl ⟨congrArg vi (findI_none _ xs (by rw [take_all xs k (by omega)] at he; exact he)), trivial⟩
theorem contP (xs : List GPick) (p : GPick) (hx : xs.length ≤ 1048576) : Meets Try.prog 34 [.one (sGPick xs), .agg p.c] [.one (vb (hasP xs p))] := by
  refine enterW tbl_ok false Try.func34 rfl (by decide) fun W => ?_
  conv => whnf
  refine callR (idxP xs p hx) rfl (go tbl_ok false ?_)
  conv => whnf
  exact retW tbl_ok rfl rfl ⟨congrArg vb ((congrArg (fun f => List.any xs f) (funext fun y => decide_eq_decide.2 eq_comm)).trans (findI_any (fun y => decide (p = y)) xs).symm), trivial⟩
theorem hasPs (xs : List GPick) (p : GPick) (hx : xs.length ≤ 1048576) : Meets Try.prog 35 [.one (sGPick xs), .agg p.c] [.one (vb (hasP xs p))] := by
  refine enterW tbl_ok false Try.func35 rfl (by decide) fun W => ?_
  conv => whnf
  refine loopW tbl_ok false [] (fun k : Nat => [(5, .c (vi k))]) (fun k => [⟨0, [.c (vi p.kind), .c (vi p.a), .c (vi p.b)]⟩]) (fun k => [])
    (fun k => k ≤ xs.length ∧ (xs.take k).any (fun y => decide (y = p)) = false) (fun k => xs.length - k) 0 ⟨Nat.zero_le _, by first | rfl | assumption | simp⟩ ⟨by first | rfl | simp [nth, ren2, ren1, ren0], trivial⟩ (by repeat' (first | exact trivial | exact rfl | refine ⟨?_, ?_⟩)) trivial trivial (by kernel_rfl) (fun k hk => ?_)
  obtain ⟨hk, he⟩ := hk
  conv => whnf
  refine ⟨fun h => have h := of_decide_eq_true h; ?_, fun h => have h := of_decide_eq_false h; ?_⟩ <;> conv => whnf
  · have h : k < xs.length := by omega
    (repeat (refine ⟨by first | omega | (simp only [ByteArray.size_append, bsz, List.size_toArray, List.length_cons, List.length_nil]; omega) | (show _ ∧ _; omega) | (simp only [Int.toNat_natCast]; first | omega | (show _ ∧ _; omega)) | decide, ?_⟩; conv => whnf))
    first | (refine drawI 4 rfl [0, 1, 2, 3, 4, 5] (by kernel_rfl) (go tbl_ok false ?_); conv => whnf)
    (repeat (refine ⟨by first | omega | (simp only [ByteArray.size_append, bsz, List.size_toArray, List.length_cons, List.length_nil]; omega) | (show _ ∧ _; omega) | (simp only [Int.toNat_natCast]; first | omega | (show _ ∧ _; omega)) | decide, ?_⟩; conv => whnf))
    refine ⟨fun hc => ?_, fun hc => ?_⟩ <;> conv => whnf
    · have hc : decide (xs.getD k default = p) = true := by rw [← GPick.eqv]; exact hc
      exact retW tbl_ok rfl rfl ⟨congrArg vb (any_of_getD h hc), trivial⟩
    · have hc : decide (xs.getD k default = p) = false := by rw [← GPick.eqv]; exact hc
      (repeat (refine ⟨by first | omega | (simp only [ByteArray.size_append, bsz, List.size_toArray, List.length_cons, List.length_nil]; omega) | (show _ ∧ _; omega) | (simp only [Int.toNat_natCast]; first | omega | (show _ ∧ _; omega)) | decide, ?_⟩; conv => whnf))
      refine loopE [] (k + 1) ⟨by omega, any_take_false he h hc⟩ (by omega) ⟨rfl, trivial⟩ trivial (by repeat' (first | exact trivial | exact rfl | refine ⟨?_, ?_⟩)) (by kernel_rfl) trivial (by kernel_rfl)
  · exact retW tbl_ok rfl rfl ⟨congrArg vb (by rw [take_all xs k (by omega)] at he; exact he), trivial⟩

theorem specNameEach (x : GCluster) (l : List GPick) (hx : l.length ≤ 1048576) : Meets Try.prog 21 [.agg x.c, .one (sGPick l)] [.one (vb (nameEach (pN x) l))] := by
  have hl := allP_len (pN x) (pN_le x)
  refine enterW tbl_ok false Try.func21 rfl (by decide) fun W => ?_
  conv => whnf
  refine callW (show Meets Try.prog 7 [.agg x.c] [.one (sGPick (allP (pN x)))] from specAllPicks x) rfl (go tbl_ok false ?_)
  conv => whnf
  refine loopW tbl_ok false [] (fun k : Nat => [(6, .c (vi k))]) (fun k => [⟨0, [.c (sGNode x.graph.nodes), .c (vi x.graph.workers), .c (vi x.graph.cap), .c (sGWorker x.workers), .c (sGLink x.links), .c (sGToken x.tokens), .c (sGNews x.news)]⟩]) (fun k => [⟨1, sGPick (allP (pN x))⟩])
    (fun k => k ≤ (allP (pN x)).length ∧ ((allP (pN x)).take k).all (fun p => hasP l p) = true) (fun k => (allP (pN x)).length - k) 0 ⟨Nat.zero_le _, by first | rfl | assumption | simp⟩ ⟨by first | rfl | simp [nth, ren2, ren1, ren0], trivial⟩ (by repeat' (first | exact trivial | exact rfl | refine ⟨?_, ?_⟩)) ⟨by first | rfl | exact (congrArg (fun l => slC _ _ l) (List.append_nil _)).symm | (show (_ : Cell) = _; simp) | simp, trivial⟩ trivial (by kernel_rfl) (fun k hk => ?_)
  obtain ⟨hk, he⟩ := hk
  conv => whnf
  refine ⟨fun h => have h := of_decide_eq_true h; ?_, fun h => have h := of_decide_eq_false h; ?_⟩ <;> conv => whnf
  · have h : k < (allP (pN x)).length := by omega
    (repeat (refine ⟨by first | omega | (simp only [ByteArray.size_append, bsz, List.size_toArray, List.length_cons, List.length_nil]; omega) | (show _ ∧ _; omega) | (simp only [Int.toNat_natCast]; first | omega | (show _ ∧ _; omega)) | decide, ?_⟩; conv => whnf))
    refine callR (hasPs l ((allP (pN x)).getD k default) hx) rfl (go tbl_ok false ?_)
    conv => whnf
    refine ⟨fun hc => ?_, fun hc => ?_⟩ <;> conv => whnf
    · exact retW tbl_ok rfl rfl ⟨congrArg vb (all_of_getD h (by simpa using hc)), trivial⟩
    · (repeat (refine ⟨by first | omega | (simp only [ByteArray.size_append, bsz, List.size_toArray, List.length_cons, List.length_nil]; omega) | (show _ ∧ _; omega) | (simp only [Int.toNat_natCast]; first | omega | (show _ ∧ _; omega)) | decide, ?_⟩; conv => whnf))
      refine loopE [] (k + 1) ⟨by omega, all_take_true he h (by simpa using hc)⟩ (by omega) ⟨rfl, trivial⟩ ⟨rfl, trivial⟩ (by repeat' (first | exact trivial | exact rfl | refine ⟨?_, ?_⟩)) (by kernel_rfl) trivial (by kernel_rfl)
  · exact retW tbl_ok rfl rfl ⟨congrArg vb (by rw [take_all _ k (by omega)] at he; exact he), trivial⟩
theorem implNameEach (x : GCluster) (l : List GPick) (hx : l.length ≤ 1048576) : Meets Try.prog 20 [.agg x.c, .one (sGPick l)] [.one (vb (nameEach (pN x) l))] := by
  have hl := allP_len (pN x) (pN_le x)
  refine enterW tbl_ok false Try.func20 rfl (by decide) fun W => ?_
  conv => whnf
  refine callW (show Meets Try.prog 27 [.agg x.c] [.one (sGPick (allP (pN x)))] from implAllPicks x) rfl (go tbl_ok false ?_)
  conv => whnf
  refine loopW tbl_ok false [] (fun k : Nat => [(10, .c (vi k))]) (fun k => [⟨0, [.c (sGNode x.graph.nodes), .c (vi x.graph.workers), .c (vi x.graph.cap), .c (sGWorker x.workers), .c (sGLink x.links), .c (sGToken x.tokens), .c (sGNews x.news)]⟩]) (fun k => [⟨1, sGPick (allP (pN x))⟩])
    (fun k => k ≤ (allP (pN x)).length ∧ ((allP (pN x)).take k).all (fun p => hasP l p) = true) (fun k => (allP (pN x)).length - k) 0 ⟨Nat.zero_le _, by first | rfl | assumption | simp⟩ ⟨by first | rfl | simp [nth, ren2, ren1, ren0], trivial⟩ (by repeat' (first | exact trivial | exact rfl | refine ⟨?_, ?_⟩)) ⟨by first | rfl | exact (congrArg (fun l => slC _ _ l) (List.append_nil _)).symm | (show (_ : Cell) = _; simp) | simp, trivial⟩ trivial (by kernel_rfl) (fun k hk => ?_)
  obtain ⟨hk, he⟩ := hk
  conv => whnf
  refine ⟨fun h => have h := of_decide_eq_true h; ?_, fun h => have h := of_decide_eq_false h; ?_⟩ <;> conv => whnf
  · have h : k < (allP (pN x)).length := by omega
    (repeat (refine ⟨by first | omega | (simp only [ByteArray.size_append, bsz, List.size_toArray, List.length_cons, List.length_nil]; omega) | (show _ ∧ _; omega) | (simp only [Int.toNat_natCast]; first | omega | (show _ ∧ _; omega)) | decide, ?_⟩; conv => whnf))
    refine callR (contP l ((allP (pN x)).getD k default) hx) rfl (go tbl_ok false ?_)
    conv => whnf
    refine ⟨fun hc => ?_, fun hc => ?_⟩ <;> conv => whnf
    · exact retW tbl_ok rfl rfl ⟨congrArg vb (all_of_getD h (by simpa using hc)), trivial⟩
    · (repeat (refine ⟨by first | omega | (simp only [ByteArray.size_append, bsz, List.size_toArray, List.length_cons, List.length_nil]; omega) | (show _ ∧ _; omega) | (simp only [Int.toNat_natCast]; first | omega | (show _ ∧ _; omega)) | decide, ?_⟩; conv => whnf))
      refine loopE [] (k + 1) ⟨by omega, all_take_true he h (by simpa using hc)⟩ (by omega) ⟨rfl, trivial⟩ ⟨rfl, trivial⟩ (by repeat' (first | exact trivial | exact rfl | refine ⟨?_, ?_⟩)) (by kernel_rfl) trivial (by kernel_rfl)
  · exact retW tbl_ok rfl rfl ⟨congrArg vb (by rw [take_all _ k (by omega)] at he; exact he), trivial⟩

end Go.Proofs.Ytcpjpkcahnldfaa
