/- Texts for the law FnLinesBack: WRin. No conditions. -/
import Derived.Test.YtcpjpkcahnldfaaGreatDoorWNumI
import Derived.Test.YtcpjpkcahnldfaaGreatDoorWInp

set_option maxRecDepth 100000
namespace Go.Proofs.YtcpjpkcahnldfaaGreatDoor
open Go.Sx
def readInR (s : ByteArray) : GRecord := ⟨0, ⟨numAt (partsL s) 1, 0⟩, numAt (partsL s) 2, numAt (partsL s) 3⟩
def ReadInP (s : ByteArray) : Prop := PartsP s ∧ (partsL s).length = 4 ∧ RecP (readInR s) ∧ inputLine (readInR s) = joinB (partsL s)
instance (s : ByteArray) : Decidable (ReadInP s) := by unfold ReadInP; infer_instance
def readInV (s : ByteArray) : GRecord := if ReadInP s then readInR s else default
def readInB (s : ByteArray) : Bool := decide (ReadInP s)

theorem inputLine_join {r : GRecord} (h : RecP r ∧ r.op = 0 ∧ r.stamp.turn = 0) : inputLine r = joinB [(⟨#[112, 117, 116]⟩ : ByteArray), dec r.stamp.epoch, dec r.key, dec r.val] := by
  rw [inputLine, if_pos h]
  apply ByteArray.ext
  apply Array.toList_inj.1
  simp [joinB, join2, Lib.join_one, ByteArray.data_append]
theorem inputLine_ne {r : GRecord} (h : RecP r ∧ r.op = 0 ∧ r.stamp.turn = 0) : inputLine r ≠ (⟨#[]⟩ : ByteArray) := by
  intro e
  rw [inputLine, if_pos h] at e
  have := congrArg ByteArray.size e
  simp only [ByteArray.size_append, bsz, List.size_toArray, List.length_cons, List.length_nil] at this
  omega
theorem inputLine_nil {r : GRecord} (h : ¬ (RecP r ∧ r.op = 0 ∧ r.stamp.turn = 0)) : inputLine r = (⟨#[]⟩ : ByteArray) := by
  rw [inputLine, if_neg h]
theorem readIn_nums {s : ByteArray} (h : ReadInP s) : numsB (partsL s) 1 = true := by
  obtain ⟨h1, h2, h3, h4⟩ := h
  rw [inputLine_join ⟨h3, rfl, rfl⟩] at h4
  have r1 := numAt_range (partsL s) 1
  have r2 := numAt_range (partsL s) 2
  have r3 := numAt_range (partsL s) 3
  have hp : partsL s ≠ [] := fun e => by rw [e] at h2; cases h2
  have e := joinB_inj (by simp) hp (fun x hx => by
    simp only [List.mem_cons, List.not_mem_nil, or_false] at hx
    rcases hx with rfl | rfl | rfl | rfl
    · show (32 : UInt8) ∉ _; decide
    · exact dec_noI r1.1
    · exact dec_noI r2.1
    · exact dec_noI r3.1) (partsL_no s) h4
  rw [← e]
  simp only [numsB, List.drop_succ_cons, List.drop_zero, List.all_cons, List.all_nil, Bool.and_true, Bool.and_eq_true]
  exact ⟨rdB_decI r1, rdB_decI r2, rdB_decI r3⟩

theorem readInR_ok (s : ByteArray) : (readInR s).ok := by
  have r1 := numAt_range (partsL s) 1
  have r2 := numAt_range (partsL s) 2
  have r3 := numAt_range (partsL s) 3
  refine ⟨?_, ⟨?_, ?_⟩, ?_, ?_⟩ <;> (show _ ∧ _; simp only [readInR]; omega)
theorem readIn_not {s : ByteArray} (h : ¬ ReadInP s) : readInV s = default ∧ readInB s = false := ⟨if_neg h, decide_eq_false h⟩
theorem readIn_is {s : ByteArray} (h : ReadInP s) : readInV s = readInR s ∧ readInB s = true := ⟨if_pos h, decide_eq_true h⟩
theorem specReadInput (s : ByteArray) (hs : s.size ≤ 1048576) : Meets Tryz.prog 23 [.one (vs s)] [.agg (readInV s).c, .one (vb (readInB s))] := by
  have hp := partsL_size s
  have hl := partsL_len s
  have ho := readInR_ok s
  refine enterW tbl_ok false Tryz.func23 rfl (by decide) fun W => ?_
  conv => whnf
  repeat' (first | (refine ite_f (by first | with_reducible rfl | assumption) ?_; conv => whnf) | (refine ite_t (by first | with_reducible rfl | assumption) ?_; conv => whnf) | (refine ⟨fun h => ?_, fun h => ?_⟩ <;> conv => whnf) | (refine callR (specPartsOf s hs) rfl (go tbl_ok false ?_); conv => whnf) | (refine callR (specNum (partsL s) 1 hp hl (by decide)) rfl (go tbl_ok false ?_); conv => whnf) | (refine callR (specNum (partsL s) 2 hp hl (by decide)) rfl (go tbl_ok false ?_); conv => whnf) | (refine callR (specNum (partsL s) 3 hp hl (by decide)) rfl (go tbl_ok false ?_); conv => whnf) | (refine callR (specInputLine (readInR s) ho) rfl (go tbl_ok false ?_); conv => whnf) | (refine callR (specJoin (partsL s) hp hl) rfl (go tbl_ok false ?_); conv => whnf) | (refine ⟨by first | omega | (show _ ∧ _; omega) | ((repeat (first | rw [ByteArray.size_append] | rw [bsz] | rw [List.size_toArray] | rw [List.length_cons] | rw [List.length_nil])) <;> omega) | ((repeat rw [Int.toNat_natCast]) <;> first | omega | (show _ ∧ _; omega)) | (simp only [ByteArray.size_append, bsz, List.size_toArray, List.length_cons, List.length_nil]; omega) | (simp only [Int.toNat_natCast]; first | omega | (show _ ∧ _; omega)) | decide | (simp only [beq_iff_eq, beq_eq_false_iff_ne, bne_iff_ne, bne_eq_false_iff_eq, Bool.not_eq_true', Bool.not_eq_false', Go.Sx.within_iff, Go.Sx.within_f, decide_eq_true_eq, decide_eq_false_iff_not, ne_eq, Int.not_lt, Int.not_le, ge_iff_le, gt_iff_lt, Int.toNat_zero, Int.toNat_one, Int.toNat_natCast] at * <;> first | omega | (show _ ∧ _; omega)), ?_⟩; conv => whnf) | fail)
  · obtain ⟨hv', hb'⟩ := readIn_not (s := s) (fun c => by rw [partsB_is c.1] at h; exact absurd h (by decide))
    exact retW tbl_ok rfl rfl ⟨⟨congrArg (fun r : GRecord => vi r.op) hv', congrArg (fun r : GRecord => vi r.stamp.epoch) hv', congrArg (fun r : GRecord => vi r.stamp.turn) hv', congrArg (fun r : GRecord => vi r.key) hv', congrArg (fun r : GRecord => vi r.val) hv', trivial⟩, congrArg vb hb', trivial⟩
  · obtain ⟨hv', hb'⟩ := readIn_not (s := s) (fun c => by have := bne_iff_ne.1 h; have := c.2.1; omega)
    exact retW tbl_ok rfl rfl ⟨⟨congrArg (fun r : GRecord => vi r.op) hv', congrArg (fun r : GRecord => vi r.stamp.epoch) hv', congrArg (fun r : GRecord => vi r.stamp.turn) hv', congrArg (fun r : GRecord => vi r.key) hv', congrArg (fun r : GRecord => vi r.val) hv', trivial⟩, congrArg vb hb', trivial⟩
  · obtain ⟨hv', hb'⟩ := readIn_not (s := s) (fun c => inputLine_ne ⟨c.2.2.1, rfl, rfl⟩ (ba_eq h))
    exact retW tbl_ok rfl rfl ⟨⟨congrArg (fun r : GRecord => vi r.op) hv', congrArg (fun r : GRecord => vi r.stamp.epoch) hv', congrArg (fun r : GRecord => vi r.stamp.turn) hv', congrArg (fun r : GRecord => vi r.key) hv', congrArg (fun r : GRecord => vi r.val) hv', trivial⟩, congrArg vb hb', trivial⟩
  · obtain ⟨hv', hb'⟩ := readIn_not (s := s) (fun c => by rw [c.2.2.2, ba_self] at h; exact absurd h (by decide))
    exact retW tbl_ok rfl rfl ⟨⟨congrArg (fun r : GRecord => vi r.op) hv', congrArg (fun r : GRecord => vi r.stamp.epoch) hv', congrArg (fun r : GRecord => vi r.stamp.turn) hv', congrArg (fun r : GRecord => vi r.key) hv', congrArg (fun r : GRecord => vi r.val) hv', trivial⟩, congrArg vb hb', trivial⟩
  · rename_i g1 g2 g3
    have hP : PartsP s := of_decide_eq_true (show partsB s = true by simpa using g1)
    have h4 : (partsL s).length = 4 := by have := bne_eq_false_iff_eq.1 g2; omega
    have hR : RecP (readInR s) := by
      by_cases c : RecP (readInR s)
      · exact c
      · exfalso
        rw [inputLine_nil (fun d => c d.1), ba_self] at g3
        exact absurd g3 (by decide)
    have hj : inputLine (readInR s) = joinB (partsL s) := ba_eq (by simpa using h)
    obtain ⟨hv', hb'⟩ := readIn_is (s := s) ⟨hP, h4, hR, hj⟩
    exact retW tbl_ok rfl rfl ⟨⟨congrArg (fun r : GRecord => vi r.op) hv', congrArg (fun r : GRecord => vi r.stamp.epoch) hv', congrArg (fun r : GRecord => vi r.stamp.turn) hv', congrArg (fun r : GRecord => vi r.key) hv', congrArg (fun r : GRecord => vi r.val) hv', trivial⟩, congrArg vb hb', trivial⟩
theorem implReadInput (s : ByteArray) (hs : s.size ≤ 1048576) : MeetsT Tryz.prog Tab 16 [.one (vs s)] [.agg (readInV s).c, .one (vb (readInB s))] := by
  have ho := readInR_ok s
  refine enterT tbl_ok false Tryz.func16 rfl (by decide) fun W hW => ?_
  conv => whnf
  refine callRE (implNumbersOf s 1 hs (by decide)) tabStays hW rfl (fun v hv => go tbl_ok false ?_)
  conv => whnf
  have hyes : ReadInP s → okR s 1 = true := fun c => by
    rw [okR, partsB_is c.1, readIn_nums c, decide_eq_true (show 1 ≤ (partsL s).length by have := c.2.1; omega)]; rfl
  repeat' (first | (refine ite_f (by first | with_reducible rfl | assumption) ?_; conv => whnf) | (refine ite_t (by first | with_reducible rfl | assumption) ?_; conv => whnf) | (refine ⟨fun h => ?_, fun h => ?_⟩ <;> conv => whnf) | (refine ⟨by first | omega | (show _ ∧ _; omega) | ((repeat (first | rw [ByteArray.size_append] | rw [bsz] | rw [List.size_toArray] | rw [List.length_cons] | rw [List.length_nil])) <;> omega) | ((repeat rw [Int.toNat_natCast]) <;> first | omega | (show _ ∧ _; omega)) | (simp only [ByteArray.size_append, bsz, List.size_toArray, List.length_cons, List.length_nil]; omega) | (simp only [Int.toNat_natCast]; first | omega | (show _ ∧ _; omega)) | decide, ?_⟩; conv => whnf) | fail)
  · obtain ⟨hv', hb'⟩ := readIn_not (s := s) (fun c => by rw [hyes c] at h; exact absurd h (by decide))
    exact retW tbl_ok rfl rfl ⟨⟨congrArg (fun r : GRecord => vi r.op) hv', congrArg (fun r : GRecord => vi r.stamp.epoch) hv', congrArg (fun r : GRecord => vi r.stamp.turn) hv', congrArg (fun r : GRecord => vi r.key) hv', congrArg (fun r : GRecord => vi r.val) hv', trivial⟩, congrArg vb hb', trivial⟩
  · rename_i g1
    have hok : okR s 1 = true := by simpa using g1
    have hn := (okR_is hok).1
    have ht := (okR_is hok).2
    have hP : PartsP s := by
      have h1 := hok
      rw [okR, Bool.and_eq_true, Bool.and_eq_true] at h1
      exact of_decide_eq_true h1.1.1
    have hlen : (numsR s 1).length = (partsL s).length - 1 := by rw [hn, numsL_len]
    obtain ⟨hv', hb'⟩ := readIn_not (s := s) (fun c => by have := bne_iff_ne.1 h; have := c.2.1; omega)
    exact retW tbl_ok rfl rfl ⟨⟨congrArg (fun r : GRecord => vi r.op) hv', congrArg (fun r : GRecord => vi r.stamp.epoch) hv', congrArg (fun r : GRecord => vi r.stamp.turn) hv', congrArg (fun r : GRecord => vi r.key) hv', congrArg (fun r : GRecord => vi r.val) hv', trivial⟩, congrArg vb hb', trivial⟩
  rename_i g1
  have hok : okR s 1 = true := by simpa using g1
  have hn := (okR_is hok).1
  have ht := (okR_is hok).2
  have hP : PartsP s := by
    have h1 := hok
    rw [okR, Bool.and_eq_true, Bool.and_eq_true] at h1
    exact of_decide_eq_true h1.1.1
  have hlen : (numsR s 1).length = (partsL s).length - 1 := by rw [hn, numsL_len]
  have h3 : (numsR s 1).length = 3 := by have := bne_eq_false_iff_eq.1 h; omega
  have h4 : (partsL s).length = 4 := by omega
  have hget : ∀ i, i < 3 → (numsR s 1).getD i default = numAt (partsL s) (i + 1) := fun i hi => by
    rw [hn, numAt, if_pos (by omega), numsL]
    simp only [List.getD_eq_getElem?_getD, List.getElem?_map, List.getElem?_drop]
    rw [Nat.add_comm 1 i, List.getElem?_eq_getElem (show i + 1 < (partsL s).length by omega)]
    rfl
  have e0 : (numsR s 1).getD (Int.toNat 0) default = numAt (partsL s) 1 := hget 0 (by decide)
  have e1 : (numsR s 1).getD (Int.toNat 1) default = numAt (partsL s) 2 := hget 1 (by decide)
  have e2 : (numsR s 1).getD (Int.toNat 2) default = numAt (partsL s) 3 := hget 2 (by decide)
  first | (refine drawI 4 rfl [0, 1, 2, 3, 4, 5, 6, 7, 8, 9, 10, 11, 12] (by kernel_rfl) (go tbl_ok false ?_); conv => whnf)
  (repeat (refine ⟨by first | omega | (show _ ∧ _; omega) | ((repeat (first | rw [ByteArray.size_append] | rw [bsz] | rw [List.size_toArray] | rw [List.length_cons] | rw [List.length_nil])) <;> omega) | ((repeat rw [Int.toNat_natCast]) <;> first | omega | (show _ ∧ _; omega)) | (simp only [ByteArray.size_append, bsz, List.size_toArray, List.length_cons, List.length_nil]; omega) | (simp only [Int.toNat_natCast]; first | omega | (show _ ∧ _; omega)) | decide, ?_⟩; conv => whnf))
  rw [e0, e1, e2]
  refine callR (implRecordOk (readInR s)) rfl (go tbl_ok false ?_)
  conv => whnf
  repeat' (first | (refine ite_f (by first | with_reducible rfl | assumption) ?_; conv => whnf) | (refine ite_t (by first | with_reducible rfl | assumption) ?_; conv => whnf) | (refine ⟨fun h => ?_, fun h => ?_⟩ <;> conv => whnf) | (refine callRT (implInputLine (readInR s) ho) tabStays hW rfl (go tbl_ok false ?_); conv => whnf) | (refine ⟨by first | omega | (show _ ∧ _; omega) | ((repeat (first | rw [ByteArray.size_append] | rw [bsz] | rw [List.size_toArray] | rw [List.length_cons] | rw [List.length_nil])) <;> omega) | ((repeat rw [Int.toNat_natCast]) <;> first | omega | (show _ ∧ _; omega)) | (simp only [ByteArray.size_append, bsz, List.size_toArray, List.length_cons, List.length_nil]; omega) | (simp only [Int.toNat_natCast]; first | omega | (show _ ∧ _; omega)) | decide, ?_⟩; conv => whnf) | fail)
  · obtain ⟨hv', hb'⟩ := readIn_not (s := s) (fun c => by rw [show recordOk (readInR s) = true from decide_eq_true c.2.2.1] at h; exact absurd h (by decide))
    exact retW tbl_ok rfl rfl ⟨⟨congrArg (fun r : GRecord => vi r.op) hv', congrArg (fun r : GRecord => vi r.stamp.epoch) hv', congrArg (fun r : GRecord => vi r.stamp.turn) hv', congrArg (fun r : GRecord => vi r.key) hv', congrArg (fun r : GRecord => vi r.val) hv', trivial⟩, congrArg vb hb', trivial⟩
  · obtain ⟨hv', hb'⟩ := readIn_not (s := s) (fun c => by rw [ht, c.2.2.2, ba_self] at h; exact absurd h (by decide))
    exact retW tbl_ok rfl rfl ⟨⟨congrArg (fun r : GRecord => vi r.op) hv', congrArg (fun r : GRecord => vi r.stamp.epoch) hv', congrArg (fun r : GRecord => vi r.stamp.turn) hv', congrArg (fun r : GRecord => vi r.key) hv', congrArg (fun r : GRecord => vi r.val) hv', trivial⟩, congrArg vb hb', trivial⟩
  · rename_i g2
    have hR : RecP (readInR s) := of_decide_eq_true (show recordOk (readInR s) = true by simpa using g2)
    have hj : inputLine (readInR s) = joinB (partsL s) := by rw [← ht]; exact ba_eq (by simpa using h)
    obtain ⟨hv', hb'⟩ := readIn_is (s := s) ⟨hP, h4, hR, hj⟩
    exact retW tbl_ok rfl rfl ⟨⟨congrArg (fun r : GRecord => vi r.op) hv', congrArg (fun r : GRecord => vi r.stamp.epoch) hv', congrArg (fun r : GRecord => vi r.stamp.turn) hv', congrArg (fun r : GRecord => vi r.key) hv', congrArg (fun r : GRecord => vi r.val) hv', trivial⟩, congrArg vb hb', trivial⟩

end Go.Proofs.YtcpjpkcahnldfaaGreatDoor
