/- Texts for the law FnLinesBack: WRpk2. No conditions. -/
import Derived.Test.YtcpjpkcahnldfaaGreatDoorWRpk

set_option maxRecDepth 100000
namespace Go.Proofs.YtcpjpkcahnldfaaGreatDoor
open Go.Sx
theorem specReadPick (s : ByteArray) (hs : s.size ≤ 1048576) : Meets Tryz.prog 25 [.one (vs s)] [.agg (readPickV s).c, .one (vb (readPickB s))] := by
  have hp := partsL_size s
  have hl := partsL_len s
  refine enterW tbl_ok false Tryz.func25 rfl (by decide) fun W => ?_
  conv => whnf
  repeat' (first | (refine ite_f (by first | with_reducible rfl | assumption) ?_; conv => whnf) | (refine ite_t (by first | with_reducible rfl | assumption) ?_; conv => whnf) | (refine ⟨fun h => ?_, fun h => ?_⟩ <;> conv => whnf) | (refine callR (specPartsOf s hs) rfl (go tbl_ok false ?_); conv => whnf) | (refine ⟨by first | omega | (show _ ∧ _; omega) | ((repeat (first | rw [ByteArray.size_append] | rw [bsz] | rw [List.size_toArray] | rw [List.length_cons] | rw [List.length_nil])) <;> omega) | ((repeat rw [Int.toNat_natCast]) <;> first | omega | (show _ ∧ _; omega)) | (simp only [ByteArray.size_append, bsz, List.size_toArray, List.length_cons, List.length_nil]; omega) | (simp only [Int.toNat_natCast]; first | omega | (show _ ∧ _; omega)) | decide | (simp only [beq_iff_eq, beq_eq_false_iff_ne, bne_iff_ne, bne_eq_false_iff_eq, Bool.not_eq_true', Bool.not_eq_false', Go.Sx.within_iff, Go.Sx.within_f, decide_eq_true_eq, decide_eq_false_iff_not, ne_eq, Int.not_lt, Int.not_le, ge_iff_le, gt_iff_lt, Int.toNat_zero, Int.toNat_one, Int.toNat_natCast] at * <;> first | omega | (show _ ∧ _; omega)), ?_⟩; conv => whnf) | fail)
  · have hn := readPick_no (s := s) (fun j hj c => by rw [partsB_is c.1] at h; exact absurd h (by decide))
    have hq := pick_eqs hn.1
    exact retW tbl_ok rfl rfl ⟨⟨hq.1, hq.2.1, hq.2.2, trivial⟩, congrArg vb hn.2, trivial⟩
  · have hn := readPick_no (s := s) (fun j hj c => by have := of_decide_eq_true h; have := c.2.1; omega)
    have hq := pick_eqs hn.1
    exact retW tbl_ok rfl rfl ⟨⟨hq.1, hq.2.1, hq.2.2, trivial⟩, congrArg vb hn.2, trivial⟩
  rename_i g1
  have hP : PartsP s := of_decide_eq_true (show partsB s = true by simpa using g1)
  have h2 : 2 ≤ (partsL s).length := by have := of_decide_eq_false h; omega
  have hz : ∀ j, j < 0 → ¬ PickAt s j := fun j hj => absurd hj (Nat.not_lt_zero _)
  refine loopW tbl_ok false [7] (fun k : Nat => [(6, .c (vi ((k : Int) + 1)))]) (fun k => [⟨0, [.c (vi 0), .c (vi 0), .c (vi 0)]⟩]) (fun k => [])
    (fun k => k ≤ 7 ∧ (∀ j, j < k → ¬ PickAt s j)) (fun k => 7 - k) 0 ⟨Nat.zero_le _, by first | rfl | assumption | simp⟩ ⟨by first | rfl | simp [nth, ren2, ren1, ren0], trivial⟩ (by repeat' (first | exact trivial | exact rfl | refine ⟨?_, ?_⟩)) trivial trivial (by kernel_rfl) (fun k hk => ?_)
  obtain ⟨hk, he⟩ := hk
  conv => whnf
  refine ⟨fun hk => ?_, fun hk => ?_⟩ <;> conv => whnf
  · have hk : k < 7 := by have := of_decide_eq_true hk; omega
    have ho := pickS_ok s hk
    have e1 : (k = 3 ∨ k = 4) → pickS s k = ⟨(k : Int) + 1, numAt (partsL s) 1, numAt (partsL s) 2⟩ := fun c => by rw [pickS, if_pos c]
    have e0 : ¬ (k = 3 ∨ k = 4) → pickS s k = ⟨(k : Int) + 1, numAt (partsL s) 1, 0⟩ := fun c => by rw [pickS, if_neg c]
    have i1 := pick_ok2 (s := s) hk
    have i0 := pick_ok0 (s := s) hk
    repeat' (first | (refine ite_f (by first | with_reducible rfl | assumption) ?_; conv => whnf) | (refine ite_t (by first | with_reducible rfl | assumption) ?_; conv => whnf) | (refine ⟨fun h => ?_, fun h => ?_⟩ <;> conv => whnf) | (refine callR (specNum (partsL s) 1 hp hl (by decide)) rfl (go tbl_ok false ?_); conv => whnf) | (refine callR (specNum (partsL s) 2 hp hl (by decide)) rfl (go tbl_ok false ?_); conv => whnf) | (refine callR (specPickText _ i1) rfl (go tbl_ok false ?_); conv => whnf) | (refine callR (specPickText _ i0) rfl (go tbl_ok false ?_); conv => whnf) | (refine callR (specJoin (partsL s) hp hl) rfl (go tbl_ok false ?_); conv => whnf) | (refine ⟨by first | omega | (show _ ∧ _; omega) | ((repeat (first | rw [ByteArray.size_append] | rw [bsz] | rw [List.size_toArray] | rw [List.length_cons] | rw [List.length_nil])) <;> omega) | ((repeat rw [Int.toNat_natCast]) <;> first | omega | (show _ ∧ _; omega)) | (simp only [ByteArray.size_append, bsz, List.size_toArray, List.length_cons, List.length_nil]; omega) | (simp only [Int.toNat_natCast]; first | omega | (show _ ∧ _; omega)) | decide | (simp only [beq_iff_eq, beq_eq_false_iff_ne, bne_iff_ne, bne_eq_false_iff_eq, Bool.not_eq_true', Bool.not_eq_false', Go.Sx.within_iff, Go.Sx.within_f, decide_eq_true_eq, decide_eq_false_iff_not, ne_eq, Int.not_lt, Int.not_le, ge_iff_le, gt_iff_lt, Int.toNat_zero, Int.toNat_one, Int.toNat_natCast] at * <;> first | omega | (show _ ∧ _; omega)), ?_⟩; conv => whnf) | fail)
    · have c : k = 3 ∨ k = 4 := by rename_i g; have := eq_of_beq g; omega
      have e := e1 c
      have hm : PickAt s k := ⟨hP, h2, by rw [e]; exact ba_eq h⟩
      have hn := readPick_is hk he hm
      have hq := pick_eqs (hn.1.trans e)
      first | 
      conv => whnf
      exact retW tbl_ok rfl rfl ⟨⟨hq.1, hq.2.1, hq.2.2, trivial⟩, congrArg vb hn.2, trivial⟩
    · have c : k = 3 ∨ k = 4 := by rename_i g; have := eq_of_beq g; omega
      have e := e1 c
      have hm : ¬ PickAt s k := fun d => by rw [← e, d.2.2, ba_self] at h; exact absurd h (by decide)
      (repeat (refine ⟨by first | omega | (show _ ∧ _; omega) | ((repeat (first | rw [ByteArray.size_append] | rw [bsz] | rw [List.size_toArray] | rw [List.length_cons] | rw [List.length_nil])) <;> omega) | ((repeat rw [Int.toNat_natCast]) <;> first | omega | (show _ ∧ _; omega)) | (simp only [ByteArray.size_append, bsz, List.size_toArray, List.length_cons, List.length_nil]; omega) | (simp only [Int.toNat_natCast]; first | omega | (show _ ∧ _; omega)) | decide, ?_⟩; conv => whnf))
      refine loopE [] (k + 1) ⟨by omega, upto_snoc he hm⟩ (by omega) ⟨rfl, trivial⟩ trivial (by repeat' (first | exact trivial | exact rfl | refine ⟨?_, ?_⟩)) (by kernel_rfl) trivial (by kernel_rfl)
    · have c : k = 3 ∨ k = 4 := by rename_i g; have := eq_of_beq g; omega
      have e := e1 c
      have hm : PickAt s k := ⟨hP, h2, by rw [e]; exact ba_eq h⟩
      have hn := readPick_is hk he hm
      have hq := pick_eqs (hn.1.trans e)
      first | 
      conv => whnf
      exact retW tbl_ok rfl rfl ⟨⟨hq.1, hq.2.1, hq.2.2, trivial⟩, congrArg vb hn.2, trivial⟩
    · have c : k = 3 ∨ k = 4 := by rename_i g; have := eq_of_beq g; omega
      have e := e1 c
      have hm : ¬ PickAt s k := fun d => by rw [← e, d.2.2, ba_self] at h; exact absurd h (by decide)
      (repeat (refine ⟨by first | omega | (show _ ∧ _; omega) | ((repeat (first | rw [ByteArray.size_append] | rw [bsz] | rw [List.size_toArray] | rw [List.length_cons] | rw [List.length_nil])) <;> omega) | ((repeat rw [Int.toNat_natCast]) <;> first | omega | (show _ ∧ _; omega)) | (simp only [ByteArray.size_append, bsz, List.size_toArray, List.length_cons, List.length_nil]; omega) | (simp only [Int.toNat_natCast]; first | omega | (show _ ∧ _; omega)) | decide, ?_⟩; conv => whnf))
      refine loopE [] (k + 1) ⟨by omega, upto_snoc he hm⟩ (by omega) ⟨rfl, trivial⟩ trivial (by repeat' (first | exact trivial | exact rfl | refine ⟨?_, ?_⟩)) (by kernel_rfl) trivial (by kernel_rfl)
    · have c : ¬ (k = 3 ∨ k = 4) := by rename_i g0 g; have := beq_eq_false_iff_ne.1 g0; have := beq_eq_false_iff_ne.1 g; omega
      have e := e0 c
      have hm : PickAt s k := ⟨hP, h2, by rw [e]; exact ba_eq h⟩
      have hn := readPick_is hk he hm
      have hq := pick_eqs (hn.1.trans e)
      first | 
      conv => whnf
      exact retW tbl_ok rfl rfl ⟨⟨hq.1, hq.2.1, hq.2.2, trivial⟩, congrArg vb hn.2, trivial⟩
    · have c : ¬ (k = 3 ∨ k = 4) := by rename_i g0 g; have := beq_eq_false_iff_ne.1 g0; have := beq_eq_false_iff_ne.1 g; omega
      have e := e0 c
      have hm : ¬ PickAt s k := fun d => by rw [← e, d.2.2, ba_self] at h; exact absurd h (by decide)
      (repeat (refine ⟨by first | omega | (show _ ∧ _; omega) | ((repeat (first | rw [ByteArray.size_append] | rw [bsz] | rw [List.size_toArray] | rw [List.length_cons] | rw [List.length_nil])) <;> omega) | ((repeat rw [Int.toNat_natCast]) <;> first | omega | (show _ ∧ _; omega)) | (simp only [ByteArray.size_append, bsz, List.size_toArray, List.length_cons, List.length_nil]; omega) | (simp only [Int.toNat_natCast]; first | omega | (show _ ∧ _; omega)) | decide, ?_⟩; conv => whnf))
      refine loopE [] (k + 1) ⟨by omega, upto_snoc he hm⟩ (by omega) ⟨rfl, trivial⟩ trivial (by repeat' (first | exact trivial | exact rfl | refine ⟨?_, ?_⟩)) (by kernel_rfl) trivial (by kernel_rfl)
  · have hn := readPick_no (s := s) (fun j hj c => he j (by have := of_decide_eq_false hk; omega) c)
    have hq := pick_eqs hn.1
    first | 
    conv => whnf
    exact retW tbl_ok rfl rfl ⟨⟨hq.1, hq.2.1, hq.2.2, trivial⟩, congrArg vb hn.2, trivial⟩
theorem implReadPick (s : ByteArray) (hs : s.size ≤ 1048576) : MeetsT Tryz.prog Tab 19 [.one (vs s)] [.agg (readPickV s).c, .one (vb (readPickB s))] := by
  refine enterT tbl_ok false Tryz.func19 rfl (by decide) fun W hW => ?_
  conv => whnf
  refine callRE (implNumbersOf s 1 hs (by decide)) tabStays hW rfl (fun v hv => go tbl_ok false ?_)
  conv => whnf
  repeat' (first | (refine ite_f (by first | with_reducible rfl | assumption) ?_; conv => whnf) | (refine ite_t (by first | with_reducible rfl | assumption) ?_; conv => whnf) | (refine ⟨fun h => ?_, fun h => ?_⟩ <;> conv => whnf) | (refine ⟨by first | omega | (show _ ∧ _; omega) | ((repeat (first | rw [ByteArray.size_append] | rw [bsz] | rw [List.size_toArray] | rw [List.length_cons] | rw [List.length_nil])) <;> omega) | ((repeat rw [Int.toNat_natCast]) <;> first | omega | (show _ ∧ _; omega)) | (simp only [ByteArray.size_append, bsz, List.size_toArray, List.length_cons, List.length_nil]; omega) | (simp only [Int.toNat_natCast]; first | omega | (show _ ∧ _; omega)) | decide, ?_⟩; conv => whnf) | fail)
  · have hn := readPick_no (s := s) (fun j hj c => by rw [pickAt_nums hj c] at h; exact absurd h (by decide))
    have hq := pick_eqs hn.1
    exact retW tbl_ok rfl rfl ⟨⟨hq.1, hq.2.1, hq.2.2, trivial⟩, congrArg vb hn.2, trivial⟩
  · rename_i g1
    have hok : okR s 1 = true := by simpa using g1
    have hlen : (numsR s 1).length = (partsL s).length - 1 := by rw [(okR_is hok).1, numsL_len]
    have hn := readPick_no (s := s) (fun j hj c => by have := of_decide_eq_true h; have := c.2.1; omega)
    have hq := pick_eqs hn.1
    exact retW tbl_ok rfl rfl ⟨⟨hq.1, hq.2.1, hq.2.2, trivial⟩, congrArg vb hn.2, trivial⟩
  · rename_i g1 g2
    have hok : okR s 1 = true := by simpa using g1
    have hlen : (numsR s 1).length = (partsL s).length - 1 := by rw [(okR_is hok).1, numsL_len]
    have hn := readPick_no (s := s) (fun j hj c => by have := of_decide_eq_true h; have hl := pickAt_len hj c; split at hl <;> omega)
    have hq := pick_eqs hn.1
    exact retW tbl_ok rfl rfl ⟨⟨hq.1, hq.2.1, hq.2.2, trivial⟩, congrArg vb hn.2, trivial⟩
  rename_i g1 g2
  have hok : okR s 1 = true := by simpa using g1
  have hn := (okR_is hok).1
  have ht := (okR_is hok).2
  have hP : PartsP s := by
    have h1 := hok
    rw [okR, Bool.and_eq_true, Bool.and_eq_true] at h1
    exact of_decide_eq_true h1.1.1
  have hlen : (numsR s 1).length = (partsL s).length - 1 := by rw [hn, numsL_len]
  have h2 : 2 ≤ (partsL s).length := by have := of_decide_eq_false g2; omega
  have h3 : (partsL s).length ≤ 3 := by have := of_decide_eq_false h; omega
  have hget : ∀ i, i + 1 < (partsL s).length → (numsR s 1).getD i default = numAt (partsL s) (i + 1) := fun i hi => by
    rw [hn, numAt, if_pos hi, numsL]
    simp only [List.getD_eq_getElem?_getD, List.getElem?_map, List.getElem?_drop]
    rw [Nat.add_comm 1 i, List.getElem?_eq_getElem (show i + 1 < (partsL s).length by omega)]
    rfl
  have e0 : (numsR s 1).getD (Int.toNat 0) default = numAt (partsL s) 1 := hget 0 (by omega)
  have hz : ∀ j, j < 0 → ¬ PickAt s j := fun j hj => absurd hj (Nat.not_lt_zero _)
  refine loopW tbl_ok false [9] (fun k : Nat => [(8, .c (vi ((k : Int) + 1)))]) (fun k => [⟨0, [.c (vi 0), .c (vi 0), .c (vi 0)]⟩]) (fun k => [])
    (fun k => k ≤ 7 ∧ (∀ j, j < k → ¬ PickAt s j)) (fun k => 7 - k) 0 ⟨Nat.zero_le _, by first | rfl | assumption | simp⟩ ⟨by first | rfl | simp [nth, ren2, ren1, ren0], trivial⟩ (by repeat' (first | exact trivial | exact rfl | refine ⟨?_, ?_⟩)) trivial trivial (by kernel_rfl) (fun k hk => ?_)
  obtain ⟨hk, he⟩ := hk
  conv => whnf
  refine ⟨fun hk => ?_, fun hk => ?_⟩ <;> conv => whnf
  · have hk : k < 7 := by have := of_decide_eq_true hk; omega
    have i1 := pick_ok2 (s := s) hk
    have i0 := pick_ok0 (s := s) hk
    have hi := pickI_at hk hP h2 h3
    first | 
    (repeat (refine ⟨by first | omega | (show _ ∧ _; omega) | ((repeat (first | rw [ByteArray.size_append] | rw [bsz] | rw [List.size_toArray] | rw [List.length_cons] | rw [List.length_nil])) <;> omega) | ((repeat rw [Int.toNat_natCast]) <;> first | omega | (show _ ∧ _; omega)) | (simp only [ByteArray.size_append, bsz, List.size_toArray, List.length_cons, List.length_nil]; omega) | (simp only [Int.toNat_natCast]; first | omega | (show _ ∧ _; omega)) | decide, ?_⟩; conv => whnf))
    rw [e0]
    refine ⟨fun h5 => ?_, fun h5 => ?_⟩ <;> conv => whnf
    · have h5 : (numsR s 1).length = 2 := by have := eq_of_beq h5; omega
      have e1 : (numsR s 1).getD (Int.toNat 1) default = numAt (partsL s) 2 := hget 1 (by omega)
      have ep : pickI s k = ⟨(k : Int) + 1, numAt (partsL s) 1, numAt (partsL s) 2⟩ := by rw [pickI, if_pos (by omega)]
      first | 
      (repeat (refine ⟨by first | omega | (show _ ∧ _; omega) | ((repeat (first | rw [ByteArray.size_append] | rw [bsz] | rw [List.size_toArray] | rw [List.length_cons] | rw [List.length_nil])) <;> omega) | ((repeat rw [Int.toNat_natCast]) <;> first | omega | (show _ ∧ _; omega)) | (simp only [ByteArray.size_append, bsz, List.size_toArray, List.length_cons, List.length_nil]; omega) | (simp only [Int.toNat_natCast]; first | omega | (show _ ∧ _; omega)) | decide, ?_⟩; conv => whnf))
      rw [e1]
      repeat' (first | (refine ite_f (by first | with_reducible rfl | assumption) ?_; conv => whnf) | (refine ite_t (by first | with_reducible rfl | assumption) ?_; conv => whnf) | (refine ⟨fun h => ?_, fun h => ?_⟩ <;> conv => whnf) | (refine callRT (implPickText _ i1) tabStays hW rfl (go tbl_ok false ?_); conv => whnf) | (refine ⟨by first | omega | (show _ ∧ _; omega) | ((repeat (first | rw [ByteArray.size_append] | rw [bsz] | rw [List.size_toArray] | rw [List.length_cons] | rw [List.length_nil])) <;> omega) | ((repeat rw [Int.toNat_natCast]) <;> first | omega | (show _ ∧ _; omega)) | (simp only [ByteArray.size_append, bsz, List.size_toArray, List.length_cons, List.length_nil]; omega) | (simp only [Int.toNat_natCast]; first | omega | (show _ ∧ _; omega)) | decide, ?_⟩; conv => whnf) | fail)
      · have ht2 : pickText (pickI s k) = joinB (partsL s) := by rw [ep, ← ht]; exact ba_eq h
        have hm := hi.1.1 ht2
        have hn' := readPick_is hk he hm
        have hq := pick_eqs (hn'.1.trans ((hi.2 hm).symm.trans ep))
        first | 
        conv => whnf
        exact retW tbl_ok rfl rfl ⟨⟨hq.1, hq.2.1, hq.2.2, trivial⟩, congrArg vb hn'.2, trivial⟩
      · have hm : ¬ PickAt s k := fun d => by
          have h6 := hi.1.2 d
          rw [ep, ← ht] at h6
          rw [h6, ba_self] at h
          exact absurd h (by decide)
        (repeat (refine ⟨by first | omega | (show _ ∧ _; omega) | ((repeat (first | rw [ByteArray.size_append] | rw [bsz] | rw [List.size_toArray] | rw [List.length_cons] | rw [List.length_nil])) <;> omega) | ((repeat rw [Int.toNat_natCast]) <;> first | omega | (show _ ∧ _; omega)) | (simp only [ByteArray.size_append, bsz, List.size_toArray, List.length_cons, List.length_nil]; omega) | (simp only [Int.toNat_natCast]; first | omega | (show _ ∧ _; omega)) | decide, ?_⟩; conv => whnf))
        refine loopE [] (k + 1) ⟨by omega, upto_snoc he hm⟩ (by omega) ⟨rfl, trivial⟩ trivial (by repeat' (first | exact trivial | exact rfl | refine ⟨?_, ?_⟩)) (by kernel_rfl) trivial (by kernel_rfl)
    · have h5 : (numsR s 1).length ≠ 2 := by have := beq_eq_false_iff_ne.1 h5; omega
      have ep : pickI s k = ⟨(k : Int) + 1, numAt (partsL s) 1, 0⟩ := by rw [pickI, if_neg (by omega)]
      repeat' (first | (refine ite_f (by first | with_reducible rfl | assumption) ?_; conv => whnf) | (refine ite_t (by first | with_reducible rfl | assumption) ?_; conv => whnf) | (refine ⟨fun h => ?_, fun h => ?_⟩ <;> conv => whnf) | (refine callRT (implPickText _ i0) tabStays hW rfl (go tbl_ok false ?_); conv => whnf) | (refine ⟨by first | omega | (show _ ∧ _; omega) | ((repeat (first | rw [ByteArray.size_append] | rw [bsz] | rw [List.size_toArray] | rw [List.length_cons] | rw [List.length_nil])) <;> omega) | ((repeat rw [Int.toNat_natCast]) <;> first | omega | (show _ ∧ _; omega)) | (simp only [ByteArray.size_append, bsz, List.size_toArray, List.length_cons, List.length_nil]; omega) | (simp only [Int.toNat_natCast]; first | omega | (show _ ∧ _; omega)) | decide, ?_⟩; conv => whnf) | fail)
      · have ht2 : pickText (pickI s k) = joinB (partsL s) := by rw [ep, ← ht]; exact ba_eq h
        have hm := hi.1.1 ht2
        have hn' := readPick_is hk he hm
        have hq := pick_eqs (hn'.1.trans ((hi.2 hm).symm.trans ep))
        first | 
        conv => whnf
        exact retW tbl_ok rfl rfl ⟨⟨hq.1, hq.2.1, hq.2.2, trivial⟩, congrArg vb hn'.2, trivial⟩
      · have hm : ¬ PickAt s k := fun d => by
          have h6 := hi.1.2 d
          rw [ep, ← ht] at h6
          rw [h6, ba_self] at h
          exact absurd h (by decide)
        (repeat (refine ⟨by first | omega | (show _ ∧ _; omega) | ((repeat (first | rw [ByteArray.size_append] | rw [bsz] | rw [List.size_toArray] | rw [List.length_cons] | rw [List.length_nil])) <;> omega) | ((repeat rw [Int.toNat_natCast]) <;> first | omega | (show _ ∧ _; omega)) | (simp only [ByteArray.size_append, bsz, List.size_toArray, List.length_cons, List.length_nil]; omega) | (simp only [Int.toNat_natCast]; first | omega | (show _ ∧ _; omega)) | decide, ?_⟩; conv => whnf))
        refine loopE [] (k + 1) ⟨by omega, upto_snoc he hm⟩ (by omega) ⟨rfl, trivial⟩ trivial (by repeat' (first | exact trivial | exact rfl | refine ⟨?_, ?_⟩)) (by kernel_rfl) trivial (by kernel_rfl)
  · have hn := readPick_no (s := s) (fun j hj c => he j (by have := of_decide_eq_false hk; omega) c)
    have hq := pick_eqs hn.1
    first | 
    conv => whnf
    exact retW tbl_ok rfl rfl ⟨⟨hq.1, hq.2.1, hq.2.2, trivial⟩, congrArg vb hn.2, trivial⟩

end Go.Proofs.YtcpjpkcahnldfaaGreatDoor
