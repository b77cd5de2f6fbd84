/- Texts for the law FnLinesBack: WRnd3. No conditions. -/
import Derived.Test.YtcpjpkcahnldfaaGreatDoorWRnd

set_option maxRecDepth 100000
namespace Go.Proofs.YtcpjpkcahnldfaaGreatDoor
open Go.Sx
theorem implReadNode (s : ByteArray) (hs : s.size ≤ 1048576) : MeetsT Tryz.prog Tab 13 [.one (vs s)] [.agg (readNodeV s).c, .one (vb (readNodeB s))] := by
  have hl := partsL_len s
  refine enterT tbl_ok false Tryz.func13 rfl (by decide) fun W hW => ?_
  conv => whnf
  refine callRT (implNumbersP s 2 hs (by decide)) tabStays hW rfl (go tbl_ok false ?_)
  conv => whnf
  repeat' (first | (refine ite_f (by first | with_reducible rfl | assumption) ?_; conv => whnf) | (refine ite_t (by first | with_reducible rfl | assumption) ?_; conv => whnf) | (refine ⟨fun h => ?_, fun h => ?_⟩ <;> conv => whnf) | (refine ⟨by first | omega | (show _ ∧ _; omega) | ((repeat (first | rw [ByteArray.size_append] | rw [bsz] | rw [List.size_toArray] | rw [List.length_cons] | rw [List.length_nil])) <;> omega) | ((repeat rw [Int.toNat_natCast]) <;> first | omega | (show _ ∧ _; omega)) | (simp only [ByteArray.size_append, bsz, List.size_toArray, List.length_cons, List.length_nil]; omega) | (simp only [Int.toNat_natCast]; first | omega | (show _ ∧ _; omega)) | decide | (simp only [beq_iff_eq, beq_eq_false_iff_ne, bne_iff_ne, bne_eq_false_iff_eq, Bool.not_eq_true', Bool.not_eq_false', Go.Sx.within_iff, Go.Sx.within_f, decide_eq_true_eq, decide_eq_false_iff_not, ne_eq, Int.not_lt, Int.not_le, ge_iff_le, gt_iff_lt, Int.toNat_zero, Int.toNat_one, Int.toNat_natCast] at * <;> first | omega | (show _ ∧ _; omega)), ?_⟩; conv => whnf) | (refine drawI 7 rfl [0, 1, 2, 3, 4, 5, 6, 7, 8, 9, 10, 11] (by kernel_rfl) (go tbl_ok false ?_); conv => whnf) | (refine drawI 8 rfl [0, 2, 3, 4, 1, 5, 6, 7, 8, 9, 10, 11, 13, 12, 14, 15] (by kernel_rfl) (go tbl_ok false ?_); conv => whnf) | fail)
  · obtain ⟨hv, hb⟩ := readNode_not (s := s) (fun c => by
      rw [okR, partsB_is c.1, readNode_nums c, decide_eq_true (show 2 ≤ (partsL s).length by have := c.2.1; omega)] at h
      exact absurd h (by decide))
    rw [hv, hb]
    exact retW tbl_ok rfl rfl ⟨⟨rfl, rfl, rfl, .inr ⟨rfl, rfl, _, _, rfl⟩, trivial⟩, rfl, trivial⟩
  · rename_i g1
    have hok : okR s 2 = true := by simpa using g1
    have hlen : (numsR s 2).length = (partsL s).length - 2 := by rw [(okR_is hok).1, numsL_len]
    obtain ⟨hv, hb⟩ := readNode_not (s := s) (fun c => by have := of_decide_eq_true h; have := c.2.1; omega)
    rw [hv, hb]
    exact retW tbl_ok rfl rfl ⟨⟨rfl, rfl, rfl, .inr ⟨rfl, rfl, _, _, rfl⟩, trivial⟩, rfl, trivial⟩
  rename_i g1
  have hok : okR s 2 = true := by simpa using g1
  have hn := (okR_is hok).1
  have ht := (okR_is hok).2
  have hpr := partsR_is hok
  have hP : PartsP s := by
    have h1 := hok
    rw [okR, Bool.and_eq_true, Bool.and_eq_true] at h1
    exact of_decide_eq_true h1.1.1
  have hlen : (numsR s 2).length = (partsL s).length - 2 := by rw [hn, numsL_len]
  have h4 : 4 ≤ (partsL s).length := by have := of_decide_eq_false h; omega
  have hget : ∀ i, i + 2 < (partsL s).length → (numsR s 2).getD i default = numAt (partsL s) (i + 2) := fun i hi => by
    rw [hn, numAt, if_pos hi, numsL]
    simp only [List.getD_eq_getElem?_getD, List.getElem?_map, List.getElem?_drop]
    rw [Nat.add_comm 2 i, List.getElem?_eq_getElem (show i + 2 < (partsL s).length by omega)]
    rfl
  have e0 : (numsR s 2).getD (Int.toNat 0) default = numAt (partsL s) 2 := hget 0 (by omega)
  have e1 : (numsR s 2).getD (Int.toNat 1) default = numAt (partsL s) 3 := hget 1 (by omega)
  have hdrop : (numsR s 2).drop 2 = numsL (partsL s) 4 := by rw [hn, numsL, numsL, ← List.map_drop, List.drop_drop]
  have hsub : SubOk (numsR s 2).length 1 (fun i => [vi ((numsR s 2).getD i default)]) 2 ((numsR s 2).length : Int) (sInt (numsL (partsL s) 4)) := by
    have h := slC_sub (es := 1) (e := fun b => [vi b]) (xs := numsR s 2) (l := 2) (h := ((numsR s 2).length : Int)) (by omega) (by omega) (by omega)
    rwa [show (2 : Int).toNat = 2 from rfl, List.take_of_length_le (by rw [List.length_drop]; omega), hdrop] at h
  have hpl : (partsR s 2).length = (partsL s).length := by rw [hpr]
  have hp1 : (partsR s 2).getD (Int.toNat 1) default = (partsL s).getD 1 default := by rw [hpr]; rfl
  have hz : ReadNodeP s → ∀ j : Nat, j < 0 → kindName ((j : Int) + 1) ≠ (partsL s).getD 1 default := fun _ j hj => absurd hj (Nat.not_lt_zero _)
  refine loopW tbl_ok false [9] (fun k : Nat => [(8, .c (vi ((k : Int) + 1)))]) (fun k => [⟨0, [.c (vi 0), .c (vi 0), .c (vi 0), .v (.slice none 0 0)]⟩]) (fun k => [])
    (fun k => k ≤ 8 ∧ (ReadNodeP s → ∀ j : Nat, j < k → kindName ((j : Int) + 1) ≠ (partsL s).getD 1 default)) (fun k => 8 - k) 0 ⟨Nat.zero_le _, by first | rfl | assumption | simp⟩ ⟨by first | rfl | simp [nth, ren2, ren1, ren0], trivial⟩ (by repeat' (first | exact trivial | exact rfl | refine ⟨?_, ?_⟩)) trivial trivial (by kernel_rfl) (fun k hk => ?_)
  obtain ⟨hk, he⟩ := hk
  conv => whnf
  refine ⟨fun hk => ?_, fun hk => ?_⟩ <;> conv => whnf
  · have hk : k < 8 := by have := of_decide_eq_true hk; omega
    have ox := node_ok s ((k : Int) + 1) (by omega)
    have hx : (⟨(k : Int) + 1, numAt (partsL s) 2, numAt (partsL s) 3, numsL (partsL s) 4⟩ : GNode).w ≤ 1048576 := by have := readNode_len s 4; show (numsL (partsL s) 4).length ≤ 1048576; omega
    repeat' (first | (refine ite_f (by first | with_reducible rfl | assumption) ?_; conv => whnf) | (refine ite_t (by first | with_reducible rfl | assumption) ?_; conv => whnf) | (refine ⟨fun h => ?_, fun h => ?_⟩ <;> conv => whnf) | (refine ⟨by first | omega | (show _ ∧ _; omega) | ((repeat (first | rw [ByteArray.size_append] | rw [bsz] | rw [List.size_toArray] | rw [List.length_cons] | rw [List.length_nil])) <;> omega) | ((repeat rw [Int.toNat_natCast]) <;> first | omega | (show _ ∧ _; omega)) | (simp only [ByteArray.size_append, bsz, List.size_toArray, List.length_cons, List.length_nil]; omega) | (simp only [Int.toNat_natCast]; first | omega | (show _ ∧ _; omega)) | decide | (simp only [beq_iff_eq, beq_eq_false_iff_ne, bne_iff_ne, bne_eq_false_iff_eq, Bool.not_eq_true', Bool.not_eq_false', Go.Sx.within_iff, Go.Sx.within_f, decide_eq_true_eq, decide_eq_false_iff_not, ne_eq, Int.not_lt, Int.not_le, ge_iff_le, gt_iff_lt, Int.toNat_zero, Int.toNat_one, Int.toNat_natCast] at * <;> first | omega | (show _ ∧ _; omega)), ?_⟩; conv => whnf) | (refine drawI 7 rfl [0, 1, 2, 3, 4, 5, 6, 7, 8, 9, 10, 11] (by kernel_rfl) (go tbl_ok false ?_); conv => whnf) | (refine drawI 8 rfl [0, 2, 3, 4, 1, 5, 6, 7, 8, 9, 10, 11, 13, 12, 14, 15] (by kernel_rfl) (go tbl_ok false ?_); conv => whnf) | fail)
    rw [e0, e1]
    refine sliceW tbl_ok rfl rfl rfl rfl rfl rfl rfl rfl rfl ⟨by omega, by omega, by omega⟩ (sInt (numsL (partsL s) 4)) hsub (go tbl_ok false ?_)
    conv => whnf
    repeat' (first | (refine ite_f (by first | with_reducible rfl | assumption) ?_; conv => whnf) | (refine ite_t (by first | with_reducible rfl | assumption) ?_; conv => whnf) | (refine ⟨fun h => ?_, fun h => ?_⟩ <;> conv => whnf) | (refine callR (implKindName ((k : Int) + 1)) rfl (go tbl_ok false ?_); conv => whnf) | (refine callR (implNodeOk _ hx) rfl (go tbl_ok false ?_); conv => whnf) | (refine callRT (implNodeLine _ ox hx) tabStays hW rfl (go tbl_ok false ?_); conv => whnf) | (refine callW (copyNode _ hx) rfl (go tbl_ok false ?_); conv => whnf) | (refine ⟨by first | omega | (show _ ∧ _; omega) | ((repeat (first | rw [ByteArray.size_append] | rw [bsz] | rw [List.size_toArray] | rw [List.length_cons] | rw [List.length_nil])) <;> omega) | ((repeat rw [Int.toNat_natCast]) <;> first | omega | (show _ ∧ _; omega)) | (simp only [ByteArray.size_append, bsz, List.size_toArray, List.length_cons, List.length_nil]; omega) | (simp only [Int.toNat_natCast]; first | omega | (show _ ∧ _; omega)) | decide | (simp only [beq_iff_eq, beq_eq_false_iff_ne, bne_iff_ne, bne_eq_false_iff_eq, Bool.not_eq_true', Bool.not_eq_false', Go.Sx.within_iff, Go.Sx.within_f, decide_eq_true_eq, decide_eq_false_iff_not, ne_eq, Int.not_lt, Int.not_le, ge_iff_le, gt_iff_lt, Int.toNat_zero, Int.toNat_one, Int.toNat_natCast] at * <;> first | omega | (show _ ∧ _; omega)), ?_⟩; conv => whnf) | (refine drawI 7 rfl [0, 1, 2, 3, 4, 5, 6, 7, 8, 9, 10, 11] (by kernel_rfl) (go tbl_ok false ?_); conv => whnf) | (refine drawI 8 rfl [0, 2, 3, 4, 1, 5, 6, 7, 8, 9, 10, 11, 13, 12, 14, 15] (by kernel_rfl) (go tbl_ok false ?_); conv => whnf) | fail)
    · rename_i g2 g3
      have hkn : kindName ((k : Int) + 1) = (partsL s).getD 1 default := (ba_eq g2).trans hp1
      have hy := readNode_yes hk hkn
      have hN : NodeP (nodeS s) := by rw [hy]; exact of_decide_eq_true g3
      have hj : nodeLine (nodeS s) = joinB (partsL s) := by rw [hy, ← ht]; exact ba_eq h
      obtain ⟨hv, hb⟩ := readNode_is (s := s) ⟨hP, h4, hN, hj⟩
      rw [hv, hb, hy]
      exact retW tbl_ok rfl rfl ⟨⟨rfl, rfl, rfl, rfl, trivial⟩, rfl, trivial⟩
    · have hnext : ReadNodeP s → ∀ j : Nat, j < k + 1 → kindName ((j : Int) + 1) ≠ (partsL s).getD 1 default := fun c => kind_snoc (he c) fun hkn => by
        have hc := c.2.2.2
        rw [readNode_yes hk hkn, ← ht] at hc
        rw [hc, ba_self] at h
        exact absurd h (by decide)
      refine loopE [] (k + 1) ⟨by omega, hnext⟩ (by omega) ⟨rfl, trivial⟩ trivial (by repeat' (first | exact trivial | exact rfl | refine ⟨?_, ?_⟩)) (by kernel_rfl) trivial (by kernel_rfl)
    · have hnext : ReadNodeP s → ∀ j : Nat, j < k + 1 → kindName ((j : Int) + 1) ≠ (partsL s).getD 1 default := fun c => kind_snoc (he c) fun hkn => by
        have hc := c.2.2.1
        rw [readNode_yes hk hkn] at hc
        exact absurd hc (of_decide_eq_false h)
      refine loopE [] (k + 1) ⟨by omega, hnext⟩ (by omega) ⟨rfl, trivial⟩ trivial (by repeat' (first | exact trivial | exact rfl | refine ⟨?_, ?_⟩)) (by kernel_rfl) trivial (by kernel_rfl)
    · have hnext : ReadNodeP s → ∀ j : Nat, j < k + 1 → kindName ((j : Int) + 1) ≠ (partsL s).getD 1 default := fun c => kind_snoc (he c) fun hkn => by
        rw [hkn, ← hp1, ba_self] at h
        exact absurd h (by decide)
      refine loopE [] (k + 1) ⟨by omega, hnext⟩ (by omega) ⟨rfl, trivial⟩ trivial (by repeat' (first | exact trivial | exact rfl | refine ⟨?_, ?_⟩)) (by kernel_rfl) trivial (by kernel_rfl)
  · have hk : k = 8 := by have := of_decide_eq_false hk; omega
    obtain ⟨hv, hb⟩ := readNode_not (s := s) (fun c => by
      obtain ⟨j, hj, hn⟩ := readNode_kind c
      exact he c j (by omega) hn)
    rw [hv, hb]
    exact retW tbl_ok rfl rfl ⟨⟨rfl, rfl, rfl, .inr ⟨rfl, rfl, _, _, rfl⟩, trivial⟩, rfl, trivial⟩

end Go.Proofs.YtcpjpkcahnldfaaGreatDoor
