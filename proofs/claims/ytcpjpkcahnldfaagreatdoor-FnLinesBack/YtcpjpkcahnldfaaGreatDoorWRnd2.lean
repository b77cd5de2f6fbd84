/- Texts for the law FnLinesBack: WRnd2. No conditions. -/
import Derived.Test.YtcpjpkcahnldfaaGreatDoorWRnd

set_option maxRecDepth 100000
namespace Go.Proofs.YtcpjpkcahnldfaaGreatDoor
open Go.Sx
theorem specReadNode (s : ByteArray) (hs : s.size ≤ 1048576) : Meets Tryz.prog 21 [.one (vs s)] [.agg (readNodeV s).c, .one (vb (readNodeB s))] := by
  have hp := partsL_size s
  have hl := partsL_len s
  refine enterW tbl_ok false Tryz.func21 rfl (by decide) fun W => ?_
  conv => whnf
  repeat' (first | (refine ite_f (by first | with_reducible rfl | assumption) ?_; conv => whnf) | (refine ite_t (by first | with_reducible rfl | assumption) ?_; conv => whnf) | (refine ⟨fun h => ?_, fun h => ?_⟩ <;> conv => whnf) | (refine callR (specPartsOf s hs) rfl (go tbl_ok false ?_); conv => whnf) | (refine callR (specNum (partsL s) 2 hp hl (by decide)) rfl (go tbl_ok false ?_); conv => whnf) | (refine callR (specNum (partsL s) 3 hp hl (by decide)) rfl (go tbl_ok false ?_); conv => whnf) | (refine ⟨by first | omega | (show _ ∧ _; omega) | ((repeat (first | rw [ByteArray.size_append] | rw [bsz] | rw [List.size_toArray] | rw [List.length_cons] | rw [List.length_nil])) <;> omega) | ((repeat rw [Int.toNat_natCast]) <;> first | omega | (show _ ∧ _; omega)) | (simp only [ByteArray.size_append, bsz, List.size_toArray, List.length_cons, List.length_nil]; omega) | (simp only [Int.toNat_natCast]; first | omega | (show _ ∧ _; omega)) | decide | (simp only [beq_iff_eq, beq_eq_false_iff_ne, bne_iff_ne, bne_eq_false_iff_eq, Bool.not_eq_true', Bool.not_eq_false', Go.Sx.within_iff, Go.Sx.within_f, decide_eq_true_eq, decide_eq_false_iff_not, ne_eq, Int.not_lt, Int.not_le, ge_iff_le, gt_iff_lt, Int.toNat_zero, Int.toNat_one, Int.toNat_natCast] at * <;> first | omega | (show _ ∧ _; omega)), ?_⟩; conv => whnf) | (refine drawI 8 rfl [0, 2, 3, 4, 1, 5] (by kernel_rfl) (go tbl_ok false ?_); conv => whnf) | (refine drawI 13 rfl [0, 1, 2, 3, 4, 5, 6, 7, 8] (by kernel_rfl) (go tbl_ok false ?_); conv => whnf) | fail)
  · obtain ⟨hv, hb⟩ := readNode_not (s := s) (fun c => by rw [partsB_is c.1] at h; exact absurd h (by decide))
    rw [hv, hb]
    exact retW tbl_ok rfl rfl ⟨⟨rfl, rfl, rfl, .inr ⟨rfl, rfl, _, _, rfl⟩, trivial⟩, rfl, trivial⟩
  · obtain ⟨hv, hb⟩ := readNode_not (s := s) (fun c => by have := of_decide_eq_true h; have := c.2.1; omega)
    rw [hv, hb]
    exact retW tbl_ok rfl rfl ⟨⟨rfl, rfl, rfl, .inr ⟨rfl, rfl, _, _, rfl⟩, trivial⟩, rfl, trivial⟩
  rename_i g1
  have hP : PartsP s := of_decide_eq_true (show partsB s = true by simpa using g1)
  have h4 : 4 ≤ (partsL s).length := by have := of_decide_eq_false h; omega
  refine loopW tbl_ok false [] (fun k : Nat => [(7, .c (vi ((k : Int) + 1)))]) (fun k => [⟨0, [.c (vi 0), .c (vi 0), .c (vi 0), .v (.slice none 0 0)]⟩, ⟨1, [.c (vi (lastK ((partsL s).getD 1 default) k)), .c (vi (numAt (partsL s) 2)), .c (vi (numAt (partsL s) 3)), .v (.slice none 0 0)]⟩]) (fun k => [])
    (fun k => k ≤ 8) (fun k => 8 - k) 0 (Nat.zero_le _) ⟨by first | rfl | simp [nth, ren2, ren1, ren0], trivial⟩ (by repeat' (first | exact trivial | exact rfl | refine ⟨?_, ?_⟩)) trivial trivial (by kernel_rfl) (fun k hk => ?_)
  conv => whnf
  refine ⟨fun hk => ?_, fun hk => ?_⟩ <;> conv => whnf
  · have hk : k < 8 := by have := of_decide_eq_true hk; omega
    have hr := lastK_range ((partsL s).getD 1 default) k
    repeat' (first | (refine ite_f (by first | with_reducible rfl | assumption) ?_; conv => whnf) | (refine ite_t (by first | with_reducible rfl | assumption) ?_; conv => whnf) | (refine ⟨fun h => ?_, fun h => ?_⟩ <;> conv => whnf) | (refine callR (specKindName ((k : Int) + 1)) rfl (go tbl_ok false ?_); conv => whnf) | (refine ⟨by first | omega | (show _ ∧ _; omega) | ((repeat (first | rw [ByteArray.size_append] | rw [bsz] | rw [List.size_toArray] | rw [List.length_cons] | rw [List.length_nil])) <;> omega) | ((repeat rw [Int.toNat_natCast]) <;> first | omega | (show _ ∧ _; omega)) | (simp only [ByteArray.size_append, bsz, List.size_toArray, List.length_cons, List.length_nil]; omega) | (simp only [Int.toNat_natCast]; first | omega | (show _ ∧ _; omega)) | decide | (simp only [beq_iff_eq, beq_eq_false_iff_ne, bne_iff_ne, bne_eq_false_iff_eq, Bool.not_eq_true', Bool.not_eq_false', Go.Sx.within_iff, Go.Sx.within_f, decide_eq_true_eq, decide_eq_false_iff_not, ne_eq, Int.not_lt, Int.not_le, ge_iff_le, gt_iff_lt, Int.toNat_zero, Int.toNat_one, Int.toNat_natCast] at * <;> first | omega | (show _ ∧ _; omega)), ?_⟩; conv => whnf) | (refine drawI 8 rfl [0, 2, 3, 4, 1, 5] (by kernel_rfl) (go tbl_ok false ?_); conv => whnf) | (refine drawI 13 rfl [0, 1, 2, 3, 4, 5, 6, 7, 8] (by kernel_rfl) (go tbl_ok false ?_); conv => whnf) | fail)
    · have e : lastK ((partsL s).getD 1 default) (k + 1) = (k : Int) + 1 := by rw [lastK, if_pos (show kindName ((k : Int) + 1) = (partsL s).getD 1 default from ba_eq h)]
      refine loopE [] (k + 1) (by omega) (by omega) ⟨rfl, trivial⟩ trivial (by rw [e]; repeat' (first | exact trivial | exact rfl | refine ⟨?_, ?_⟩)) (by kernel_rfl) trivial (by kernel_rfl)
    · have e : lastK ((partsL s).getD 1 default) (k + 1) = lastK ((partsL s).getD 1 default) k := by rw [lastK, if_neg (fun d => by have d : kindName ((k : Int) + 1) = (partsL s).getD (Int.toNat 1) default := d; rw [d, ba_self] at h; exact absurd h (by decide))]
      refine loopE [] (k + 1) (by omega) (by omega) ⟨rfl, trivial⟩ trivial (by rw [e]; repeat' (first | exact trivial | exact rfl | refine ⟨?_, ?_⟩)) (by kernel_rfl) trivial (by kernel_rfl)
  · have hk : k = 8 := by have := of_decide_eq_false hk; omega
    rw [hk]
    refine nilB 1 3 1 (fun i => (fun n => [vi n]) (([] : List Int).getD i default)) rfl rfl ?_
    have hnl : (numsL (partsL s) 4).length = (partsL s).length - 4 := numsL_len _ _
    have hr := lastK_range ((partsL s).getD 1 default) 8
    refine loopW tbl_ok false [] (fun k : Nat => [(8, .c (vi ((k : Int) + 4)))]) (fun k => [⟨0, [.c (vi 0), .c (vi 0), .c (vi 0), .v (.slice none 0 0)]⟩, ⟨1, [.c (vi (lastK ((partsL s).getD 1 default) 8)), .c (vi (numAt (partsL s) 2)), .c (vi (numAt (partsL s) 3)), .own 2]⟩]) (fun k => [⟨2, sInt ((numsL (partsL s) 4).take k)⟩])
      (fun k => k ≤ (numsL (partsL s) 4).length) (fun k => (numsL (partsL s) 4).length - k) 0 (Nat.zero_le _) ⟨by first | rfl | simp [nth, ren2, ren1, ren0], trivial⟩ (by repeat' (first | exact trivial | exact rfl | refine ⟨?_, ?_⟩)) ⟨by first | rfl | exact (congrArg (fun l => slC _ _ l) (List.append_nil _)).symm | (show (_ : Cell) = _; simp) | simp, trivial⟩ trivial (by kernel_rfl) (fun k hk => ?_)
    conv => whnf
    refine ⟨fun h' => ?_, fun h' => ?_⟩ <;> conv => whnf
    · have h' : k < (numsL (partsL s) 4).length := by have := of_decide_eq_true h'; omega
      have hr := numAt_range (partsL s) (k + 4)
      have hg : numAt (partsL s) (k + 4) = (numsL (partsL s) 4).getD k default := by
        rw [numAt, if_pos (by omega), numsL]
        simp only [List.getD_eq_getElem?_getD, List.getElem?_map, List.getElem?_drop]
        rw [Nat.add_comm 4 k, List.getElem?_eq_getElem (show k + 4 < (partsL s).length by omega)]
        rfl
      repeat' (first | (refine ite_f (by first | with_reducible rfl | assumption) ?_; conv => whnf) | (refine ite_t (by first | with_reducible rfl | assumption) ?_; conv => whnf) | (refine ⟨fun h => ?_, fun h => ?_⟩ <;> conv => whnf) | (refine callR (specNum (partsL s) (k + 4) hp hl (by omega)) rfl (go tbl_ok false ?_); conv => whnf) | (refine ⟨by first | omega | (show _ ∧ _; omega) | ((repeat (first | rw [ByteArray.size_append] | rw [bsz] | rw [List.size_toArray] | rw [List.length_cons] | rw [List.length_nil])) <;> omega) | ((repeat rw [Int.toNat_natCast]) <;> first | omega | (show _ ∧ _; omega)) | (simp only [ByteArray.size_append, bsz, List.size_toArray, List.length_cons, List.length_nil]; omega) | (simp only [Int.toNat_natCast]; first | omega | (show _ ∧ _; omega)) | decide | (simp only [beq_iff_eq, beq_eq_false_iff_ne, bne_iff_ne, bne_eq_false_iff_eq, Bool.not_eq_true', Bool.not_eq_false', Go.Sx.within_iff, Go.Sx.within_f, decide_eq_true_eq, decide_eq_false_iff_not, ne_eq, Int.not_lt, Int.not_le, ge_iff_le, gt_iff_lt, Int.toNat_zero, Int.toNat_one, Int.toNat_natCast] at * <;> first | omega | (show _ ∧ _; omega)), ?_⟩; conv => whnf) | (refine drawI 8 rfl [0, 2, 3, 4, 1, 5] (by kernel_rfl) (go tbl_ok false ?_); conv => whnf) | (refine drawI 13 rfl [0, 1, 2, 3, 4, 5, 6, 7, 8] (by kernel_rfl) (go tbl_ok false ?_); conv => whnf) | fail)
      rw [hg]
      refine appW tbl_ok rfl rfl rfl rfl rfl rfl rfl rfl rfl rfl rfl (sInt ((numsL (partsL s) 4).take k ++ [(numsL (partsL s) 4).getD k default])) (slC_snoc rfl) (by intro h; cases h) (by simp; omega) (go tbl_ok false ?_)
      conv => whnf
      (repeat (refine ⟨by first | omega | (show _ ∧ _; omega) | ((repeat (first | rw [ByteArray.size_append] | rw [bsz] | rw [List.size_toArray] | rw [List.length_cons] | rw [List.length_nil])) <;> omega) | ((repeat rw [Int.toNat_natCast]) <;> first | omega | (show _ ∧ _; omega)) | (simp only [ByteArray.size_append, bsz, List.size_toArray, List.length_cons, List.length_nil]; omega) | (simp only [Int.toNat_natCast]; first | omega | (show _ ∧ _; omega)) | decide, ?_⟩; conv => whnf))
      refine loopE [(2, 4)] (k + 1) (by omega) (by omega) ⟨rfl, trivial⟩ ⟨congrArg sInt (take_snoc _ _ h').symm, trivial⟩ (by repeat' (first | exact trivial | exact rfl | refine ⟨?_, ?_⟩)) (by kernel_rfl) trivial (by kernel_rfl)
    · have h' : k = (numsL (partsL s) 4).length := by have := of_decide_eq_false h'; omega
      have ox : (nodeS s).ok := node_ok s _ hr
      have hx : (nodeS s).w ≤ 1048576 := by have := readNode_len s 4; show (numsL (partsL s) 4).length ≤ 1048576; omega
      rw [h', List.take_length]
      repeat' (first | (refine ite_f (by first | with_reducible rfl | assumption) ?_; conv => whnf) | (refine ite_t (by first | with_reducible rfl | assumption) ?_; conv => whnf) | (refine ⟨fun h => ?_, fun h => ?_⟩ <;> conv => whnf) | (refine callR (specNodeLine (nodeS s) ox hx) rfl (go tbl_ok false ?_); conv => whnf) | (refine callR (specJoin (partsL s) hp hl) rfl (go tbl_ok false ?_); conv => whnf) | (refine ⟨by first | omega | (show _ ∧ _; omega) | ((repeat (first | rw [ByteArray.size_append] | rw [bsz] | rw [List.size_toArray] | rw [List.length_cons] | rw [List.length_nil])) <;> omega) | ((repeat rw [Int.toNat_natCast]) <;> first | omega | (show _ ∧ _; omega)) | (simp only [ByteArray.size_append, bsz, List.size_toArray, List.length_cons, List.length_nil]; omega) | (simp only [Int.toNat_natCast]; first | omega | (show _ ∧ _; omega)) | decide | (simp only [beq_iff_eq, beq_eq_false_iff_ne, bne_iff_ne, bne_eq_false_iff_eq, Bool.not_eq_true', Bool.not_eq_false', Go.Sx.within_iff, Go.Sx.within_f, decide_eq_true_eq, decide_eq_false_iff_not, ne_eq, Int.not_lt, Int.not_le, ge_iff_le, gt_iff_lt, Int.toNat_zero, Int.toNat_one, Int.toNat_natCast] at * <;> first | omega | (show _ ∧ _; omega)), ?_⟩; conv => whnf) | (refine drawI 8 rfl [0, 2, 3, 4, 1, 5] (by kernel_rfl) (go tbl_ok false ?_); conv => whnf) | (refine drawI 13 rfl [0, 1, 2, 3, 4, 5, 6, 7, 8] (by kernel_rfl) (go tbl_ok false ?_); conv => whnf) | fail)
      · obtain ⟨hv, hb⟩ := readNode_not (s := s) (fun c => nodeLine_ne c.2.2.1 (ba_eq h))
        rw [hv, hb]
        exact retW tbl_ok rfl rfl ⟨⟨rfl, rfl, rfl, .inr ⟨rfl, rfl, _, _, rfl⟩, trivial⟩, rfl, trivial⟩
      · obtain ⟨hv, hb⟩ := readNode_not (s := s) (fun c => by rw [c.2.2.2, ba_self] at h; exact absurd h (by decide))
        rw [hv, hb]
        exact retW tbl_ok rfl rfl ⟨⟨rfl, rfl, rfl, .inr ⟨rfl, rfl, _, _, rfl⟩, trivial⟩, rfl, trivial⟩
      · rename_i g3
        have hN : NodeP (nodeS s) := by
          by_cases c : NodeP (nodeS s)
          · exact c
          · exfalso
            rw [nodeLine_nil c, ba_self] at g3
            exact absurd g3 (by decide)
        have hj : nodeLine (nodeS s) = joinB (partsL s) := ba_eq (by simpa using h)
        obtain ⟨hv, hb⟩ := readNode_is (s := s) ⟨hP, h4, hN, hj⟩
        rw [hv, hb]
        exact retW tbl_ok rfl rfl ⟨⟨rfl, rfl, rfl, rfl, trivial⟩, rfl, trivial⟩

end Go.Proofs.YtcpjpkcahnldfaaGreatDoor
