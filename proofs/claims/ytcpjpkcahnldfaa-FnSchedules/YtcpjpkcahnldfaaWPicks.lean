/- Texts for the law FnSchedules: WPicks. No conditions. -/
import Derived.Test.YtcpjpkcahnldfaaEng3
import Derived.Test.YtcpjpkcahnldfaaH2

set_option maxRecDepth 100000
namespace Go.Proofs.Ytcpjpkcahnldfaa
open Go.Sx
theorem specBrought (n lo hi : Int) : Meets Try.prog 10 [.one (vi n), .one (vi lo), .one (vi hi)] [.one (vi (brought n lo hi))] := by
  refine enterW tbl_ok false Try.func10 rfl (by decide) fun W => ?_
  conv => whnf
  repeat' (first | (refine ite_f (by first | with_reducible rfl | assumption) ?_; conv => whnf) | (refine ite_t (by first | with_reducible rfl | assumption) ?_; conv => whnf) | (refine ⟨fun h => ?_, fun h => ?_⟩ <;> conv => whnf) | (refine retW tbl_ok rfl rfl ⟨?_, trivial⟩; conv => whnf) | (refine ⟨by first | omega | (simp only [ByteArray.size_append, bsz, List.size_toArray, List.length_cons, List.length_nil]; omega) | (show _ ∧ _; omega) | (simp only [Int.toNat_natCast]; first | omega | (show _ ∧ _; omega)) | decide, ?_⟩; conv => whnf) | fail)
  all_goals (refine congrArg vi ?_; simp only [decide_eq_true_eq, decide_eq_false_iff_not] at *; unfold brought; repeat' split) <;> first | contradiction | omega

theorem implBrought (n lo hi : Int) : Meets Try.prog 26 [.one (vi n), .one (vi lo), .one (vi hi)] [.one (vi (brought n lo hi))] := by
  refine enterW tbl_ok false Try.func26 rfl (by decide) fun W => ?_
  conv => whnf
  repeat' (first | (refine ite_f (by first | with_reducible rfl | assumption) ?_; conv => whnf) | (refine ite_t (by first | with_reducible rfl | assumption) ?_; conv => whnf) | (refine ⟨fun h => ?_, fun h => ?_⟩ <;> conv => whnf) | (refine retW tbl_ok rfl rfl ⟨?_, trivial⟩; conv => whnf) | (refine ⟨by first | omega | (simp only [ByteArray.size_append, bsz, List.size_toArray, List.length_cons, List.length_nil]; omega) | (show _ ∧ _; omega) | (simp only [Int.toNat_natCast]; first | omega | (show _ ∧ _; omega)) | decide, ?_⟩; conv => whnf) | fail)
  all_goals (refine congrArg vi ?_; simp only [decide_eq_true_eq, decide_eq_false_iff_not] at *; unfold brought; repeat' split) <;> first | contradiction | omega

theorem specAllPicks (x : GCluster) : Meets Try.prog 7 [.agg x.c] [.one (sGPick (allP (brought x.graph.workers 0 4).toNat))] := by
  have hb := brought_range x.graph.workers 0 4 (by decide)
  obtain ⟨n, hn⟩ : ∃ n : Nat, brought x.graph.workers 0 4 = n := ⟨(brought x.graph.workers 0 4).toNat, by omega⟩
  have h4 : n ≤ 4 := by omega
  refine enterW tbl_ok false Try.func7 rfl (by decide) fun W => ?_
  conv => whnf
  refine callR (specBrought x.graph.workers 0 4) rfl (go tbl_ok false ?_)
  conv => whnf
  rw [hn]
  refine castW 1 (sGPick []) rfl nil_cast ?_
  refine loopW tbl_ok false [9] (fun k : Nat => [(5, .c (vi k))]) (fun k => []) (fun k => [⟨1, sGPick (pA k)⟩])
    (fun k => k ≤ n) (fun k => n - k) 0 (Nat.zero_le _) ⟨by first | rfl | simp [nth, ren2, ren1, ren0], trivial⟩ trivial ⟨by first | rfl | exact (congrArg (fun l => slC _ _ l) (List.append_nil _)).symm | (show (_ : Cell) = _; simp) | simp, trivial⟩ trivial (by kernel_rfl) (fun k hk => ?_)
  conv => whnf
  refine ⟨fun h => have h := of_decide_eq_true h; ?_, fun h => have h := of_decide_eq_false h; ?_⟩ <;> conv => whnf
  · have h : k < n := by omega
    have hl := pA_len k
    refine appW tbl_ok rfl rfl rfl rfl rfl rfl rfl rfl rfl rfl rfl (sGPick (pA k ++ pW k)) (slC_four rfl rfl rfl rfl) (by intro h; cases h) (by omega) (go tbl_ok false ?_)
    conv => whnf
    (repeat (refine ⟨by first | omega | (simp only [ByteArray.size_append, bsz, List.size_toArray, List.length_cons, List.length_nil]; omega) | (show _ ∧ _; omega) | (simp only [Int.toNat_natCast]; first | omega | (show _ ∧ _; omega)) | decide, ?_⟩; conv => whnf))
    refine loopE [(1, 3)] (k + 1) (by omega) (by omega) ⟨rfl, trivial⟩ ⟨congrArg sGPick (pA_succ k).symm, trivial⟩ trivial (by kernel_rfl) trivial (by kernel_rfl)
  have e : n = k := by omega
  subst e
  have hl := pA_len n
  refine loopW tbl_ok false [] (fun k : Nat => [(6, .c (vi k))]) (fun k => []) (fun k => [⟨1, sGPick (pA n ++ pC n k)⟩])
    (fun k => k ≤ n) (fun k => n - k) 0 (Nat.zero_le _) ⟨by first | rfl | simp [nth, ren2, ren1, ren0], trivial⟩ trivial ⟨by first | rfl | exact (congrArg (fun l => slC _ _ l) (List.append_nil _)).symm | (show (_ : Cell) = _; simp) | simp, trivial⟩ trivial (by kernel_rfl) (fun k hk => ?_)
  conv => whnf
  refine ⟨fun h => have h := of_decide_eq_true h; ?_, fun h => have h := of_decide_eq_false h; ?_⟩ <;> conv => whnf
  · have h : k < n := by omega
    have hc := pC_len n k h4
    refine loopW tbl_ok false [] (fun j : Nat => [(7, .c (vi j))]) (fun _ => []) (fun j => [⟨1, sGPick (pA n ++ (pC n k ++ pB k j))⟩])
      (fun j => j ≤ n) (fun j => n - j) 0 (Nat.zero_le _) ⟨rfl, trivial⟩ trivial ⟨(congrArg (fun l => slC _ _ (pA n ++ l)) (List.append_nil _)).symm, trivial⟩ trivial (by kernel_rfl) (fun j hj => ?_)
    conv => whnf
    refine ⟨fun h' => have h' := of_decide_eq_true h'; ?_, fun h' => have h' := of_decide_eq_false h'; ?_⟩ <;> conv => whnf
    · have h' : j < n := by omega
      have hd := pB_len k j
      have hs := pB_succ k j
      refine ⟨fun hq => have hq := bne_iff_ne.1 hq; ?_, fun hq => have hq := bne_eq_false_iff_eq.1 hq; ?_⟩ <;> conv => whnf
      · (repeat (refine ⟨by first | omega | (simp only [ByteArray.size_append, bsz, List.size_toArray, List.length_cons, List.length_nil]; omega) | (show _ ∧ _; omega) | (simp only [Int.toNat_natCast]; first | omega | (show _ ∧ _; omega)) | decide, ?_⟩; conv => whnf))
        refine appW tbl_ok rfl rfl rfl rfl rfl rfl rfl rfl rfl rfl rfl (sGPick (pA n ++ (pC n k ++ pB k j) ++ [⟨4, k, j⟩, ⟨5, k, j⟩])) (slC_two rfl rfl) (by intro h; cases h) (by simp only [List.length_append]; omega) (go tbl_ok false ?_)
        conv => whnf
        (repeat (refine ⟨by first | omega | (simp only [ByteArray.size_append, bsz, List.size_toArray, List.length_cons, List.length_nil]; omega) | (show _ ∧ _; omega) | (simp only [Int.toNat_natCast]; first | omega | (show _ ∧ _; omega)) | decide, ?_⟩; conv => whnf))
        refine loopE [(1, 3)] (j + 1) (by omega) (by omega) ⟨rfl, trivial⟩ ⟨?_, trivial⟩ trivial (by kernel_rfl) trivial (by kernel_rfl)
        exact congrArg sGPick (by rw [hs, pK, if_neg hq]; simp only [List.append_assoc])
      · (repeat (refine ⟨by first | omega | (simp only [ByteArray.size_append, bsz, List.size_toArray, List.length_cons, List.length_nil]; omega) | (show _ ∧ _; omega) | (simp only [Int.toNat_natCast]; first | omega | (show _ ∧ _; omega)) | decide, ?_⟩; conv => whnf))
        refine loopE [] (j + 1) (by omega) (by omega) ⟨rfl, trivial⟩ ⟨?_, trivial⟩ trivial (by kernel_rfl) trivial (by kernel_rfl)
        exact congrArg sGPick (by rw [hs, pK, if_pos hq, List.append_nil])
    have e : n = j := by omega
    (repeat (refine ⟨by first | omega | (simp only [ByteArray.size_append, bsz, List.size_toArray, List.length_cons, List.length_nil]; omega) | (show _ ∧ _; omega) | (simp only [Int.toNat_natCast]; first | omega | (show _ ∧ _; omega)) | decide, ?_⟩; conv => whnf))
    refine loopE [] (k + 1) (by omega) (by omega) ⟨rfl, trivial⟩ ⟨congrArg sGPick (by rw [← e, pC_succ]), trivial⟩ trivial (by kernel_rfl) trivial (by kernel_rfl)
  have e : k = n := by omega
  subst e
  have hc := pC_len k k h4
  refine loopW tbl_ok false [] (fun j : Nat => [(8, .c (vi j))]) (fun _ => []) (fun j => [⟨1, sGPick (pA k ++ pC k k ++ pE j)⟩])
    (fun j => j ≤ 4) (fun j => 4 - j) 0 (Nat.zero_le _) ⟨rfl, trivial⟩ trivial ⟨(congrArg (fun l => slC _ _ l) (List.append_nil _)).symm, trivial⟩ trivial (by kernel_rfl) (fun j hj => ?_)
  conv => whnf
  refine ⟨fun h' => have h' := of_decide_eq_true h'; ?_, fun h' => have h' := of_decide_eq_false h'; ?_⟩ <;> conv => whnf
  · have h' : j < 4 := by omega
    have hd := pE_len j
    (repeat (refine ⟨by first | omega | (simp only [ByteArray.size_append, bsz, List.size_toArray, List.length_cons, List.length_nil]; omega) | (show _ ∧ _; omega) | (simp only [Int.toNat_natCast]; first | omega | (show _ ∧ _; omega)) | decide, ?_⟩; conv => whnf))
    refine appW tbl_ok rfl rfl rfl rfl rfl rfl rfl rfl rfl rfl rfl (sGPick (pA k ++ pC k k ++ pE j ++ [⟨6, j, 0⟩])) (slC_snoc rfl) (by intro h; cases h) (by simp only [List.length_append]; omega) (go tbl_ok false ?_)
    conv => whnf
    (repeat (refine ⟨by first | omega | (simp only [ByteArray.size_append, bsz, List.size_toArray, List.length_cons, List.length_nil]; omega) | (show _ ∧ _; omega) | (simp only [Int.toNat_natCast]; first | omega | (show _ ∧ _; omega)) | decide, ?_⟩; conv => whnf))
    refine loopE [(1, 3)] (j + 1) (by omega) (by omega) ⟨rfl, trivial⟩ ⟨?_, trivial⟩ trivial (by kernel_rfl) trivial (by kernel_rfl)
    exact congrArg sGPick (by rw [pE_succ]; simp only [List.append_assoc])
  · refine retW tbl_ok rfl rfl ⟨?_, trivial⟩
    have e : j = 4 := by omega
    subst e
    exact congrArg sGPick (by rw [allP, Int.toNat_natCast])

theorem implAllPicks (x : GCluster) : Meets Try.prog 27 [.agg x.c] [.one (sGPick (allP (brought x.graph.workers 0 4).toNat))] := by
  have hb := brought_range x.graph.workers 0 4 (by decide)
  obtain ⟨n, hn⟩ : ∃ n : Nat, brought x.graph.workers 0 4 = n := ⟨(brought x.graph.workers 0 4).toNat, by omega⟩
  have h4 : n ≤ 4 := by omega
  refine enterW tbl_ok false Try.func27 rfl (by decide) fun W => ?_
  conv => whnf
  refine callR (implBrought x.graph.workers 0 4) rfl (go tbl_ok false ?_)
  conv => whnf
  rw [hn]
  refine nilW 4 3 (fun i => GPick.c (([] : List GPick).getD i default)) rfl ?_
  refine loopW tbl_ok false [9] (fun k : Nat => [(5, .c (vi k))]) (fun k => []) (fun k => [⟨1, sGPick (pA k)⟩])
    (fun k => k ≤ n) (fun k => n - k) 0 (Nat.zero_le _) ⟨by first | rfl | simp [nth, ren2, ren1, ren0], trivial⟩ trivial ⟨by first | rfl | exact (congrArg (fun l => slC _ _ l) (List.append_nil _)).symm | (show (_ : Cell) = _; simp) | simp, trivial⟩ trivial (by kernel_rfl) (fun k hk => ?_)
  conv => whnf
  refine ⟨fun h => have h := of_decide_eq_true h; ?_, fun h => have h := of_decide_eq_false h; ?_⟩ <;> conv => whnf
  · have h : k < n := by omega
    have hl := pA_len k
    refine castW 2 (sInt [1, 3, 2, 7]) rfl (cast_four rfl rfl rfl rfl) ?_
    refine loopW tbl_ok false [7] (fun j : Nat => [(22, .c (vi j))]) (fun _ => []) (fun j => [⟨2, sInt [1, 3, 2, 7]⟩, ⟨1, sGPick (pA k ++ (pW k).take j)⟩])
      (fun j => j ≤ 4) (fun j => 4 - j) 0 (Nat.zero_le _) ⟨rfl, trivial⟩ trivial ⟨rfl, (congrArg (fun l => slC _ _ l) (List.append_nil _)).symm, trivial⟩ trivial (by kernel_rfl) (fun j hj => ?_)
    conv => whnf
    refine ⟨fun h' => have h' := of_decide_eq_true h'; ?_, fun h' => have h' := of_decide_eq_false h'; ?_⟩ <;> conv => whnf
    · have h' : j < 4 := by omega
      have hd : ((pW k).take j).length ≤ j := List.length_take_le _ _
      refine ⟨by exact ⟨by omega, by show (j : Int) < 4; omega⟩, ?_⟩
      conv => whnf
      (repeat (refine ⟨by first | omega | (simp only [ByteArray.size_append, bsz, List.size_toArray, List.length_cons, List.length_nil]; omega) | (show _ ∧ _; omega) | (simp only [Int.toNat_natCast]; first | omega | (show _ ∧ _; omega)) | decide, ?_⟩; conv => whnf))
      refine appW tbl_ok rfl rfl rfl rfl rfl rfl rfl rfl rfl rfl rfl (sGPick (pA k ++ (pW k).take j ++ [⟨([1, 3, 2, 7] : List Int).getD j default, k, 0⟩])) (slC_snoc rfl) (by intro h; cases h) (by simp only [List.length_append]; omega) (go tbl_ok false ?_)
      conv => whnf
      (repeat (refine ⟨by first | omega | (simp only [ByteArray.size_append, bsz, List.size_toArray, List.length_cons, List.length_nil]; omega) | (show _ ∧ _; omega) | (simp only [Int.toNat_natCast]; first | omega | (show _ ∧ _; omega)) | decide, ?_⟩; conv => whnf))
      refine loopE [(1, 4)] (j + 1) (by omega) (by omega) ⟨rfl, trivial⟩ ⟨rfl, ?_, trivial⟩ trivial (by kernel_rfl) trivial (by kernel_rfl)
      exact congrArg sGPick (by rw [pW_take k j h', List.append_assoc])
    have e : j = 4 := by omega
    subst e
    (repeat (refine ⟨by first | omega | (simp only [ByteArray.size_append, bsz, List.size_toArray, List.length_cons, List.length_nil]; omega) | (show _ ∧ _; omega) | (simp only [Int.toNat_natCast]; first | omega | (show _ ∧ _; omega)) | decide, ?_⟩; conv => whnf))
    refine loopE [] (k + 1) (by omega) (by omega) ⟨rfl, trivial⟩ ⟨congrArg sGPick (pA_succ k).symm, trivial⟩ trivial (by kernel_rfl) trivial (by kernel_rfl)
  have e : n = k := by omega
  subst e
  have hl := pA_len n
  refine loopW tbl_ok false [] (fun k : Nat => [(8, .c (vi k))]) (fun k => []) (fun k => [⟨1, sGPick (pA n ++ pC n k)⟩])
    (fun k => k ≤ n) (fun k => n - k) 0 (Nat.zero_le _) ⟨by first | rfl | simp [nth, ren2, ren1, ren0], trivial⟩ trivial ⟨by first | rfl | exact (congrArg (fun l => slC _ _ l) (List.append_nil _)).symm | (show (_ : Cell) = _; simp) | simp, trivial⟩ trivial (by kernel_rfl) (fun k hk => ?_)
  conv => whnf
  refine ⟨fun h => have h := of_decide_eq_true h; ?_, fun h => have h := of_decide_eq_false h; ?_⟩ <;> conv => whnf
  · have h : k < n := by omega
    have hc := pC_len n k h4
    refine loopW tbl_ok false [] (fun j : Nat => [(9, .c (vi j))]) (fun _ => []) (fun j => [⟨1, sGPick (pA n ++ (pC n k ++ pB k j))⟩])
      (fun j => j ≤ n) (fun j => n - j) 0 (Nat.zero_le _) ⟨rfl, trivial⟩ trivial ⟨(congrArg (fun l => slC _ _ (pA n ++ l)) (List.append_nil _)).symm, trivial⟩ trivial (by kernel_rfl) (fun j hj => ?_)
    conv => whnf
    refine ⟨fun h' => have h' := of_decide_eq_true h'; ?_, fun h' => have h' := of_decide_eq_false h'; ?_⟩ <;> conv => whnf
    · have h' : j < n := by omega
      have hd := pB_len k j
      have hs := pB_succ k j
      refine ⟨fun hq => have hq := bne_iff_ne.1 hq; ?_, fun hq => have hq := bne_eq_false_iff_eq.1 hq; ?_⟩ <;> conv => whnf
      · (repeat (refine ⟨by first | omega | (simp only [ByteArray.size_append, bsz, List.size_toArray, List.length_cons, List.length_nil]; omega) | (show _ ∧ _; omega) | (simp only [Int.toNat_natCast]; first | omega | (show _ ∧ _; omega)) | decide, ?_⟩; conv => whnf))
        refine appW tbl_ok rfl rfl rfl rfl rfl rfl rfl rfl rfl rfl rfl (sGPick (pA n ++ (pC n k ++ pB k j) ++ [⟨4, k, j⟩, ⟨5, k, j⟩])) (slC_two rfl rfl) (by intro h; cases h) (by simp only [List.length_append]; omega) (go tbl_ok false ?_)
        conv => whnf
        (repeat (refine ⟨by first | omega | (simp only [ByteArray.size_append, bsz, List.size_toArray, List.length_cons, List.length_nil]; omega) | (show _ ∧ _; omega) | (simp only [Int.toNat_natCast]; first | omega | (show _ ∧ _; omega)) | decide, ?_⟩; conv => whnf))
        refine loopE [(1, 3)] (j + 1) (by omega) (by omega) ⟨rfl, trivial⟩ ⟨?_, trivial⟩ trivial (by kernel_rfl) trivial (by kernel_rfl)
        exact congrArg sGPick (by rw [hs, pK, if_neg hq]; simp only [List.append_assoc])
      · (repeat (refine ⟨by first | omega | (simp only [ByteArray.size_append, bsz, List.size_toArray, List.length_cons, List.length_nil]; omega) | (show _ ∧ _; omega) | (simp only [Int.toNat_natCast]; first | omega | (show _ ∧ _; omega)) | decide, ?_⟩; conv => whnf))
        refine loopE [] (j + 1) (by omega) (by omega) ⟨rfl, trivial⟩ ⟨?_, trivial⟩ trivial (by kernel_rfl) trivial (by kernel_rfl)
        exact congrArg sGPick (by rw [hs, pK, if_pos hq, List.append_nil])
    have e : n = j := by omega
    (repeat (refine ⟨by first | omega | (simp only [ByteArray.size_append, bsz, List.size_toArray, List.length_cons, List.length_nil]; omega) | (show _ ∧ _; omega) | (simp only [Int.toNat_natCast]; first | omega | (show _ ∧ _; omega)) | decide, ?_⟩; conv => whnf))
    refine loopE [] (k + 1) (by omega) (by omega) ⟨rfl, trivial⟩ ⟨congrArg sGPick (by rw [← e, pC_succ]), trivial⟩ trivial (by kernel_rfl) trivial (by kernel_rfl)
  have e : k = n := by omega
  subst e
  have hc := pC_len k k h4
  refine loopW tbl_ok false [] (fun j : Nat => [(10, .c (vi j))]) (fun _ => []) (fun j => [⟨1, sGPick (pA k ++ pC k k ++ pE j)⟩])
    (fun j => j ≤ 4) (fun j => 4 - j) 0 (Nat.zero_le _) ⟨rfl, trivial⟩ trivial ⟨(congrArg (fun l => slC _ _ l) (List.append_nil _)).symm, trivial⟩ trivial (by kernel_rfl) (fun j hj => ?_)
  conv => whnf
  refine ⟨fun h' => have h' := of_decide_eq_true h'; ?_, fun h' => have h' := of_decide_eq_false h'; ?_⟩ <;> conv => whnf
  · have h' : j < 4 := by omega
    have hd := pE_len j
    (repeat (refine ⟨by first | omega | (simp only [ByteArray.size_append, bsz, List.size_toArray, List.length_cons, List.length_nil]; omega) | (show _ ∧ _; omega) | (simp only [Int.toNat_natCast]; first | omega | (show _ ∧ _; omega)) | decide, ?_⟩; conv => whnf))
    refine appW tbl_ok rfl rfl rfl rfl rfl rfl rfl rfl rfl rfl rfl (sGPick (pA k ++ pC k k ++ pE j ++ [⟨6, j, 0⟩])) (slC_snoc rfl) (by intro h; cases h) (by simp only [List.length_append]; omega) (go tbl_ok false ?_)
    conv => whnf
    (repeat (refine ⟨by first | omega | (simp only [ByteArray.size_append, bsz, List.size_toArray, List.length_cons, List.length_nil]; omega) | (show _ ∧ _; omega) | (simp only [Int.toNat_natCast]; first | omega | (show _ ∧ _; omega)) | decide, ?_⟩; conv => whnf))
    refine loopE [(1, 3)] (j + 1) (by omega) (by omega) ⟨rfl, trivial⟩ ⟨?_, trivial⟩ trivial (by kernel_rfl) trivial (by kernel_rfl)
    exact congrArg sGPick (by rw [pE_succ]; simp only [List.append_assoc])
  · refine retW tbl_ok rfl rfl ⟨?_, trivial⟩
    have e : j = 4 := by omega
    subst e
    exact congrArg sGPick (by rw [allP, Int.toNat_natCast])

end Go.Proofs.Ytcpjpkcahnldfaa
