/- Texts for the law FnExactOwnCells: WOwn. No conditions. -/
import Derived.Test.YthnemokfcnejkaaEng3
import Derived.Test.YthnemokfcnejkaaH2

set_option maxRecDepth 100000
namespace Go.Proofs.Ythnemokfcnejkaa
open Go.Sx
theorem specIn (n lo hi : Int) : Meets Try.prog 103 [.one (vi n), .one (vi lo), .one (vi hi)] [.one (vb (within n lo hi))] := by
  refine enterW tbl_ok false Try.func103 rfl (by decide) fun W => ?_
  conv => whnf
  repeat' (first | (refine ite_f (by first | with_reducible rfl | assumption) ?_; conv => whnf) | (refine ite_t (by first | with_reducible rfl | assumption) ?_; conv => whnf) | (refine ⟨fun h => ?_, fun h => ?_⟩ <;> conv => whnf) | (refine retW tbl_ok rfl rfl ⟨?_, trivial⟩; conv => whnf) | (refine ⟨by first | omega | (show _ ∧ _; omega) | (simp only [Int.toNat_natCast]; first | omega | (show _ ∧ _; omega)) | decide, ?_⟩; conv => whnf) | fail)
  all_goals (refine congrArg vb ?_; simp_all [within] <;> omega)
theorem implIn (n lo hi : Int) : Meets Try.prog 114 [.one (vi n), .one (vi lo), .one (vi hi)] [.one (vb (within n lo hi))] := by
  refine enterW tbl_ok false Try.func114 rfl (by decide) fun W => ?_
  conv => whnf
  repeat' (first | (refine ite_f (by first | with_reducible rfl | assumption) ?_; conv => whnf) | (refine ite_t (by first | with_reducible rfl | assumption) ?_; conv => whnf) | (refine ⟨fun h => ?_, fun h => ?_⟩ <;> conv => whnf) | (refine retW tbl_ok rfl rfl ⟨?_, trivial⟩; conv => whnf) | (refine ⟨by first | omega | (show _ ∧ _; omega) | (simp only [Int.toNat_natCast]; first | omega | (show _ ∧ _; omega)) | decide, ?_⟩; conv => whnf) | fail)
  all_goals (refine congrArg vb ?_; simp_all [within] <;> omega)


theorem specOwnerOf (key n : Int) (hn : n ≤ 9223372036854775807) : Meets Try.prog 113 [.one (vi key), .one (vi n)] [.one (vi (ownerOf key n))] := by
  refine enterW tbl_ok false Try.func113 rfl (by decide) fun W => ?_
  conv => whnf
  refine ⟨fun h => have h := of_decide_eq_true h; ?_, fun h => have h := of_decide_eq_false h; ?_⟩ <;> conv => whnf
  · exact retW tbl_ok rfl rfl ⟨congrArg vi (by rw [ownerOf, if_pos h]), trivial⟩
  have h1 := Int.tmod_lt_of_pos key (show 0 < n by omega)
  have h2 := Int.lt_tmod_of_pos key (show 0 < n by omega)
  (repeat (refine ⟨by first | omega | (show _ ∧ _; omega) | (simp only [Int.toNat_natCast]; first | omega | (show _ ∧ _; omega)) | decide, ?_⟩; conv => whnf))
  refine ⟨fun h' => have h' := of_decide_eq_true h'; ?_, fun h' => have h' := of_decide_eq_false h'; ?_⟩ <;> conv => whnf
  · (repeat (refine ⟨by first | omega | (show _ ∧ _; omega) | (simp only [Int.toNat_natCast]; first | omega | (show _ ∧ _; omega)) | decide, ?_⟩; conv => whnf))
    exact retW tbl_ok rfl rfl ⟨congrArg vi (by rw [ownerOf, if_neg h, if_pos h']), trivial⟩
  · exact retW tbl_ok rfl rfl ⟨congrArg vi (by rw [ownerOf, if_neg h, if_neg h']), trivial⟩

theorem implOwnerOf (key n : Int) (hn : n ≤ 9223372036854775807) : Meets Try.prog 115 [.one (vi key), .one (vi n)] [.one (vi (ownerOf key n))] := by
  refine enterW tbl_ok false Try.func115 rfl (by decide) fun W => ?_
  conv => whnf
  refine ⟨fun h => have h := of_decide_eq_true h; ?_, fun h => have h := of_decide_eq_false h; ?_⟩ <;> conv => whnf
  · exact retW tbl_ok rfl rfl ⟨congrArg vi (by rw [ownerOf, if_pos h]), trivial⟩
  have h1 := Int.tmod_lt_of_pos key (show 0 < n by omega)
  have h2 := Int.lt_tmod_of_pos key (show 0 < n by omega)
  (repeat (refine ⟨by first | omega | (show _ ∧ _; omega) | (simp only [Int.toNat_natCast]; first | omega | (show _ ∧ _; omega)) | decide, ?_⟩; conv => whnf))
  refine ⟨fun h' => have h' := of_decide_eq_true h'; ?_, fun h' => have h' := of_decide_eq_false h'; ?_⟩ <;> conv => whnf
  · (repeat (refine ⟨by first | omega | (show _ ∧ _; omega) | (simp only [Int.toNat_natCast]; first | omega | (show _ ∧ _; omega)) | decide, ?_⟩; conv => whnf))
    exact retW tbl_ok rfl rfl ⟨congrArg vi (by rw [ownerOf, if_neg h, if_pos h']), trivial⟩
  · exact retW tbl_ok rfl rfl ⟨congrArg vi (by rw [ownerOf, if_neg h, if_neg h']), trivial⟩

theorem cells_le_w (x : GWorker) : x.cells.length ≤ x.w := by simp only [GWorker.w]; omega
theorem specOwnCells (x : GCluster) (w : Int) (hx : x.w ≤ 1048576) (ox : x.ok) : Meets Try.prog 48 [.agg x.c, .one (vi w)] [.one (sGCell (ownCells x w))] := by
  have hl := GCluster.workers_le hx
  have hg : x.graph.workers ≤ 9223372036854775807 := ox.1.2.1.2
  refine enterW tbl_ok false Try.func48 rfl (by decide) fun W => ?_
  conv => whnf
  (repeat (refine ⟨by first | omega | (show _ ∧ _; omega) | (simp only [Int.toNat_natCast]; first | omega | (show _ ∧ _; omega)) | decide, ?_⟩; conv => whnf))
  refine callR (specIn w 0 (x.workers.length - 1)) rfl (go tbl_ok false ?_)
  conv => whnf
  by_cases h1 : within w 0 (x.workers.length - 1) = true
  · have h2 := Go.Sx.within_iff.1 h1
    have hw := GCluster.worker_le hx (show w.toNat < x.workers.length by omega)
    have hq : (x.workers.getD w.toNat default).cells.length ≤ 1048576 := Nat.le_trans (cells_le_w _) (by omega)
    have ho : ownCells x w = (x.workers.getD w.toNat default).cells.filter fun y => ownerOf y.key x.graph.workers == w := by rw [ownCells, if_pos h1]
    refine ⟨fun h => ?_, fun h => ?_⟩ <;> conv => whnf
    · rw [h1] at h; cases h
    (repeat (refine ⟨by first | omega | (show _ ∧ _; omega) | (simp only [Int.toNat_natCast]; first | omega | (show _ ∧ _; omega)) | decide, ?_⟩; conv => whnf))
    refine castW 1 (sGCell []) rfl nil_cast ?_
    rw [ho]
    refine loopW tbl_ok false [7] (fun k : Nat => [(6, .c (vi k))]) (fun k => [⟨0, [.c (sGNode x.graph.nodes), .c (vi x.graph.workers), .c (vi x.graph.cap), .c (sGWorker x.workers), .c (sGLink x.links), .c (sGToken x.tokens), .c (sGNews x.news)]⟩]) (fun k => [⟨1, sGCell (((x.workers.getD w.toNat default).cells.take k).filter fun y => ownerOf y.key x.graph.workers == w)⟩])
      (fun k => k ≤ (x.workers.getD w.toNat default).cells.length) (fun k => (x.workers.getD w.toNat default).cells.length - k) 0 (Nat.zero_le _) ⟨by first | rfl | simp [nth, ren2, ren1, ren0], trivial⟩ (by repeat' (first | exact trivial | exact rfl | refine ⟨?_, ?_⟩)) ⟨by first | rfl | exact (congrArg (fun l => slC _ _ l) (List.append_nil _)).symm | simp, trivial⟩ trivial (by kernel_rfl) (fun k hk => ?_)
    conv => whnf
    (repeat (refine ⟨by first | omega | (show _ ∧ _; omega) | (simp only [Int.toNat_natCast]; first | omega | (show _ ∧ _; omega)) | decide, ?_⟩; conv => whnf))
    refine ⟨fun h => have h := of_decide_eq_true h; ?_, fun h => have h := of_decide_eq_false h; ?_⟩ <;> conv => whnf
    · have h : k < (x.workers.getD w.toNat default).cells.length := by omega
      have hs := filter_take (fun y => ownerOf y.key x.graph.workers == w) (x.workers.getD w.toNat default).cells k h
      have hb := filter_take_len (fun y => ownerOf y.key x.graph.workers == w) (x.workers.getD w.toNat default).cells k
      first | (refine drawI 7 rfl [0, 1, 2, 3, 4, 5, 6, 7, 8, 9, 10, 11, 12, 14, 13, 15] (by kernel_rfl) (go tbl_ok false ?_); conv => whnf)
      (repeat (refine ⟨by first | omega | (show _ ∧ _; omega) | (simp only [Int.toNat_natCast]; first | omega | (show _ ∧ _; omega)) | decide, ?_⟩; conv => whnf))
      refine callR (specOwnerOf ((x.workers.getD w.toNat default).cells.getD k default).key x.graph.workers hg) rfl (go tbl_ok false ?_)
      conv => whnf
      refine ⟨fun hc => ?_, fun hc => ?_⟩ <;> conv => whnf
      · (repeat (refine ⟨by first | omega | (show _ ∧ _; omega) | (simp only [Int.toNat_natCast]; first | omega | (show _ ∧ _; omega)) | decide, ?_⟩; conv => whnf))
        refine appW tbl_ok rfl rfl rfl rfl rfl rfl rfl rfl rfl rfl rfl (sGCell (((x.workers.getD w.toNat default).cells.take k).filter (fun y => ownerOf y.key x.graph.workers == w) ++ [(x.workers.getD w.toNat default).cells.getD k default])) (slC_snoc rfl) (by intro h; cases h) (by omega) (go tbl_ok false ?_)
        conv => whnf
        (repeat (refine ⟨by first | omega | (show _ ∧ _; omega) | (simp only [Int.toNat_natCast]; first | omega | (show _ ∧ _; omega)) | decide, ?_⟩; conv => whnf))
        refine loopE [(1, 3)] (k + 1) (by omega) (by omega) ⟨rfl, trivial⟩ ⟨congrArg sGCell (by rw [hs, if_pos hc]), trivial⟩ (by repeat' (first | exact trivial | exact rfl | refine ⟨?_, ?_⟩)) (by kernel_rfl) trivial (by kernel_rfl)
      · (repeat (refine ⟨by first | omega | (show _ ∧ _; omega) | (simp only [Int.toNat_natCast]; first | omega | (show _ ∧ _; omega)) | decide, ?_⟩; conv => whnf))
        refine loopE [] (k + 1) (by omega) (by omega) ⟨rfl, trivial⟩ ⟨congrArg sGCell (by rw [hs, if_neg (by rw [hc]; decide), List.append_nil]), trivial⟩ (by repeat' (first | exact trivial | exact rfl | refine ⟨?_, ?_⟩)) (by kernel_rfl) trivial (by kernel_rfl)
    · (repeat (refine ⟨by first | omega | (show _ ∧ _; omega) | (simp only [Int.toNat_natCast]; first | omega | (show _ ∧ _; omega)) | decide, ?_⟩; conv => whnf))
      refine retW tbl_ok rfl rfl ⟨?_, trivial⟩
      exact congrArg (fun l => sGCell (List.filter _ l)) (take_all _ k (by omega))
  · refine ⟨fun h => ?_, fun h => ?_⟩ <;> conv => whnf
    · refine castR 1 (sGCell []) rfl nil_cast ?_
      exact retW tbl_ok rfl rfl ⟨by (conv => whnf); exact congrArg sGCell (by rw [ownCells, if_neg h1]), trivial⟩
    · rw [Bool.not_eq_true] at h1; rw [h1] at h; cases h
theorem implOwnCells (x : GCluster) (w : Int) (hx : x.w ≤ 1048576) (ox : x.ok) : Meets Try.prog 49 [.agg x.c, .one (vi w)] [.one (sGCell (ownCells x w))] := by
  have hl := GCluster.workers_le hx
  have hg : x.graph.workers ≤ 9223372036854775807 := ox.1.2.1.2
  refine enterW tbl_ok false Try.func49 rfl (by decide) fun W => ?_
  conv => whnf
  (repeat (refine ⟨by first | omega | (show _ ∧ _; omega) | (simp only [Int.toNat_natCast]; first | omega | (show _ ∧ _; omega)) | decide, ?_⟩; conv => whnf))
  refine callR (implIn w 0 (x.workers.length - 1)) rfl (go tbl_ok false ?_)
  conv => whnf
  by_cases h1 : within w 0 (x.workers.length - 1) = true
  · have h2 := Go.Sx.within_iff.1 h1
    have hw := GCluster.worker_le hx (show w.toNat < x.workers.length by omega)
    have hq : (x.workers.getD w.toNat default).cells.length ≤ 1048576 := Nat.le_trans (cells_le_w _) (by omega)
    have ho : ownCells x w = (x.workers.getD w.toNat default).cells.filter fun y => ownerOf y.key x.graph.workers == w := by rw [ownCells, if_pos h1]
    refine ⟨fun h => ?_, fun h => ?_⟩ <;> conv => whnf
    · rw [h1] at h; cases h
    (repeat (refine ⟨by first | omega | (show _ ∧ _; omega) | (simp only [Int.toNat_natCast]; first | omega | (show _ ∧ _; omega)) | decide, ?_⟩; conv => whnf))
    refine nilW 5 4 (fun i => GCell.c (([] : List GCell).getD i default)) rfl ?_
    rw [ho]
    refine loopW tbl_ok false [] (fun k : Nat => [(22, .c (vi k))]) (fun k => [⟨0, [.c (sGNode x.graph.nodes), .c (vi x.graph.workers), .c (vi x.graph.cap), .c (sGWorker x.workers), .c (sGLink x.links), .c (sGToken x.tokens), .c (sGNews x.news)]⟩]) (fun k => [⟨1, sGCell (((x.workers.getD w.toNat default).cells.take k).filter fun y => ownerOf y.key x.graph.workers == w)⟩])
      (fun k => k ≤ (x.workers.getD w.toNat default).cells.length) (fun k => (x.workers.getD w.toNat default).cells.length - k) 0 (Nat.zero_le _) ⟨by first | rfl | simp [nth, ren2, ren1, ren0], trivial⟩ (by repeat' (first | exact trivial | exact rfl | refine ⟨?_, ?_⟩)) ⟨by first | rfl | exact (congrArg (fun l => slC _ _ l) (List.append_nil _)).symm | simp, trivial⟩ trivial (by kernel_rfl) (fun k hk => ?_)
    conv => whnf
    conv => whnf
    refine ⟨fun h => have h := of_decide_eq_true h; ?_, fun h => have h := of_decide_eq_false h; ?_⟩ <;> conv => whnf
    · have h : k < (x.workers.getD w.toNat default).cells.length := by omega
      have hs := filter_take (fun y => ownerOf y.key x.graph.workers == w) (x.workers.getD w.toNat default).cells k h
      have hb := filter_take_len (fun y => ownerOf y.key x.graph.workers == w) (x.workers.getD w.toNat default).cells k
      first | 
      (repeat (refine ⟨by first | omega | (show _ ∧ _; omega) | (simp only [Int.toNat_natCast]; first | omega | (show _ ∧ _; omega)) | decide, ?_⟩; conv => whnf))
      refine callR (implOwnerOf ((x.workers.getD w.toNat default).cells.getD k default).key x.graph.workers hg) rfl (go tbl_ok false ?_)
      conv => whnf
      refine ⟨fun hc => ?_, fun hc => ?_⟩ <;> conv => whnf
      · (repeat (refine ⟨by first | omega | (show _ ∧ _; omega) | (simp only [Int.toNat_natCast]; first | omega | (show _ ∧ _; omega)) | decide, ?_⟩; conv => whnf))
        refine appW tbl_ok rfl rfl rfl rfl rfl rfl rfl rfl rfl rfl rfl (sGCell (((x.workers.getD w.toNat default).cells.take k).filter (fun y => ownerOf y.key x.graph.workers == w) ++ [(x.workers.getD w.toNat default).cells.getD k default])) (slC_snoc rfl) (by intro h; cases h) (by omega) (go tbl_ok false ?_)
        conv => whnf
        (repeat (refine ⟨by first | omega | (show _ ∧ _; omega) | (simp only [Int.toNat_natCast]; first | omega | (show _ ∧ _; omega)) | decide, ?_⟩; conv => whnf))
        refine loopE [(1, 4)] (k + 1) (by omega) (by omega) ⟨rfl, trivial⟩ ⟨congrArg sGCell (by rw [hs, if_pos hc]), trivial⟩ (by repeat' (first | exact trivial | exact rfl | refine ⟨?_, ?_⟩)) (by kernel_rfl) trivial (by kernel_rfl)
      · (repeat (refine ⟨by first | omega | (show _ ∧ _; omega) | (simp only [Int.toNat_natCast]; first | omega | (show _ ∧ _; omega)) | decide, ?_⟩; conv => whnf))
        refine loopE [] (k + 1) (by omega) (by omega) ⟨rfl, trivial⟩ ⟨congrArg sGCell (by rw [hs, if_neg (by rw [hc]; decide), List.append_nil]), trivial⟩ (by repeat' (first | exact trivial | exact rfl | refine ⟨?_, ?_⟩)) (by kernel_rfl) trivial (by kernel_rfl)
    · (repeat (refine ⟨by first | omega | (show _ ∧ _; omega) | (simp only [Int.toNat_natCast]; first | omega | (show _ ∧ _; omega)) | decide, ?_⟩; conv => whnf))
      refine retW tbl_ok rfl rfl ⟨?_, trivial⟩
      exact congrArg (fun l => sGCell (List.filter _ l)) (take_all _ k (by omega))
  · refine ⟨fun h => ?_, fun h => ?_⟩ <;> conv => whnf
    · refine nilR 4 4 (fun i => GCell.c (([] : List GCell).getD i default)) rfl ?_
      exact retW tbl_ok rfl rfl ⟨by (conv => whnf); rw [show ownCells x w = [] by rw [ownCells, if_neg h1]]; rfl, trivial⟩
    · rw [Bool.not_eq_true] at h1; rw [h1] at h; cases h
theorem ownCells_le (x : GCluster) (w : Int) (hx : x.w ≤ 1048576) : (ownCells x w).length ≤ 1048576 := by
  unfold ownCells
  split
  · rename_i h1
    have h2 := Go.Sx.within_iff.1 h1
    have hw := GCluster.worker_le hx (show w.toNat < x.workers.length by omega)
    exact Nat.le_trans (List.length_filter_le _ _) (Nat.le_trans (cells_le_w _) (by omega))
  · exact Nat.zero_le _

end Go.Proofs.Ythnemokfcnejkaa
