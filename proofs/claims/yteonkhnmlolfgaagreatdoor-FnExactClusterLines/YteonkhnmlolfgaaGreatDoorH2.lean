/- Texts for the law FnExactClusterLines: H2. No conditions. -/
import Derived.Test.YteonkhnmlolfgaaGreatDoorH1

set_option maxRecDepth 100000
namespace Go.Proofs.YteonkhnmlolfgaaGreatDoor
open Go.Sx
theorem markIntS (xs : List Int) (k : Int) (h0 : 0 ≤ k) (h1 : k + ((xs.map iCnt).sum : Nat) ≤ 4611686018427387904) :
    MeetsU Tryz.prog 67 (.one (sInt xs)) (.one (sInt (markL iMark iCnt xs k))) [.one (vi k)] [.int .i64 (k + ((xs.map iCnt).sum : Nat))] := by
  have hl : xs.length ≤ 4611686018427387904 := by have := len_le_sum iCnt xs (fun x => Nat.le_refl 1); omega
  refine enterU tbl_ok false Tryz.func67 rfl (by decide) fun W may l => ?_
  conv => whnf
  refine loopW tbl_ok false [] (fun j : Nat => [(1, .c (vi (k + (((xs.take j).map iCnt).sum : Nat)))), (5, .c (vi j))]) (fun _ => []) (fun j => [⟨0, sInt (markJ iMark iCnt xs k j)⟩])
    (fun j => j ≤ xs.length) (fun j => xs.length - j) 0 (Nat.zero_le _) ⟨by simp [nth, ren2, ren1, ren0], rfl, trivial⟩ trivial ⟨rfl, trivial⟩ ⟨rfl, trivial⟩ (by kernel_rfl) (fun j hj => ?_)
  have hL := markJ_length iMark iCnt xs k j
  conv => whnf
  refine ⟨fun h => ?_, fun h => ?_⟩ <;> simp only [decide_eq_true_eq, decide_eq_false_iff_not] at h <;> conv => whnf
  · have h : j < xs.length := by omega
    have g := markJ_get iMark iCnt xs k j default h
    have hle := wS_take_le iCnt xs j h
    have hst := wS_take iCnt xs j h
    generalize hy : xs.getD j default = y at g hle hst
    have hc : iCnt y = 1 := rfl
    (repeat (refine ⟨by first | omega | (show _ ∧ _; omega) | (simp only [List.length_set]; omega) | decide, ?_⟩; conv => whnf))
    refine storeW (j := (j : Int)) tbl_ok rfl rfl rfl rfl rfl rfl rfl rfl _ (slC_set1 (j := j) (xs := (markJ iMark iCnt xs k j)) (e := (fun n => [vi n])) (x := k + (((xs.take j).map iCnt).sum : Nat)) (by omega) g (by exact rfl)) (go tbl_ok false ?_)
    conv => whnf
    (repeat (refine ⟨by first | omega | (show _ ∧ _; omega) | (simp only [List.length_set]; omega) | decide, ?_⟩; conv => whnf))
    refine loopE [] (j + 1) (by omega) (by omega) ⟨?_, rfl, trivial⟩ ⟨?_, trivial⟩ trivial (by kernel_rfl) ⟨rfl, trivial⟩ (by kernel_rfl)
    · exact congrArg (fun n => AV.c (vi n)) (by omega)
    · have e := markJ_set iMark iCnt xs k j h
      rw [hy] at e
      exact congrArg (fun z => slC 1 (fun n => [vi n]) z) e
  · refine retU tbl_ok rfl ⟨?_, trivial⟩ rfl rfl ?_ ⟨rfl, trivial⟩
    · exact congrArg (fun n => AV.c (vi n)) (by rw [List.take_of_length_le (by omega)])
    · exact congrArg (fun z => slC 1 (fun n => [vi n]) z) (markJ_end _ _ _ _ _ (by omega))

theorem markNodeS (xs : List GNode) (k : Int) (h0 : 0 ≤ k) (h1 : k + ((xs.map GNode.cnt).sum : Nat) ≤ 4611686018427387904) :
    MeetsU Tryz.prog 64 (.one (sGNode xs)) (.one (sGNode (markL GNode.mark GNode.cnt xs k))) [.one (vi k)] [.int .i64 (k + ((xs.map GNode.cnt).sum : Nat))] := by
  have hl : xs.length ≤ 4611686018427387904 := by have := len_le_sum GNode.cnt xs (fun x => by simp only [GNode.cnt]; omega); omega
  refine enterU tbl_ok false Tryz.func64 rfl (by decide) fun W may l => ?_
  conv => whnf
  refine loopW tbl_ok false [] (fun j : Nat => [(1, .c (vi (k + (((xs.take j).map GNode.cnt).sum : Nat)))), (5, .c (vi j))]) (fun _ => []) (fun j => [⟨0, sGNode (markJ GNode.mark GNode.cnt xs k j)⟩])
    (fun j => j ≤ xs.length) (fun j => xs.length - j) 0 (Nat.zero_le _) ⟨by simp [nth, ren2, ren1, ren0], rfl, trivial⟩ trivial ⟨rfl, trivial⟩ ⟨rfl, trivial⟩ (by kernel_rfl) (fun j hj => ?_)
  have hL := markJ_length GNode.mark GNode.cnt xs k j
  conv => whnf
  refine ⟨fun h => ?_, fun h => ?_⟩ <;> simp only [decide_eq_true_eq, decide_eq_false_iff_not] at h <;> conv => whnf
  · have h : j < xs.length := by omega
    have g := markJ_get GNode.mark GNode.cnt xs k j default h
    have hle := wS_take_le GNode.cnt xs j h
    have hst := wS_take GNode.cnt xs j h
    generalize hy : xs.getD j default = y at g hle hst
    have hc : GNode.cnt y = 1 + 1 + 1 + (y.outs.map iCnt).sum := rfl
    (repeat (refine ⟨by first | omega | (show _ ∧ _; omega) | (simp only [List.length_set]; omega) | decide, ?_⟩; conv => whnf))
    refine storeW (j := (j : Int)) tbl_ok rfl rfl rfl rfl rfl rfl rfl rfl _ (slC_set1 (j := j) (xs := (markJ GNode.mark GNode.cnt xs k j)) (e := GNode.c) (x := ⟨k + (((xs.take j).map GNode.cnt).sum : Nat), y.a, y.b, y.outs⟩) (by omega) g (by exact rfl)) (go tbl_ok false ?_)
    conv => whnf
    (repeat (refine ⟨by first | omega | (show _ ∧ _; omega) | (simp only [List.length_set]; omega) | decide, ?_⟩; conv => whnf))
    refine storeW (j := (j : Int)) tbl_ok rfl rfl rfl rfl rfl rfl rfl rfl _ (slC_set2 (j := j) (xs := (markJ GNode.mark GNode.cnt xs k j)) (e := GNode.c) (x2 := ⟨k + (((xs.take j).map GNode.cnt).sum : Nat), k + (((xs.take j).map GNode.cnt).sum : Nat) + 1, y.b, y.outs⟩) (by omega) (by exact rfl)) (go tbl_ok false ?_)
    conv => whnf
    (repeat (refine ⟨by first | omega | (show _ ∧ _; omega) | (simp only [List.length_set]; omega) | decide, ?_⟩; conv => whnf))
    refine storeW (j := (j : Int)) tbl_ok rfl rfl rfl rfl rfl rfl rfl rfl _ (slC_set2 (j := j) (xs := (markJ GNode.mark GNode.cnt xs k j)) (e := GNode.c) (x2 := ⟨k + (((xs.take j).map GNode.cnt).sum : Nat), k + (((xs.take j).map GNode.cnt).sum : Nat) + 1, k + (((xs.take j).map GNode.cnt).sum : Nat) + 1 + 1, y.outs⟩) (by omega) (by exact rfl)) (go tbl_ok false ?_)
    conv => whnf
    (repeat (refine ⟨by first | omega | (show _ ∧ _; omega) | (simp only [List.length_set]; omega) | decide, ?_⟩; conv => whnf))
    refine focusX (j := j) (off := 3) (r := GNode.c (⟨k + (((xs.take j).map GNode.cnt).sum : Nat), k + (((xs.take j).map GNode.cnt).sum : Nat) + 1, k + (((xs.take j).map GNode.cnt).sum : Nat) + 1 + 1, y.outs⟩)) (c := sInt y.outs) tbl_ok rfl rfl rfl rfl rfl rfl ?_ rfl (fun v => go tbl_ok false ?_)
    · exact congrArg GNode.c (getD_set_self _ _ _ _ (by omega))
    conv => whnf
    refine callU (markIntS y.outs (k + (((xs.take j).map GNode.cnt).sum : Nat) + 1 + 1 + 1) (by omega) (by omega)) rfl trivial rfl rfl rfl ?_
    refine unfocusY (j := j) 0 1 3 rfl (by first | omega | (simp only [List.length_set]; omega)) rfl rfl rfl rfl (slC_back2 (j := j) (xs := (markJ GNode.mark GNode.cnt xs k j)) (e := GNode.c) (x2 := ⟨k + (((xs.take j).map GNode.cnt).sum : Nat), k + (((xs.take j).map GNode.cnt).sum : Nat) + 1, k + (((xs.take j).map GNode.cnt).sum : Nat) + 1 + 1, markL iMark iCnt y.outs (k + (((xs.take j).map GNode.cnt).sum : Nat) + 1 + 1 + 1)⟩) (by omega) (by exact rfl)) (go tbl_ok false ?_)
    conv => whnf
    (repeat (refine ⟨by first | omega | (show _ ∧ _; omega) | (simp only [List.length_set]; omega) | decide, ?_⟩; conv => whnf))
    refine loopE [] (j + 1) (by omega) (by omega) ⟨?_, rfl, trivial⟩ ⟨?_, trivial⟩ trivial (by kernel_rfl) ⟨rfl, trivial⟩ (by kernel_rfl)
    · exact congrArg (fun n => AV.c (vi n)) (by omega)
    · have e := markJ_set GNode.mark GNode.cnt xs k j h
      rw [hy] at e
      exact congrArg (fun z => slC 4 GNode.c z) e
  · refine retU tbl_ok rfl ⟨?_, trivial⟩ rfl rfl ?_ ⟨rfl, trivial⟩
    · exact congrArg (fun n => AV.c (vi n)) (by rw [List.take_of_length_le (by omega)])
    · exact congrArg (fun z => slC 4 GNode.c z) (markJ_end _ _ _ _ _ (by omega))

theorem markGraph (x : GGraph) (k : Int) (h0 : 0 ≤ k) (h1 : k + (x.cntV : Nat) ≤ 4611686018427387904) :
    MeetsU Tryz.prog 35 (.agg x.c) (.agg (x.markV k).c) [.one (vi k)] [.int .i64 (k + (x.cntV : Nat))] := by
  have hc : x.cntV = (x.nodes.map GNode.cnt).sum := rfl
  refine enterU tbl_ok false Tryz.func35 rfl (by decide) fun W may l => ?_
  conv => whnf
  refine callU (markNodeS x.nodes (k) (by omega) (by omega)) rfl trivial rfl rfl rfl (go tbl_ok false ?_)
  conv => whnf
  refine retU tbl_ok rfl ⟨?_, trivial⟩ rfl rfl (by repeat (first | exact trivial | refine ⟨rfl, ?_⟩)) (by repeat (first | exact trivial | refine ⟨rfl, ?_⟩))
  exact congrArg (fun n => AV.c (vi n)) (by omega)

theorem markRecordS (xs : List GRecord) (k : Int) (h0 : 0 ≤ k) (h1 : k + ((xs.map GRecord.cnt).sum : Nat) ≤ 4611686018427387904) :
    MeetsU Tryz.prog 65 (.one (sGRecord xs)) (.one (sGRecord (markL GRecord.mark GRecord.cnt xs k))) [.one (vi k)] [.int .i64 (k + ((xs.map GRecord.cnt).sum : Nat))] := by
  have hl : xs.length ≤ 4611686018427387904 := by have := len_le_sum GRecord.cnt xs (fun x => by simp only [GRecord.cnt]; omega); omega
  refine enterU tbl_ok false Tryz.func65 rfl (by decide) fun W may l => ?_
  conv => whnf
  refine loopW tbl_ok false [] (fun j : Nat => [(1, .c (vi (k + (((xs.take j).map GRecord.cnt).sum : Nat)))), (5, .c (vi j))]) (fun _ => []) (fun j => [⟨0, sGRecord (markJ GRecord.mark GRecord.cnt xs k j)⟩])
    (fun j => j ≤ xs.length) (fun j => xs.length - j) 0 (Nat.zero_le _) ⟨by simp [nth, ren2, ren1, ren0], rfl, trivial⟩ trivial ⟨rfl, trivial⟩ ⟨rfl, trivial⟩ (by kernel_rfl) (fun j hj => ?_)
  have hL := markJ_length GRecord.mark GRecord.cnt xs k j
  conv => whnf
  refine ⟨fun h => ?_, fun h => ?_⟩ <;> simp only [decide_eq_true_eq, decide_eq_false_iff_not] at h <;> conv => whnf
  · have h : j < xs.length := by omega
    have g := markJ_get GRecord.mark GRecord.cnt xs k j default h
    have hle := wS_take_le GRecord.cnt xs j h
    have hst := wS_take GRecord.cnt xs j h
    generalize hy : xs.getD j default = y at g hle hst
    have hc : GRecord.cnt y = 1 + 1 + 1 + 1 + 1 := rfl
    (repeat (refine ⟨by first | omega | (show _ ∧ _; omega) | (simp only [List.length_set]; omega) | decide, ?_⟩; conv => whnf))
    refine storeW (j := (j : Int)) tbl_ok rfl rfl rfl rfl rfl rfl rfl rfl _ (slC_set1 (j := j) (xs := (markJ GRecord.mark GRecord.cnt xs k j)) (e := GRecord.c) (x := ⟨k + (((xs.take j).map GRecord.cnt).sum : Nat), ⟨y.stamp.epoch, y.stamp.turn⟩, y.key, y.val⟩) (by omega) g (by exact rfl)) (go tbl_ok false ?_)
    conv => whnf
    (repeat (refine ⟨by first | omega | (show _ ∧ _; omega) | (simp only [List.length_set]; omega) | decide, ?_⟩; conv => whnf))
    refine storeW (j := (j : Int)) tbl_ok rfl rfl rfl rfl rfl rfl rfl rfl _ (slC_set2 (j := j) (xs := (markJ GRecord.mark GRecord.cnt xs k j)) (e := GRecord.c) (x2 := ⟨k + (((xs.take j).map GRecord.cnt).sum : Nat), ⟨k + (((xs.take j).map GRecord.cnt).sum : Nat) + 1, y.stamp.turn⟩, y.key, y.val⟩) (by omega) (by exact rfl)) (go tbl_ok false ?_)
    conv => whnf
    (repeat (refine ⟨by first | omega | (show _ ∧ _; omega) | (simp only [List.length_set]; omega) | decide, ?_⟩; conv => whnf))
    refine storeW (j := (j : Int)) tbl_ok rfl rfl rfl rfl rfl rfl rfl rfl _ (slC_set2 (j := j) (xs := (markJ GRecord.mark GRecord.cnt xs k j)) (e := GRecord.c) (x2 := ⟨k + (((xs.take j).map GRecord.cnt).sum : Nat), ⟨k + (((xs.take j).map GRecord.cnt).sum : Nat) + 1, k + (((xs.take j).map GRecord.cnt).sum : Nat) + 1 + 1⟩, y.key, y.val⟩) (by omega) (by exact rfl)) (go tbl_ok false ?_)
    conv => whnf
    (repeat (refine ⟨by first | omega | (show _ ∧ _; omega) | (simp only [List.length_set]; omega) | decide, ?_⟩; conv => whnf))
    refine storeW (j := (j : Int)) tbl_ok rfl rfl rfl rfl rfl rfl rfl rfl _ (slC_set2 (j := j) (xs := (markJ GRecord.mark GRecord.cnt xs k j)) (e := GRecord.c) (x2 := ⟨k + (((xs.take j).map GRecord.cnt).sum : Nat), ⟨k + (((xs.take j).map GRecord.cnt).sum : Nat) + 1, k + (((xs.take j).map GRecord.cnt).sum : Nat) + 1 + 1⟩, k + (((xs.take j).map GRecord.cnt).sum : Nat) + 1 + 1 + 1, y.val⟩) (by omega) (by exact rfl)) (go tbl_ok false ?_)
    conv => whnf
    (repeat (refine ⟨by first | omega | (show _ ∧ _; omega) | (simp only [List.length_set]; omega) | decide, ?_⟩; conv => whnf))
    refine storeW (j := (j : Int)) tbl_ok rfl rfl rfl rfl rfl rfl rfl rfl _ (slC_set2 (j := j) (xs := (markJ GRecord.mark GRecord.cnt xs k j)) (e := GRecord.c) (x2 := ⟨k + (((xs.take j).map GRecord.cnt).sum : Nat), ⟨k + (((xs.take j).map GRecord.cnt).sum : Nat) + 1, k + (((xs.take j).map GRecord.cnt).sum : Nat) + 1 + 1⟩, k + (((xs.take j).map GRecord.cnt).sum : Nat) + 1 + 1 + 1, k + (((xs.take j).map GRecord.cnt).sum : Nat) + 1 + 1 + 1 + 1⟩) (by omega) (by exact rfl)) (go tbl_ok false ?_)
    conv => whnf
    (repeat (refine ⟨by first | omega | (show _ ∧ _; omega) | (simp only [List.length_set]; omega) | decide, ?_⟩; conv => whnf))
    refine loopE [] (j + 1) (by omega) (by omega) ⟨?_, rfl, trivial⟩ ⟨?_, trivial⟩ trivial (by kernel_rfl) ⟨rfl, trivial⟩ (by kernel_rfl)
    · exact congrArg (fun n => AV.c (vi n)) (by omega)
    · have e := markJ_set GRecord.mark GRecord.cnt xs k j h
      rw [hy] at e
      exact congrArg (fun z => slC 5 GRecord.c z) e
  · refine retU tbl_ok rfl ⟨?_, trivial⟩ rfl rfl ?_ ⟨rfl, trivial⟩
    · exact congrArg (fun n => AV.c (vi n)) (by rw [List.take_of_length_le (by omega)])
    · exact congrArg (fun z => slC 5 GRecord.c z) (markJ_end _ _ _ _ _ (by omega))

theorem markCellS (xs : List GCell) (k : Int) (h0 : 0 ≤ k) (h1 : k + ((xs.map GCell.cnt).sum : Nat) ≤ 4611686018427387904) :
    MeetsU Tryz.prog 66 (.one (sGCell xs)) (.one (sGCell (markL GCell.mark GCell.cnt xs k))) [.one (vi k)] [.int .i64 (k + ((xs.map GCell.cnt).sum : Nat))] := by
  have hl : xs.length ≤ 4611686018427387904 := by have := len_le_sum GCell.cnt xs (fun x => by simp only [GCell.cnt]; omega); omega
  refine enterU tbl_ok false Tryz.func66 rfl (by decide) fun W may l => ?_
  conv => whnf
  refine loopW tbl_ok false [] (fun j : Nat => [(1, .c (vi (k + (((xs.take j).map GCell.cnt).sum : Nat)))), (5, .c (vi j))]) (fun _ => []) (fun j => [⟨0, sGCell (markJ GCell.mark GCell.cnt xs k j)⟩])
    (fun j => j ≤ xs.length) (fun j => xs.length - j) 0 (Nat.zero_le _) ⟨by simp [nth, ren2, ren1, ren0], rfl, trivial⟩ trivial ⟨rfl, trivial⟩ ⟨rfl, trivial⟩ (by kernel_rfl) (fun j hj => ?_)
  have hL := markJ_length GCell.mark GCell.cnt xs k j
  conv => whnf
  refine ⟨fun h => ?_, fun h => ?_⟩ <;> simp only [decide_eq_true_eq, decide_eq_false_iff_not] at h <;> conv => whnf
  · have h : j < xs.length := by omega
    have g := markJ_get GCell.mark GCell.cnt xs k j default h
    have hle := wS_take_le GCell.cnt xs j h
    have hst := wS_take GCell.cnt xs j h
    generalize hy : xs.getD j default = y at g hle hst
    have hc : GCell.cnt y = 1 + 1 + 1 + 1 := rfl
    (repeat (refine ⟨by first | omega | (show _ ∧ _; omega) | (simp only [List.length_set]; omega) | decide, ?_⟩; conv => whnf))
    refine storeW (j := (j : Int)) tbl_ok rfl rfl rfl rfl rfl rfl rfl rfl _ (slC_set1 (j := j) (xs := (markJ GCell.mark GCell.cnt xs k j)) (e := GCell.c) (x := ⟨k + (((xs.take j).map GCell.cnt).sum : Nat), y.epoch, y.key, y.val⟩) (by omega) g (by exact rfl)) (go tbl_ok false ?_)
    conv => whnf
    (repeat (refine ⟨by first | omega | (show _ ∧ _; omega) | (simp only [List.length_set]; omega) | decide, ?_⟩; conv => whnf))
    refine storeW (j := (j : Int)) tbl_ok rfl rfl rfl rfl rfl rfl rfl rfl _ (slC_set2 (j := j) (xs := (markJ GCell.mark GCell.cnt xs k j)) (e := GCell.c) (x2 := ⟨k + (((xs.take j).map GCell.cnt).sum : Nat), k + (((xs.take j).map GCell.cnt).sum : Nat) + 1, y.key, y.val⟩) (by omega) (by exact rfl)) (go tbl_ok false ?_)
    conv => whnf
    (repeat (refine ⟨by first | omega | (show _ ∧ _; omega) | (simp only [List.length_set]; omega) | decide, ?_⟩; conv => whnf))
    refine storeW (j := (j : Int)) tbl_ok rfl rfl rfl rfl rfl rfl rfl rfl _ (slC_set2 (j := j) (xs := (markJ GCell.mark GCell.cnt xs k j)) (e := GCell.c) (x2 := ⟨k + (((xs.take j).map GCell.cnt).sum : Nat), k + (((xs.take j).map GCell.cnt).sum : Nat) + 1, k + (((xs.take j).map GCell.cnt).sum : Nat) + 1 + 1, y.val⟩) (by omega) (by exact rfl)) (go tbl_ok false ?_)
    conv => whnf
    (repeat (refine ⟨by first | omega | (show _ ∧ _; omega) | (simp only [List.length_set]; omega) | decide, ?_⟩; conv => whnf))
    refine storeW (j := (j : Int)) tbl_ok rfl rfl rfl rfl rfl rfl rfl rfl _ (slC_set2 (j := j) (xs := (markJ GCell.mark GCell.cnt xs k j)) (e := GCell.c) (x2 := ⟨k + (((xs.take j).map GCell.cnt).sum : Nat), k + (((xs.take j).map GCell.cnt).sum : Nat) + 1, k + (((xs.take j).map GCell.cnt).sum : Nat) + 1 + 1, k + (((xs.take j).map GCell.cnt).sum : Nat) + 1 + 1 + 1⟩) (by omega) (by exact rfl)) (go tbl_ok false ?_)
    conv => whnf
    (repeat (refine ⟨by first | omega | (show _ ∧ _; omega) | (simp only [List.length_set]; omega) | decide, ?_⟩; conv => whnf))
    refine loopE [] (j + 1) (by omega) (by omega) ⟨?_, rfl, trivial⟩ ⟨?_, trivial⟩ trivial (by kernel_rfl) ⟨rfl, trivial⟩ (by kernel_rfl)
    · exact congrArg (fun n => AV.c (vi n)) (by omega)
    · have e := markJ_set GCell.mark GCell.cnt xs k j h
      rw [hy] at e
      exact congrArg (fun z => slC 4 GCell.c z) e
  · refine retU tbl_ok rfl ⟨?_, trivial⟩ rfl rfl ?_ ⟨rfl, trivial⟩
    · exact congrArg (fun n => AV.c (vi n)) (by rw [List.take_of_length_le (by omega)])
    · exact congrArg (fun z => slC 4 GCell.c z) (markJ_end _ _ _ _ _ (by omega))

theorem markBoolS (xs : List Bool) (k : Int) (h0 : 0 ≤ k) (h1 : k + ((xs.map bCnt).sum : Nat) ≤ 4611686018427387904) :
    MeetsU Tryz.prog 68 (.one (sBool xs)) (.one (sBool (markL bMark bCnt xs k))) [.one (vi k)] [.int .i64 (k + ((xs.map bCnt).sum : Nat))] := by
  have hl : xs.length ≤ 4611686018427387904 := by have := len_le_sum bCnt xs (fun x => Nat.le_refl 1); omega
  refine enterU tbl_ok false Tryz.func68 rfl (by decide) fun W may l => ?_
  conv => whnf
  refine loopW tbl_ok false [] (fun j : Nat => [(1, .c (vi (k + (((xs.take j).map bCnt).sum : Nat)))), (5, .c (vi j))]) (fun _ => []) (fun j => [⟨0, sBool (markJ bMark bCnt xs k j)⟩])
    (fun j => j ≤ xs.length) (fun j => xs.length - j) 0 (Nat.zero_le _) ⟨by simp [nth, ren2, ren1, ren0], rfl, trivial⟩ trivial ⟨rfl, trivial⟩ ⟨rfl, trivial⟩ (by kernel_rfl) (fun j hj => ?_)
  have hL := markJ_length bMark bCnt xs k j
  conv => whnf
  refine ⟨fun h => ?_, fun h => ?_⟩ <;> simp only [decide_eq_true_eq, decide_eq_false_iff_not] at h <;> conv => whnf
  · have h : j < xs.length := by omega
    have g := markJ_get bMark bCnt xs k j default h
    have hle := wS_take_le bCnt xs j h
    have hst := wS_take bCnt xs j h
    generalize hy : xs.getD j default = y at g hle hst
    have hc : bCnt y = 1 := rfl
    (repeat (refine ⟨by first | omega | (show _ ∧ _; omega) | (simp only [List.length_set]; omega) | decide, ?_⟩; conv => whnf))
    refine storeW (j := (j : Int)) tbl_ok rfl rfl rfl rfl rfl rfl rfl rfl _ (slC_set1 (j := j) (xs := (markJ bMark bCnt xs k j)) (e := (fun b => [vb b])) (x := (k + (((xs.take j).map bCnt).sum : Nat)).tmod 3 == 0) (by omega) g (by exact rfl)) (go tbl_ok false ?_)
    conv => whnf
    (repeat (refine ⟨by first | omega | (show _ ∧ _; omega) | (simp only [List.length_set]; omega) | decide, ?_⟩; conv => whnf))
    refine loopE [] (j + 1) (by omega) (by omega) ⟨?_, rfl, trivial⟩ ⟨?_, trivial⟩ trivial (by kernel_rfl) ⟨rfl, trivial⟩ (by kernel_rfl)
    · exact congrArg (fun n => AV.c (vi n)) (by omega)
    · have e := markJ_set bMark bCnt xs k j h
      rw [hy] at e
      exact congrArg (fun z => slC 1 (fun b => [vb b]) z) e
  · refine retU tbl_ok rfl ⟨?_, trivial⟩ rfl rfl ?_ ⟨rfl, trivial⟩
    · exact congrArg (fun n => AV.c (vi n)) (by rw [List.take_of_length_le (by omega)])
    · exact congrArg (fun z => slC 1 (fun b => [vb b]) z) (markJ_end _ _ _ _ _ (by omega))

theorem markDoneS (xs : List GDone) (k : Int) (h0 : 0 ≤ k) (h1 : k + ((xs.map GDone.cnt).sum : Nat) ≤ 4611686018427387904) :
    MeetsU Tryz.prog 69 (.one (sGDone xs)) (.one (sGDone (markL GDone.mark GDone.cnt xs k))) [.one (vi k)] [.int .i64 (k + ((xs.map GDone.cnt).sum : Nat))] := by
  have hl : xs.length ≤ 4611686018427387904 := by have := len_le_sum GDone.cnt xs (fun x => by simp only [GDone.cnt]; omega); omega
  refine enterU tbl_ok false Tryz.func69 rfl (by decide) fun W may l => ?_
  conv => whnf
  refine loopW tbl_ok false [] (fun j : Nat => [(1, .c (vi (k + (((xs.take j).map GDone.cnt).sum : Nat)))), (5, .c (vi j))]) (fun _ => []) (fun j => [⟨0, sGDone (markJ GDone.mark GDone.cnt xs k j)⟩])
    (fun j => j ≤ xs.length) (fun j => xs.length - j) 0 (Nat.zero_le _) ⟨by simp [nth, ren2, ren1, ren0], rfl, trivial⟩ trivial ⟨rfl, trivial⟩ ⟨rfl, trivial⟩ (by kernel_rfl) (fun j hj => ?_)
  have hL := markJ_length GDone.mark GDone.cnt xs k j
  conv => whnf
  refine ⟨fun h => ?_, fun h => ?_⟩ <;> simp only [decide_eq_true_eq, decide_eq_false_iff_not] at h <;> conv => whnf
  · have h : j < xs.length := by omega
    have g := markJ_get GDone.mark GDone.cnt xs k j default h
    have hle := wS_take_le GDone.cnt xs j h
    have hst := wS_take GDone.cnt xs j h
    generalize hy : xs.getD j default = y at g hle hst
    have hc : GDone.cnt y = 1 + 1 := rfl
    (repeat (refine ⟨by first | omega | (show _ ∧ _; omega) | (simp only [List.length_set]; omega) | decide, ?_⟩; conv => whnf))
    refine storeW (j := (j : Int)) tbl_ok rfl rfl rfl rfl rfl rfl rfl rfl _ (slC_set1 (j := j) (xs := (markJ GDone.mark GDone.cnt xs k j)) (e := GDone.c) (x := ⟨k + (((xs.take j).map GDone.cnt).sum : Nat), y.capped⟩) (by omega) g (by exact rfl)) (go tbl_ok false ?_)
    conv => whnf
    (repeat (refine ⟨by first | omega | (show _ ∧ _; omega) | (simp only [List.length_set]; omega) | decide, ?_⟩; conv => whnf))
    refine storeW (j := (j : Int)) tbl_ok rfl rfl rfl rfl rfl rfl rfl rfl _ (slC_set2 (j := j) (xs := (markJ GDone.mark GDone.cnt xs k j)) (e := GDone.c) (x2 := ⟨k + (((xs.take j).map GDone.cnt).sum : Nat), (k + (((xs.take j).map GDone.cnt).sum : Nat) + 1).tmod 3 == 0⟩) (by omega) (by exact rfl)) (go tbl_ok false ?_)
    conv => whnf
    (repeat (refine ⟨by first | omega | (show _ ∧ _; omega) | (simp only [List.length_set]; omega) | decide, ?_⟩; conv => whnf))
    refine loopE [] (j + 1) (by omega) (by omega) ⟨?_, rfl, trivial⟩ ⟨?_, trivial⟩ trivial (by kernel_rfl) ⟨rfl, trivial⟩ (by kernel_rfl)
    · exact congrArg (fun n => AV.c (vi n)) (by omega)
    · have e := markJ_set GDone.mark GDone.cnt xs k j h
      rw [hy] at e
      exact congrArg (fun z => slC 2 GDone.c z) e
  · refine retU tbl_ok rfl ⟨?_, trivial⟩ rfl rfl ?_ ⟨rfl, trivial⟩
    · exact congrArg (fun n => AV.c (vi n)) (by rw [List.take_of_length_le (by omega)])
    · exact congrArg (fun z => slC 2 GDone.c z) (markJ_end _ _ _ _ _ (by omega))

theorem markWorkerS (xs : List GWorker) (k : Int) (hl : xs.length ≤ 4611686018427387904) (h0 : 0 ≤ k) (h1 : k + ((xs.map GWorker.cnt).sum : Nat) ≤ 4611686018427387904) :
    MeetsU Tryz.prog 36 (.one (sGWorker xs)) (.one (sGWorker (markL GWorker.mark GWorker.cnt xs k))) [.one (vi k)] [.int .i64 (k + ((xs.map GWorker.cnt).sum : Nat))] := by
  refine enterU tbl_ok false Tryz.func36 rfl (by decide) fun W may l => ?_
  conv => whnf
  refine loopW tbl_ok false [] (fun j : Nat => [(1, .c (vi (k + (((xs.take j).map GWorker.cnt).sum : Nat)))), (5, .c (vi j))]) (fun _ => []) (fun j => [⟨0, sGWorker (markJ GWorker.mark GWorker.cnt xs k j)⟩])
    (fun j => j ≤ xs.length) (fun j => xs.length - j) 0 (Nat.zero_le _) ⟨by simp [nth, ren2, ren1, ren0], rfl, trivial⟩ trivial ⟨rfl, trivial⟩ ⟨rfl, trivial⟩ (by kernel_rfl) (fun j hj => ?_)
  have hL := markJ_length GWorker.mark GWorker.cnt xs k j
  conv => whnf
  refine ⟨fun h => ?_, fun h => ?_⟩ <;> simp only [decide_eq_true_eq, decide_eq_false_iff_not] at h <;> conv => whnf
  · have h : j < xs.length := by omega
    have g := markJ_get GWorker.mark GWorker.cnt xs k j default h
    have hle := wS_take_le GWorker.cnt xs j h
    have hst := wS_take GWorker.cnt xs j h
    generalize hy : xs.getD j default = y at g hle hst
    have hc : GWorker.cnt y = (y.queue.map GRecord.cnt).sum + (y.staged.map GRecord.cnt).sum + (y.inputs.map GRecord.cnt).sum + (y.cells.map GCell.cnt).sum + (y.sums.map iCnt).sum + (y.black.map bCnt).sum + (y.caps.map bCnt).sum + (y.dones.map GDone.cnt).sum := rfl
    (repeat (refine ⟨by first | omega | (show _ ∧ _; omega) | (simp only [List.length_set]; omega) | decide, ?_⟩; conv => whnf))
    refine focusX (j := j) (off := 0) (r := GWorker.c (⟨y.queue, y.staged, y.inputs, y.cells, y.sums, y.black, y.caps, y.dones⟩)) (c := sGRecord y.queue) tbl_ok rfl rfl rfl rfl rfl rfl ?_ rfl (fun v => go tbl_ok false ?_)
    · exact congrArg GWorker.c g
    conv => whnf
    refine callU (markRecordS y.queue (k + (((xs.take j).map GWorker.cnt).sum : Nat)) (by omega) (by omega)) rfl trivial rfl rfl rfl ?_
    refine unfocusY (j := j) 0 1 0 rfl (by first | omega | (simp only [List.length_set]; omega)) rfl rfl rfl rfl (slC_back1 (j := j) (xs := (markJ GWorker.mark GWorker.cnt xs k j)) (e := GWorker.c) (x2 := ⟨markL GRecord.mark GRecord.cnt y.queue (k + (((xs.take j).map GWorker.cnt).sum : Nat)), y.staged, y.inputs, y.cells, y.sums, y.black, y.caps, y.dones⟩) (by omega) (by exact rfl)) (go tbl_ok false ?_)
    conv => whnf
    (repeat (refine ⟨by first | omega | (show _ ∧ _; omega) | (simp only [List.length_set]; omega) | decide, ?_⟩; conv => whnf))
    refine focusX (j := j) (off := 1) (r := GWorker.c (⟨markL GRecord.mark GRecord.cnt y.queue (k + (((xs.take j).map GWorker.cnt).sum : Nat)), y.staged, y.inputs, y.cells, y.sums, y.black, y.caps, y.dones⟩)) (c := sGRecord y.staged) tbl_ok rfl rfl rfl rfl rfl rfl ?_ rfl (fun v => go tbl_ok false ?_)
    · exact congrArg GWorker.c (getD_set_self _ _ _ _ (by omega))
    conv => whnf
    refine callU (markRecordS y.staged (k + (((xs.take j).map GWorker.cnt).sum : Nat) + ((y.queue.map GRecord.cnt).sum : Nat)) (by omega) (by omega)) rfl trivial rfl rfl rfl ?_
    refine unfocusY (j := j) 0 2 1 rfl (by first | omega | (simp only [List.length_set]; omega)) rfl rfl rfl rfl (slC_back2 (j := j) (xs := (markJ GWorker.mark GWorker.cnt xs k j)) (e := GWorker.c) (x2 := ⟨markL GRecord.mark GRecord.cnt y.queue (k + (((xs.take j).map GWorker.cnt).sum : Nat)), markL GRecord.mark GRecord.cnt y.staged (k + (((xs.take j).map GWorker.cnt).sum : Nat) + ((y.queue.map GRecord.cnt).sum : Nat)), y.inputs, y.cells, y.sums, y.black, y.caps, y.dones⟩) (by omega) (by exact rfl)) (go tbl_ok false ?_)
    conv => whnf
    (repeat (refine ⟨by first | omega | (show _ ∧ _; omega) | (simp only [List.length_set]; omega) | decide, ?_⟩; conv => whnf))
    refine focusX (j := j) (off := 2) (r := GWorker.c (⟨markL GRecord.mark GRecord.cnt y.queue (k + (((xs.take j).map GWorker.cnt).sum : Nat)), markL GRecord.mark GRecord.cnt y.staged (k + (((xs.take j).map GWorker.cnt).sum : Nat) + ((y.queue.map GRecord.cnt).sum : Nat)), y.inputs, y.cells, y.sums, y.black, y.caps, y.dones⟩)) (c := sGRecord y.inputs) tbl_ok rfl rfl rfl rfl rfl rfl ?_ rfl (fun v => go tbl_ok false ?_)
    · exact congrArg GWorker.c (getD_set_self _ _ _ _ (by omega))
    conv => whnf
    refine callU (markRecordS y.inputs (k + (((xs.take j).map GWorker.cnt).sum : Nat) + ((y.queue.map GRecord.cnt).sum : Nat) + ((y.staged.map GRecord.cnt).sum : Nat)) (by omega) (by omega)) rfl trivial rfl rfl rfl ?_
    refine unfocusY (j := j) 0 3 2 rfl (by first | omega | (simp only [List.length_set]; omega)) rfl rfl rfl rfl (slC_back2 (j := j) (xs := (markJ GWorker.mark GWorker.cnt xs k j)) (e := GWorker.c) (x2 := ⟨markL GRecord.mark GRecord.cnt y.queue (k + (((xs.take j).map GWorker.cnt).sum : Nat)), markL GRecord.mark GRecord.cnt y.staged (k + (((xs.take j).map GWorker.cnt).sum : Nat) + ((y.queue.map GRecord.cnt).sum : Nat)), markL GRecord.mark GRecord.cnt y.inputs (k + (((xs.take j).map GWorker.cnt).sum : Nat) + ((y.queue.map GRecord.cnt).sum : Nat) + ((y.staged.map GRecord.cnt).sum : Nat)), y.cells, y.sums, y.black, y.caps, y.dones⟩) (by omega) (by exact rfl)) (go tbl_ok false ?_)
    conv => whnf
    (repeat (refine ⟨by first | omega | (show _ ∧ _; omega) | (simp only [List.length_set]; omega) | decide, ?_⟩; conv => whnf))
    refine focusX (j := j) (off := 3) (r := GWorker.c (⟨markL GRecord.mark GRecord.cnt y.queue (k + (((xs.take j).map GWorker.cnt).sum : Nat)), markL GRecord.mark GRecord.cnt y.staged (k + (((xs.take j).map GWorker.cnt).sum : Nat) + ((y.queue.map GRecord.cnt).sum : Nat)), markL GRecord.mark GRecord.cnt y.inputs (k + (((xs.take j).map GWorker.cnt).sum : Nat) + ((y.queue.map GRecord.cnt).sum : Nat) + ((y.staged.map GRecord.cnt).sum : Nat)), y.cells, y.sums, y.black, y.caps, y.dones⟩)) (c := sGCell y.cells) tbl_ok rfl rfl rfl rfl rfl rfl ?_ rfl (fun v => go tbl_ok false ?_)
    · exact congrArg GWorker.c (getD_set_self _ _ _ _ (by omega))
    conv => whnf
    refine callU (markCellS y.cells (k + (((xs.take j).map GWorker.cnt).sum : Nat) + ((y.queue.map GRecord.cnt).sum : Nat) + ((y.staged.map GRecord.cnt).sum : Nat) + ((y.inputs.map GRecord.cnt).sum : Nat)) (by omega) (by omega)) rfl trivial rfl rfl rfl ?_
    refine unfocusY (j := j) 0 4 3 rfl (by first | omega | (simp only [List.length_set]; omega)) rfl rfl rfl rfl (slC_back2 (j := j) (xs := (markJ GWorker.mark GWorker.cnt xs k j)) (e := GWorker.c) (x2 := ⟨markL GRecord.mark GRecord.cnt y.queue (k + (((xs.take j).map GWorker.cnt).sum : Nat)), markL GRecord.mark GRecord.cnt y.staged (k + (((xs.take j).map GWorker.cnt).sum : Nat) + ((y.queue.map GRecord.cnt).sum : Nat)), markL GRecord.mark GRecord.cnt y.inputs (k + (((xs.take j).map GWorker.cnt).sum : Nat) + ((y.queue.map GRecord.cnt).sum : Nat) + ((y.staged.map GRecord.cnt).sum : Nat)), markL GCell.mark GCell.cnt y.cells (k + (((xs.take j).map GWorker.cnt).sum : Nat) + ((y.queue.map GRecord.cnt).sum : Nat) + ((y.staged.map GRecord.cnt).sum : Nat) + ((y.inputs.map GRecord.cnt).sum : Nat)), y.sums, y.black, y.caps, y.dones⟩) (by omega) (by exact rfl)) (go tbl_ok false ?_)
    conv => whnf
    (repeat (refine ⟨by first | omega | (show _ ∧ _; omega) | (simp only [List.length_set]; omega) | decide, ?_⟩; conv => whnf))
    refine focusX (j := j) (off := 4) (r := GWorker.c (⟨markL GRecord.mark GRecord.cnt y.queue (k + (((xs.take j).map GWorker.cnt).sum : Nat)), markL GRecord.mark GRecord.cnt y.staged (k + (((xs.take j).map GWorker.cnt).sum : Nat) + ((y.queue.map GRecord.cnt).sum : Nat)), markL GRecord.mark GRecord.cnt y.inputs (k + (((xs.take j).map GWorker.cnt).sum : Nat) + ((y.queue.map GRecord.cnt).sum : Nat) + ((y.staged.map GRecord.cnt).sum : Nat)), markL GCell.mark GCell.cnt y.cells (k + (((xs.take j).map GWorker.cnt).sum : Nat) + ((y.queue.map GRecord.cnt).sum : Nat) + ((y.staged.map GRecord.cnt).sum : Nat) + ((y.inputs.map GRecord.cnt).sum : Nat)), y.sums, y.black, y.caps, y.dones⟩)) (c := sInt y.sums) tbl_ok rfl rfl rfl rfl rfl rfl ?_ rfl (fun v => go tbl_ok false ?_)
    · exact congrArg GWorker.c (getD_set_self _ _ _ _ (by omega))
    conv => whnf
    refine callU (markIntS y.sums (k + (((xs.take j).map GWorker.cnt).sum : Nat) + ((y.queue.map GRecord.cnt).sum : Nat) + ((y.staged.map GRecord.cnt).sum : Nat) + ((y.inputs.map GRecord.cnt).sum : Nat) + ((y.cells.map GCell.cnt).sum : Nat)) (by omega) (by omega)) rfl trivial rfl rfl rfl ?_
    refine unfocusY (j := j) 0 5 4 rfl (by first | omega | (simp only [List.length_set]; omega)) rfl rfl rfl rfl (slC_back2 (j := j) (xs := (markJ GWorker.mark GWorker.cnt xs k j)) (e := GWorker.c) (x2 := ⟨markL GRecord.mark GRecord.cnt y.queue (k + (((xs.take j).map GWorker.cnt).sum : Nat)), markL GRecord.mark GRecord.cnt y.staged (k + (((xs.take j).map GWorker.cnt).sum : Nat) + ((y.queue.map GRecord.cnt).sum : Nat)), markL GRecord.mark GRecord.cnt y.inputs (k + (((xs.take j).map GWorker.cnt).sum : Nat) + ((y.queue.map GRecord.cnt).sum : Nat) + ((y.staged.map GRecord.cnt).sum : Nat)), markL GCell.mark GCell.cnt y.cells (k + (((xs.take j).map GWorker.cnt).sum : Nat) + ((y.queue.map GRecord.cnt).sum : Nat) + ((y.staged.map GRecord.cnt).sum : Nat) + ((y.inputs.map GRecord.cnt).sum : Nat)), markL iMark iCnt y.sums (k + (((xs.take j).map GWorker.cnt).sum : Nat) + ((y.queue.map GRecord.cnt).sum : Nat) + ((y.staged.map GRecord.cnt).sum : Nat) + ((y.inputs.map GRecord.cnt).sum : Nat) + ((y.cells.map GCell.cnt).sum : Nat)), y.black, y.caps, y.dones⟩) (by omega) (by exact rfl)) (go tbl_ok false ?_)
    conv => whnf
    (repeat (refine ⟨by first | omega | (show _ ∧ _; omega) | (simp only [List.length_set]; omega) | decide, ?_⟩; conv => whnf))
    refine focusX (j := j) (off := 5) (r := GWorker.c (⟨markL GRecord.mark GRecord.cnt y.queue (k + (((xs.take j).map GWorker.cnt).sum : Nat)), markL GRecord.mark GRecord.cnt y.staged (k + (((xs.take j).map GWorker.cnt).sum : Nat) + ((y.queue.map GRecord.cnt).sum : Nat)), markL GRecord.mark GRecord.cnt y.inputs (k + (((xs.take j).map GWorker.cnt).sum : Nat) + ((y.queue.map GRecord.cnt).sum : Nat) + ((y.staged.map GRecord.cnt).sum : Nat)), markL GCell.mark GCell.cnt y.cells (k + (((xs.take j).map GWorker.cnt).sum : Nat) + ((y.queue.map GRecord.cnt).sum : Nat) + ((y.staged.map GRecord.cnt).sum : Nat) + ((y.inputs.map GRecord.cnt).sum : Nat)), markL iMark iCnt y.sums (k + (((xs.take j).map GWorker.cnt).sum : Nat) + ((y.queue.map GRecord.cnt).sum : Nat) + ((y.staged.map GRecord.cnt).sum : Nat) + ((y.inputs.map GRecord.cnt).sum : Nat) + ((y.cells.map GCell.cnt).sum : Nat)), y.black, y.caps, y.dones⟩)) (c := sBool y.black) tbl_ok rfl rfl rfl rfl rfl rfl ?_ rfl (fun v => go tbl_ok false ?_)
    · exact congrArg GWorker.c (getD_set_self _ _ _ _ (by omega))
    conv => whnf
    refine callU (markBoolS y.black (k + (((xs.take j).map GWorker.cnt).sum : Nat) + ((y.queue.map GRecord.cnt).sum : Nat) + ((y.staged.map GRecord.cnt).sum : Nat) + ((y.inputs.map GRecord.cnt).sum : Nat) + ((y.cells.map GCell.cnt).sum : Nat) + ((y.sums.map iCnt).sum : Nat)) (by omega) (by omega)) rfl trivial rfl rfl rfl ?_
    refine unfocusY (j := j) 0 6 5 rfl (by first | omega | (simp only [List.length_set]; omega)) rfl rfl rfl rfl (slC_back2 (j := j) (xs := (markJ GWorker.mark GWorker.cnt xs k j)) (e := GWorker.c) (x2 := ⟨markL GRecord.mark GRecord.cnt y.queue (k + (((xs.take j).map GWorker.cnt).sum : Nat)), markL GRecord.mark GRecord.cnt y.staged (k + (((xs.take j).map GWorker.cnt).sum : Nat) + ((y.queue.map GRecord.cnt).sum : Nat)), markL GRecord.mark GRecord.cnt y.inputs (k + (((xs.take j).map GWorker.cnt).sum : Nat) + ((y.queue.map GRecord.cnt).sum : Nat) + ((y.staged.map GRecord.cnt).sum : Nat)), markL GCell.mark GCell.cnt y.cells (k + (((xs.take j).map GWorker.cnt).sum : Nat) + ((y.queue.map GRecord.cnt).sum : Nat) + ((y.staged.map GRecord.cnt).sum : Nat) + ((y.inputs.map GRecord.cnt).sum : Nat)), markL iMark iCnt y.sums (k + (((xs.take j).map GWorker.cnt).sum : Nat) + ((y.queue.map GRecord.cnt).sum : Nat) + ((y.staged.map GRecord.cnt).sum : Nat) + ((y.inputs.map GRecord.cnt).sum : Nat) + ((y.cells.map GCell.cnt).sum : Nat)), markL bMark bCnt y.black (k + (((xs.take j).map GWorker.cnt).sum : Nat) + ((y.queue.map GRecord.cnt).sum : Nat) + ((y.staged.map GRecord.cnt).sum : Nat) + ((y.inputs.map GRecord.cnt).sum : Nat) + ((y.cells.map GCell.cnt).sum : Nat) + ((y.sums.map iCnt).sum : Nat)), y.caps, y.dones⟩) (by omega) (by exact rfl)) (go tbl_ok false ?_)
    conv => whnf
    (repeat (refine ⟨by first | omega | (show _ ∧ _; omega) | (simp only [List.length_set]; omega) | decide, ?_⟩; conv => whnf))
    refine focusX (j := j) (off := 6) (r := GWorker.c (⟨markL GRecord.mark GRecord.cnt y.queue (k + (((xs.take j).map GWorker.cnt).sum : Nat)), markL GRecord.mark GRecord.cnt y.staged (k + (((xs.take j).map GWorker.cnt).sum : Nat) + ((y.queue.map GRecord.cnt).sum : Nat)), markL GRecord.mark GRecord.cnt y.inputs (k + (((xs.take j).map GWorker.cnt).sum : Nat) + ((y.queue.map GRecord.cnt).sum : Nat) + ((y.staged.map GRecord.cnt).sum : Nat)), markL GCell.mark GCell.cnt y.cells (k + (((xs.take j).map GWorker.cnt).sum : Nat) + ((y.queue.map GRecord.cnt).sum : Nat) + ((y.staged.map GRecord.cnt).sum : Nat) + ((y.inputs.map GRecord.cnt).sum : Nat)), markL iMark iCnt y.sums (k + (((xs.take j).map GWorker.cnt).sum : Nat) + ((y.queue.map GRecord.cnt).sum : Nat) + ((y.staged.map GRecord.cnt).sum : Nat) + ((y.inputs.map GRecord.cnt).sum : Nat) + ((y.cells.map GCell.cnt).sum : Nat)), markL bMark bCnt y.black (k + (((xs.take j).map GWorker.cnt).sum : Nat) + ((y.queue.map GRecord.cnt).sum : Nat) + ((y.staged.map GRecord.cnt).sum : Nat) + ((y.inputs.map GRecord.cnt).sum : Nat) + ((y.cells.map GCell.cnt).sum : Nat) + ((y.sums.map iCnt).sum : Nat)), y.caps, y.dones⟩)) (c := sBool y.caps) tbl_ok rfl rfl rfl rfl rfl rfl ?_ rfl (fun v => go tbl_ok false ?_)
    · exact congrArg GWorker.c (getD_set_self _ _ _ _ (by omega))
    conv => whnf
    refine callU (markBoolS y.caps (k + (((xs.take j).map GWorker.cnt).sum : Nat) + ((y.queue.map GRecord.cnt).sum : Nat) + ((y.staged.map GRecord.cnt).sum : Nat) + ((y.inputs.map GRecord.cnt).sum : Nat) + ((y.cells.map GCell.cnt).sum : Nat) + ((y.sums.map iCnt).sum : Nat) + ((y.black.map bCnt).sum : Nat)) (by omega) (by omega)) rfl trivial rfl rfl rfl ?_
    refine unfocusY (j := j) 0 7 6 rfl (by first | omega | (simp only [List.length_set]; omega)) rfl rfl rfl rfl (slC_back2 (j := j) (xs := (markJ GWorker.mark GWorker.cnt xs k j)) (e := GWorker.c) (x2 := ⟨markL GRecord.mark GRecord.cnt y.queue (k + (((xs.take j).map GWorker.cnt).sum : Nat)), markL GRecord.mark GRecord.cnt y.staged (k + (((xs.take j).map GWorker.cnt).sum : Nat) + ((y.queue.map GRecord.cnt).sum : Nat)), markL GRecord.mark GRecord.cnt y.inputs (k + (((xs.take j).map GWorker.cnt).sum : Nat) + ((y.queue.map GRecord.cnt).sum : Nat) + ((y.staged.map GRecord.cnt).sum : Nat)), markL GCell.mark GCell.cnt y.cells (k + (((xs.take j).map GWorker.cnt).sum : Nat) + ((y.queue.map GRecord.cnt).sum : Nat) + ((y.staged.map GRecord.cnt).sum : Nat) + ((y.inputs.map GRecord.cnt).sum : Nat)), markL iMark iCnt y.sums (k + (((xs.take j).map GWorker.cnt).sum : Nat) + ((y.queue.map GRecord.cnt).sum : Nat) + ((y.staged.map GRecord.cnt).sum : Nat) + ((y.inputs.map GRecord.cnt).sum : Nat) + ((y.cells.map GCell.cnt).sum : Nat)), markL bMark bCnt y.black (k + (((xs.take j).map GWorker.cnt).sum : Nat) + ((y.queue.map GRecord.cnt).sum : Nat) + ((y.staged.map GRecord.cnt).sum : Nat) + ((y.inputs.map GRecord.cnt).sum : Nat) + ((y.cells.map GCell.cnt).sum : Nat) + ((y.sums.map iCnt).sum : Nat)), markL bMark bCnt y.caps (k + (((xs.take j).map GWorker.cnt).sum : Nat) + ((y.queue.map GRecord.cnt).sum : Nat) + ((y.staged.map GRecord.cnt).sum : Nat) + ((y.inputs.map GRecord.cnt).sum : Nat) + ((y.cells.map GCell.cnt).sum : Nat) + ((y.sums.map iCnt).sum : Nat) + ((y.black.map bCnt).sum : Nat)), y.dones⟩) (by omega) (by exact rfl)) (go tbl_ok false ?_)
    conv => whnf
    (repeat (refine ⟨by first | omega | (show _ ∧ _; omega) | (simp only [List.length_set]; omega) | decide, ?_⟩; conv => whnf))
    refine focusX (j := j) (off := 7) (r := GWorker.c (⟨markL GRecord.mark GRecord.cnt y.queue (k + (((xs.take j).map GWorker.cnt).sum : Nat)), markL GRecord.mark GRecord.cnt y.staged (k + (((xs.take j).map GWorker.cnt).sum : Nat) + ((y.queue.map GRecord.cnt).sum : Nat)), markL GRecord.mark GRecord.cnt y.inputs (k + (((xs.take j).map GWorker.cnt).sum : Nat) + ((y.queue.map GRecord.cnt).sum : Nat) + ((y.staged.map GRecord.cnt).sum : Nat)), markL GCell.mark GCell.cnt y.cells (k + (((xs.take j).map GWorker.cnt).sum : Nat) + ((y.queue.map GRecord.cnt).sum : Nat) + ((y.staged.map GRecord.cnt).sum : Nat) + ((y.inputs.map GRecord.cnt).sum : Nat)), markL iMark iCnt y.sums (k + (((xs.take j).map GWorker.cnt).sum : Nat) + ((y.queue.map GRecord.cnt).sum : Nat) + ((y.staged.map GRecord.cnt).sum : Nat) + ((y.inputs.map GRecord.cnt).sum : Nat) + ((y.cells.map GCell.cnt).sum : Nat)), markL bMark bCnt y.black (k + (((xs.take j).map GWorker.cnt).sum : Nat) + ((y.queue.map GRecord.cnt).sum : Nat) + ((y.staged.map GRecord.cnt).sum : Nat) + ((y.inputs.map GRecord.cnt).sum : Nat) + ((y.cells.map GCell.cnt).sum : Nat) + ((y.sums.map iCnt).sum : Nat)), markL bMark bCnt y.caps (k + (((xs.take j).map GWorker.cnt).sum : Nat) + ((y.queue.map GRecord.cnt).sum : Nat) + ((y.staged.map GRecord.cnt).sum : Nat) + ((y.inputs.map GRecord.cnt).sum : Nat) + ((y.cells.map GCell.cnt).sum : Nat) + ((y.sums.map iCnt).sum : Nat) + ((y.black.map bCnt).sum : Nat)), y.dones⟩)) (c := sGDone y.dones) tbl_ok rfl rfl rfl rfl rfl rfl ?_ rfl (fun v => go tbl_ok false ?_)
    · exact congrArg GWorker.c (getD_set_self _ _ _ _ (by omega))
    conv => whnf
    refine callU (markDoneS y.dones (k + (((xs.take j).map GWorker.cnt).sum : Nat) + ((y.queue.map GRecord.cnt).sum : Nat) + ((y.staged.map GRecord.cnt).sum : Nat) + ((y.inputs.map GRecord.cnt).sum : Nat) + ((y.cells.map GCell.cnt).sum : Nat) + ((y.sums.map iCnt).sum : Nat) + ((y.black.map bCnt).sum : Nat) + ((y.caps.map bCnt).sum : Nat)) (by omega) (by omega)) rfl trivial rfl rfl rfl ?_
    refine unfocusY (j := j) 0 8 7 rfl (by first | omega | (simp only [List.length_set]; omega)) rfl rfl rfl rfl (slC_back2 (j := j) (xs := (markJ GWorker.mark GWorker.cnt xs k j)) (e := GWorker.c) (x2 := ⟨markL GRecord.mark GRecord.cnt y.queue (k + (((xs.take j).map GWorker.cnt).sum : Nat)), markL GRecord.mark GRecord.cnt y.staged (k + (((xs.take j).map GWorker.cnt).sum : Nat) + ((y.queue.map GRecord.cnt).sum : Nat)), markL GRecord.mark GRecord.cnt y.inputs (k + (((xs.take j).map GWorker.cnt).sum : Nat) + ((y.queue.map GRecord.cnt).sum : Nat) + ((y.staged.map GRecord.cnt).sum : Nat)), markL GCell.mark GCell.cnt y.cells (k + (((xs.take j).map GWorker.cnt).sum : Nat) + ((y.queue.map GRecord.cnt).sum : Nat) + ((y.staged.map GRecord.cnt).sum : Nat) + ((y.inputs.map GRecord.cnt).sum : Nat)), markL iMark iCnt y.sums (k + (((xs.take j).map GWorker.cnt).sum : Nat) + ((y.queue.map GRecord.cnt).sum : Nat) + ((y.staged.map GRecord.cnt).sum : Nat) + ((y.inputs.map GRecord.cnt).sum : Nat) + ((y.cells.map GCell.cnt).sum : Nat)), markL bMark bCnt y.black (k + (((xs.take j).map GWorker.cnt).sum : Nat) + ((y.queue.map GRecord.cnt).sum : Nat) + ((y.staged.map GRecord.cnt).sum : Nat) + ((y.inputs.map GRecord.cnt).sum : Nat) + ((y.cells.map GCell.cnt).sum : Nat) + ((y.sums.map iCnt).sum : Nat)), markL bMark bCnt y.caps (k + (((xs.take j).map GWorker.cnt).sum : Nat) + ((y.queue.map GRecord.cnt).sum : Nat) + ((y.staged.map GRecord.cnt).sum : Nat) + ((y.inputs.map GRecord.cnt).sum : Nat) + ((y.cells.map GCell.cnt).sum : Nat) + ((y.sums.map iCnt).sum : Nat) + ((y.black.map bCnt).sum : Nat)), markL GDone.mark GDone.cnt y.dones (k + (((xs.take j).map GWorker.cnt).sum : Nat) + ((y.queue.map GRecord.cnt).sum : Nat) + ((y.staged.map GRecord.cnt).sum : Nat) + ((y.inputs.map GRecord.cnt).sum : Nat) + ((y.cells.map GCell.cnt).sum : Nat) + ((y.sums.map iCnt).sum : Nat) + ((y.black.map bCnt).sum : Nat) + ((y.caps.map bCnt).sum : Nat))⟩) (by omega) (by exact rfl)) (go tbl_ok false ?_)
    conv => whnf
    (repeat (refine ⟨by first | omega | (show _ ∧ _; omega) | (simp only [List.length_set]; omega) | decide, ?_⟩; conv => whnf))
    refine loopE [] (j + 1) (by omega) (by omega) ⟨?_, rfl, trivial⟩ ⟨?_, trivial⟩ trivial (by kernel_rfl) ⟨rfl, trivial⟩ (by kernel_rfl)
    · exact congrArg (fun n => AV.c (vi n)) (by omega)
    · have e := markJ_set GWorker.mark GWorker.cnt xs k j h
      rw [hy] at e
      exact congrArg (fun z => slC 8 GWorker.c z) e
  · refine retU tbl_ok rfl ⟨?_, trivial⟩ rfl rfl ?_ ⟨rfl, trivial⟩
    · exact congrArg (fun n => AV.c (vi n)) (by rw [List.take_of_length_le (by omega)])
    · exact congrArg (fun z => slC 8 GWorker.c z) (markJ_end _ _ _ _ _ (by omega))

theorem markLinkS (xs : List GLink) (k : Int) (h0 : 0 ≤ k) (h1 : k + ((xs.map GLink.cnt).sum : Nat) ≤ 4611686018427387904) :
    MeetsU Tryz.prog 37 (.one (sGLink xs)) (.one (sGLink (markL GLink.mark GLink.cnt xs k))) [.one (vi k)] [.int .i64 (k + ((xs.map GLink.cnt).sum : Nat))] := by
  have hl : xs.length ≤ 4611686018427387904 := by have := len_le_sum GLink.cnt xs (fun x => by simp only [GLink.cnt]; omega); omega
  refine enterU tbl_ok false Tryz.func37 rfl (by decide) fun W may l => ?_
  conv => whnf
  refine loopW tbl_ok false [] (fun j : Nat => [(1, .c (vi (k + (((xs.take j).map GLink.cnt).sum : Nat)))), (5, .c (vi j))]) (fun _ => []) (fun j => [⟨0, sGLink (markJ GLink.mark GLink.cnt xs k j)⟩])
    (fun j => j ≤ xs.length) (fun j => xs.length - j) 0 (Nat.zero_le _) ⟨by simp [nth, ren2, ren1, ren0], rfl, trivial⟩ trivial ⟨rfl, trivial⟩ ⟨rfl, trivial⟩ (by kernel_rfl) (fun j hj => ?_)
  have hL := markJ_length GLink.mark GLink.cnt xs k j
  conv => whnf
  refine ⟨fun h => ?_, fun h => ?_⟩ <;> simp only [decide_eq_true_eq, decide_eq_false_iff_not] at h <;> conv => whnf
  · have h : j < xs.length := by omega
    have g := markJ_get GLink.mark GLink.cnt xs k j default h
    have hle := wS_take_le GLink.cnt xs j h
    have hst := wS_take GLink.cnt xs j h
    generalize hy : xs.getD j default = y at g hle hst
    have hc : GLink.cnt y = 1 + (y.queue.map GRecord.cnt).sum + 1 + 1 + 1 + 1 := rfl
    (repeat (refine ⟨by first | omega | (show _ ∧ _; omega) | (simp only [List.length_set]; omega) | decide, ?_⟩; conv => whnf))
    refine storeW (j := (j : Int)) tbl_ok rfl rfl rfl rfl rfl rfl rfl rfl _ (slC_set1 (j := j) (xs := (markJ GLink.mark GLink.cnt xs k j)) (e := GLink.c) (x := ⟨k + (((xs.take j).map GLink.cnt).sum : Nat), y.queue, y.credits, y.back, y.sent, y.got⟩) (by omega) g (by exact rfl)) (go tbl_ok false ?_)
    conv => whnf
    (repeat (refine ⟨by first | omega | (show _ ∧ _; omega) | (simp only [List.length_set]; omega) | decide, ?_⟩; conv => whnf))
    refine focusX (j := j) (off := 1) (r := GLink.c (⟨k + (((xs.take j).map GLink.cnt).sum : Nat), y.queue, y.credits, y.back, y.sent, y.got⟩)) (c := sGRecord y.queue) tbl_ok rfl rfl rfl rfl rfl rfl ?_ rfl (fun v => go tbl_ok false ?_)
    · exact congrArg GLink.c (getD_set_self _ _ _ _ (by omega))
    conv => whnf
    refine callU (markRecordS y.queue (k + (((xs.take j).map GLink.cnt).sum : Nat) + 1) (by omega) (by omega)) rfl trivial rfl rfl rfl ?_
    refine unfocusY (j := j) 0 1 1 rfl (by first | omega | (simp only [List.length_set]; omega)) rfl rfl rfl rfl (slC_back2 (j := j) (xs := (markJ GLink.mark GLink.cnt xs k j)) (e := GLink.c) (x2 := ⟨k + (((xs.take j).map GLink.cnt).sum : Nat), markL GRecord.mark GRecord.cnt y.queue (k + (((xs.take j).map GLink.cnt).sum : Nat) + 1), y.credits, y.back, y.sent, y.got⟩) (by omega) (by exact rfl)) (go tbl_ok false ?_)
    conv => whnf
    (repeat (refine ⟨by first | omega | (show _ ∧ _; omega) | (simp only [List.length_set]; omega) | decide, ?_⟩; conv => whnf))
    refine storeW (j := (j : Int)) tbl_ok rfl rfl rfl rfl rfl rfl rfl rfl _ (slC_set2 (j := j) (xs := (markJ GLink.mark GLink.cnt xs k j)) (e := GLink.c) (x2 := ⟨k + (((xs.take j).map GLink.cnt).sum : Nat), markL GRecord.mark GRecord.cnt y.queue (k + (((xs.take j).map GLink.cnt).sum : Nat) + 1), k + (((xs.take j).map GLink.cnt).sum : Nat) + 1 + ((y.queue.map GRecord.cnt).sum : Nat), y.back, y.sent, y.got⟩) (by omega) (by exact rfl)) (go tbl_ok false ?_)
    conv => whnf
    (repeat (refine ⟨by first | omega | (show _ ∧ _; omega) | (simp only [List.length_set]; omega) | decide, ?_⟩; conv => whnf))
    refine storeW (j := (j : Int)) tbl_ok rfl rfl rfl rfl rfl rfl rfl rfl _ (slC_set2 (j := j) (xs := (markJ GLink.mark GLink.cnt xs k j)) (e := GLink.c) (x2 := ⟨k + (((xs.take j).map GLink.cnt).sum : Nat), markL GRecord.mark GRecord.cnt y.queue (k + (((xs.take j).map GLink.cnt).sum : Nat) + 1), k + (((xs.take j).map GLink.cnt).sum : Nat) + 1 + ((y.queue.map GRecord.cnt).sum : Nat), k + (((xs.take j).map GLink.cnt).sum : Nat) + 1 + ((y.queue.map GRecord.cnt).sum : Nat) + 1, y.sent, y.got⟩) (by omega) (by exact rfl)) (go tbl_ok false ?_)
    conv => whnf
    (repeat (refine ⟨by first | omega | (show _ ∧ _; omega) | (simp only [List.length_set]; omega) | decide, ?_⟩; conv => whnf))
    refine storeW (j := (j : Int)) tbl_ok rfl rfl rfl rfl rfl rfl rfl rfl _ (slC_set2 (j := j) (xs := (markJ GLink.mark GLink.cnt xs k j)) (e := GLink.c) (x2 := ⟨k + (((xs.take j).map GLink.cnt).sum : Nat), markL GRecord.mark GRecord.cnt y.queue (k + (((xs.take j).map GLink.cnt).sum : Nat) + 1), k + (((xs.take j).map GLink.cnt).sum : Nat) + 1 + ((y.queue.map GRecord.cnt).sum : Nat), k + (((xs.take j).map GLink.cnt).sum : Nat) + 1 + ((y.queue.map GRecord.cnt).sum : Nat) + 1, k + (((xs.take j).map GLink.cnt).sum : Nat) + 1 + ((y.queue.map GRecord.cnt).sum : Nat) + 1 + 1, y.got⟩) (by omega) (by exact rfl)) (go tbl_ok false ?_)
    conv => whnf
    (repeat (refine ⟨by first | omega | (show _ ∧ _; omega) | (simp only [List.length_set]; omega) | decide, ?_⟩; conv => whnf))
    refine storeW (j := (j : Int)) tbl_ok rfl rfl rfl rfl rfl rfl rfl rfl _ (slC_set2 (j := j) (xs := (markJ GLink.mark GLink.cnt xs k j)) (e := GLink.c) (x2 := ⟨k + (((xs.take j).map GLink.cnt).sum : Nat), markL GRecord.mark GRecord.cnt y.queue (k + (((xs.take j).map GLink.cnt).sum : Nat) + 1), k + (((xs.take j).map GLink.cnt).sum : Nat) + 1 + ((y.queue.map GRecord.cnt).sum : Nat), k + (((xs.take j).map GLink.cnt).sum : Nat) + 1 + ((y.queue.map GRecord.cnt).sum : Nat) + 1, k + (((xs.take j).map GLink.cnt).sum : Nat) + 1 + ((y.queue.map GRecord.cnt).sum : Nat) + 1 + 1, k + (((xs.take j).map GLink.cnt).sum : Nat) + 1 + ((y.queue.map GRecord.cnt).sum : Nat) + 1 + 1 + 1⟩) (by omega) (by exact rfl)) (go tbl_ok false ?_)
    conv => whnf
    (repeat (refine ⟨by first | omega | (show _ ∧ _; omega) | (simp only [List.length_set]; omega) | decide, ?_⟩; conv => whnf))
    refine loopE [] (j + 1) (by omega) (by omega) ⟨?_, rfl, trivial⟩ ⟨?_, trivial⟩ trivial (by kernel_rfl) ⟨rfl, trivial⟩ (by kernel_rfl)
    · exact congrArg (fun n => AV.c (vi n)) (by omega)
    · have e := markJ_set GLink.mark GLink.cnt xs k j h
      rw [hy] at e
      exact congrArg (fun z => slC 6 GLink.c z) e
  · refine retU tbl_ok rfl ⟨?_, trivial⟩ rfl rfl ?_ ⟨rfl, trivial⟩
    · exact congrArg (fun n => AV.c (vi n)) (by rw [List.take_of_length_le (by omega)])
    · exact congrArg (fun z => slC 6 GLink.c z) (markJ_end _ _ _ _ _ (by omega))

theorem markTokenS (xs : List GToken) (k : Int) (h0 : 0 ≤ k) (h1 : k + ((xs.map GToken.cnt).sum : Nat) ≤ 4611686018427387904) :
    MeetsU Tryz.prog 38 (.one (sGToken xs)) (.one (sGToken (markL GToken.mark GToken.cnt xs k))) [.one (vi k)] [.int .i64 (k + ((xs.map GToken.cnt).sum : Nat))] := by
  have hl : xs.length ≤ 4611686018427387904 := by have := len_le_sum GToken.cnt xs (fun x => by simp only [GToken.cnt]; omega); omega
  refine enterU tbl_ok false Tryz.func38 rfl (by decide) fun W may l => ?_
  conv => whnf
  refine loopW tbl_ok false [] (fun j : Nat => [(1, .c (vi (k + (((xs.take j).map GToken.cnt).sum : Nat)))), (5, .c (vi j))]) (fun _ => []) (fun j => [⟨0, sGToken (markJ GToken.mark GToken.cnt xs k j)⟩])
    (fun j => j ≤ xs.length) (fun j => xs.length - j) 0 (Nat.zero_le _) ⟨by simp [nth, ren2, ren1, ren0], rfl, trivial⟩ trivial ⟨rfl, trivial⟩ ⟨rfl, trivial⟩ (by kernel_rfl) (fun j hj => ?_)
  have hL := markJ_length GToken.mark GToken.cnt xs k j
  conv => whnf
  refine ⟨fun h => ?_, fun h => ?_⟩ <;> simp only [decide_eq_true_eq, decide_eq_false_iff_not] at h <;> conv => whnf
  · have h : j < xs.length := by omega
    have g := markJ_get GToken.mark GToken.cnt xs k j default h
    have hle := wS_take_le GToken.cnt xs j h
    have hst := wS_take GToken.cnt xs j h
    generalize hy : xs.getD j default = y at g hle hst
    have hc : GToken.cnt y = 1 + 1 + 1 + 1 + 1 := rfl
    (repeat (refine ⟨by first | omega | (show _ ∧ _; omega) | (simp only [List.length_set]; omega) | decide, ?_⟩; conv => whnf))
    refine storeW (j := (j : Int)) tbl_ok rfl rfl rfl rfl rfl rfl rfl rfl _ (slC_set1 (j := j) (xs := (markJ GToken.mark GToken.cnt xs k j)) (e := GToken.c) (x := ⟨(k + (((xs.take j).map GToken.cnt).sum : Nat)).tmod 3 == 0, y.at_, y.sum, y.black, y.capped⟩) (by omega) g (by exact rfl)) (go tbl_ok false ?_)
    conv => whnf
    (repeat (refine ⟨by first | omega | (show _ ∧ _; omega) | (simp only [List.length_set]; omega) | decide, ?_⟩; conv => whnf))
    refine storeW (j := (j : Int)) tbl_ok rfl rfl rfl rfl rfl rfl rfl rfl _ (slC_set2 (j := j) (xs := (markJ GToken.mark GToken.cnt xs k j)) (e := GToken.c) (x2 := ⟨(k + (((xs.take j).map GToken.cnt).sum : Nat)).tmod 3 == 0, k + (((xs.take j).map GToken.cnt).sum : Nat) + 1, y.sum, y.black, y.capped⟩) (by omega) (by exact rfl)) (go tbl_ok false ?_)
    conv => whnf
    (repeat (refine ⟨by first | omega | (show _ ∧ _; omega) | (simp only [List.length_set]; omega) | decide, ?_⟩; conv => whnf))
    refine storeW (j := (j : Int)) tbl_ok rfl rfl rfl rfl rfl rfl rfl rfl _ (slC_set2 (j := j) (xs := (markJ GToken.mark GToken.cnt xs k j)) (e := GToken.c) (x2 := ⟨(k + (((xs.take j).map GToken.cnt).sum : Nat)).tmod 3 == 0, k + (((xs.take j).map GToken.cnt).sum : Nat) + 1, k + (((xs.take j).map GToken.cnt).sum : Nat) + 1 + 1, y.black, y.capped⟩) (by omega) (by exact rfl)) (go tbl_ok false ?_)
    conv => whnf
    (repeat (refine ⟨by first | omega | (show _ ∧ _; omega) | (simp only [List.length_set]; omega) | decide, ?_⟩; conv => whnf))
    refine storeW (j := (j : Int)) tbl_ok rfl rfl rfl rfl rfl rfl rfl rfl _ (slC_set2 (j := j) (xs := (markJ GToken.mark GToken.cnt xs k j)) (e := GToken.c) (x2 := ⟨(k + (((xs.take j).map GToken.cnt).sum : Nat)).tmod 3 == 0, k + (((xs.take j).map GToken.cnt).sum : Nat) + 1, k + (((xs.take j).map GToken.cnt).sum : Nat) + 1 + 1, (k + (((xs.take j).map GToken.cnt).sum : Nat) + 1 + 1 + 1).tmod 3 == 0, y.capped⟩) (by omega) (by exact rfl)) (go tbl_ok false ?_)
    conv => whnf
    (repeat (refine ⟨by first | omega | (show _ ∧ _; omega) | (simp only [List.length_set]; omega) | decide, ?_⟩; conv => whnf))
    refine storeW (j := (j : Int)) tbl_ok rfl rfl rfl rfl rfl rfl rfl rfl _ (slC_set2 (j := j) (xs := (markJ GToken.mark GToken.cnt xs k j)) (e := GToken.c) (x2 := ⟨(k + (((xs.take j).map GToken.cnt).sum : Nat)).tmod 3 == 0, k + (((xs.take j).map GToken.cnt).sum : Nat) + 1, k + (((xs.take j).map GToken.cnt).sum : Nat) + 1 + 1, (k + (((xs.take j).map GToken.cnt).sum : Nat) + 1 + 1 + 1).tmod 3 == 0, (k + (((xs.take j).map GToken.cnt).sum : Nat) + 1 + 1 + 1 + 1).tmod 3 == 0⟩) (by omega) (by exact rfl)) (go tbl_ok false ?_)
    conv => whnf
    (repeat (refine ⟨by first | omega | (show _ ∧ _; omega) | (simp only [List.length_set]; omega) | decide, ?_⟩; conv => whnf))
    refine loopE [] (j + 1) (by omega) (by omega) ⟨?_, rfl, trivial⟩ ⟨?_, trivial⟩ trivial (by kernel_rfl) ⟨rfl, trivial⟩ (by kernel_rfl)
    · exact congrArg (fun n => AV.c (vi n)) (by omega)
    · have e := markJ_set GToken.mark GToken.cnt xs k j h
      rw [hy] at e
      exact congrArg (fun z => slC 5 GToken.c z) e
  · refine retU tbl_ok rfl ⟨?_, trivial⟩ rfl rfl ?_ ⟨rfl, trivial⟩
    · exact congrArg (fun n => AV.c (vi n)) (by rw [List.take_of_length_le (by omega)])
    · exact congrArg (fun z => slC 5 GToken.c z) (markJ_end _ _ _ _ _ (by omega))

theorem markNewsS (xs : List GNews) (k : Int) (h0 : 0 ≤ k) (h1 : k + ((xs.map GNews.cnt).sum : Nat) ≤ 4611686018427387904) :
    MeetsU Tryz.prog 39 (.one (sGNews xs)) (.one (sGNews (markL GNews.mark GNews.cnt xs k))) [.one (vi k)] [.int .i64 (k + ((xs.map GNews.cnt).sum : Nat))] := by
  have hl : xs.length ≤ 4611686018427387904 := by have := len_le_sum GNews.cnt xs (fun x => by simp only [GNews.cnt]; omega); omega
  refine enterU tbl_ok false Tryz.func39 rfl (by decide) fun W may l => ?_
  conv => whnf
  refine loopW tbl_ok false [] (fun j : Nat => [(1, .c (vi (k + (((xs.take j).map GNews.cnt).sum : Nat)))), (5, .c (vi j))]) (fun _ => []) (fun j => [⟨0, sGNews (markJ GNews.mark GNews.cnt xs k j)⟩])
    (fun j => j ≤ xs.length) (fun j => xs.length - j) 0 (Nat.zero_le _) ⟨by simp [nth, ren2, ren1, ren0], rfl, trivial⟩ trivial ⟨rfl, trivial⟩ ⟨rfl, trivial⟩ (by kernel_rfl) (fun j hj => ?_)
  have hL := markJ_length GNews.mark GNews.cnt xs k j
  conv => whnf
  refine ⟨fun h => ?_, fun h => ?_⟩ <;> simp only [decide_eq_true_eq, decide_eq_false_iff_not] at h <;> conv => whnf
  · have h : j < xs.length := by omega
    have g := markJ_get GNews.mark GNews.cnt xs k j default h
    have hle := wS_take_le GNews.cnt xs j h
    have hst := wS_take GNews.cnt xs j h
    generalize hy : xs.getD j default = y at g hle hst
    have hc : GNews.cnt y = 1 + 1 + 1 := rfl
    (repeat (refine ⟨by first | omega | (show _ ∧ _; omega) | (simp only [List.length_set]; omega) | decide, ?_⟩; conv => whnf))
    refine storeW (j := (j : Int)) tbl_ok rfl rfl rfl rfl rfl rfl rfl rfl _ (slC_set1 (j := j) (xs := (markJ GNews.mark GNews.cnt xs k j)) (e := GNews.c) (x := ⟨k + (((xs.take j).map GNews.cnt).sum : Nat), y.epoch, y.capped⟩) (by omega) g (by exact rfl)) (go tbl_ok false ?_)
    conv => whnf
    (repeat (refine ⟨by first | omega | (show _ ∧ _; omega) | (simp only [List.length_set]; omega) | decide, ?_⟩; conv => whnf))
    refine storeW (j := (j : Int)) tbl_ok rfl rfl rfl rfl rfl rfl rfl rfl _ (slC_set2 (j := j) (xs := (markJ GNews.mark GNews.cnt xs k j)) (e := GNews.c) (x2 := ⟨k + (((xs.take j).map GNews.cnt).sum : Nat), k + (((xs.take j).map GNews.cnt).sum : Nat) + 1, y.capped⟩) (by omega) (by exact rfl)) (go tbl_ok false ?_)
    conv => whnf
    (repeat (refine ⟨by first | omega | (show _ ∧ _; omega) | (simp only [List.length_set]; omega) | decide, ?_⟩; conv => whnf))
    refine storeW (j := (j : Int)) tbl_ok rfl rfl rfl rfl rfl rfl rfl rfl _ (slC_set2 (j := j) (xs := (markJ GNews.mark GNews.cnt xs k j)) (e := GNews.c) (x2 := ⟨k + (((xs.take j).map GNews.cnt).sum : Nat), k + (((xs.take j).map GNews.cnt).sum : Nat) + 1, (k + (((xs.take j).map GNews.cnt).sum : Nat) + 1 + 1).tmod 3 == 0⟩) (by omega) (by exact rfl)) (go tbl_ok false ?_)
    conv => whnf
    (repeat (refine ⟨by first | omega | (show _ ∧ _; omega) | (simp only [List.length_set]; omega) | decide, ?_⟩; conv => whnf))
    refine loopE [] (j + 1) (by omega) (by omega) ⟨?_, rfl, trivial⟩ ⟨?_, trivial⟩ trivial (by kernel_rfl) ⟨rfl, trivial⟩ (by kernel_rfl)
    · exact congrArg (fun n => AV.c (vi n)) (by omega)
    · have e := markJ_set GNews.mark GNews.cnt xs k j h
      rw [hy] at e
      exact congrArg (fun z => slC 3 GNews.c z) e
  · refine retU tbl_ok rfl ⟨?_, trivial⟩ rfl rfl ?_ ⟨rfl, trivial⟩
    · exact congrArg (fun n => AV.c (vi n)) (by rw [List.take_of_length_le (by omega)])
    · exact congrArg (fun z => slC 3 GNews.c z) (markJ_end _ _ _ _ _ (by omega))

theorem markCluster (x : GCluster) (k : Int) (hl1 : x.workers.length ≤ 4611686018427387904) (h0 : 0 ≤ k) (h1 : k + (x.cntV : Nat) ≤ 4611686018427387904) :
    MeetsU Tryz.prog 11 (.agg x.c) (.agg (x.markV k).c) [.one (vi k)] [.int .i64 (k + (x.cntV : Nat))] := by
  have hc : x.cntV = x.graph.cntV + (x.workers.map GWorker.cnt).sum + (x.links.map GLink.cnt).sum + (x.tokens.map GToken.cnt).sum + (x.news.map GNews.cnt).sum := rfl
  refine enterU tbl_ok false Tryz.func11 rfl (by decide) fun W may l => ?_
  conv => whnf
  refine callU (x := .agg (GGraph.c x.graph)) (y := .agg (GGraph.c (x.graph.markV (k)))) (markGraph x.graph (k) (by omega) (by omega)) (by repeat (first | exact trivial | refine ⟨rfl, ?_⟩)) (by repeat (first | exact trivial | refine ⟨trivial, ?_⟩)) rfl rfl rfl (go tbl_ok false ?_)
  conv => whnf
  refine callU (markWorkerS x.workers (k + (x.graph.cntV : Nat)) hl1 (by omega) (by omega)) rfl trivial rfl rfl rfl (go tbl_ok false ?_)
  conv => whnf
  refine callU (markLinkS x.links (k + (x.graph.cntV : Nat) + ((x.workers.map GWorker.cnt).sum : Nat)) (by omega) (by omega)) rfl trivial rfl rfl rfl (go tbl_ok false ?_)
  conv => whnf
  refine callU (markTokenS x.tokens (k + (x.graph.cntV : Nat) + ((x.workers.map GWorker.cnt).sum : Nat) + ((x.links.map GLink.cnt).sum : Nat)) (by omega) (by omega)) rfl trivial rfl rfl rfl (go tbl_ok false ?_)
  conv => whnf
  refine callU (markNewsS x.news (k + (x.graph.cntV : Nat) + ((x.workers.map GWorker.cnt).sum : Nat) + ((x.links.map GLink.cnt).sum : Nat) + ((x.tokens.map GToken.cnt).sum : Nat)) (by omega) (by omega)) rfl trivial rfl rfl rfl (go tbl_ok false ?_)
  conv => whnf
  refine retU tbl_ok rfl ⟨?_, trivial⟩ rfl rfl (by repeat (first | exact trivial | refine ⟨rfl, ?_⟩)) (by repeat (first | exact trivial | refine ⟨rfl, ?_⟩))
  exact congrArg (fun n => AV.c (vi n)) (by omega)

end Go.Proofs.YteonkhnmlolfgaaGreatDoor
