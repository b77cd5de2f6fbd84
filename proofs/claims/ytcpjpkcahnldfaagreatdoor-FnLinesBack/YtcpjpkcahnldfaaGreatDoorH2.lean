/- Texts for the law FnLinesBack: H2. No conditions. -/
import Derived.Test.YtcpjpkcahnldfaaGreatDoorH1

set_option maxRecDepth 100000
namespace Go.Proofs.YtcpjpkcahnldfaaGreatDoor
open Go.Sx
theorem markIntS (xs : List Int) (k : Int) (h0 : 0 ≤ k) (h1 : k + ((xs.map iCnt).sum : Nat) ≤ 4611686018427387904) :
    MeetsU Tryz.prog 107 (.one (sInt xs)) (.one (sInt (markL iMark iCnt xs k))) [.one (vi k)] [.int .i64 (k + ((xs.map iCnt).sum : Nat))] := by
  have hl : xs.length ≤ 4611686018427387904 := by have := len_le_sum iCnt xs (fun x => Nat.le_refl 1); omega
  refine enterU tbl_ok false Tryz.func107 rfl (by decide) fun W may l => ?_
  conv => whnf
  refine loopW tbl_ok false [] (fun j : Nat => [(1, .c (vi (k + (((xs.take j).map iCnt).sum : Nat)))), (5, .c (vi j))]) (fun _ => []) (fun j => [⟨0, sInt (markJ iMark iCnt xs k j)⟩])
    (fun j => j ≤ xs.length) (fun j => xs.length - j) 0 (Nat.zero_le _) ⟨by simp [nth, ren2, ren1, ren0], rfl, trivial⟩ trivial ⟨rfl, trivial⟩ ⟨rfl, trivial⟩ (by kernel_rfl) (fun j hj => ?_)
  have hL := markJ_length iMark iCnt xs k j
  conv => whnf
  refine ⟨fun h => ?_, fun h => ?_⟩ <;> simp only [decide_eq_true_eq, decide_eq_false_iff_not] at h <;> conv => whnf
  · have h : j < xs.length := by omega
    have g := markJ_get iMark iCnt xs k j default h
    have hle := wS_take_le iCnt xs j h
    have hst := wS_take iCnt xs j h
    generalize hy : xs.getD j default = y at g hle hst
    have hc : iCnt y = 1 := rfl
    (repeat (refine ⟨by first | omega | (show _ ∧ _; omega) | (simp only [List.length_set]; omega) | decide, ?_⟩; conv => whnf))
    refine storeW (j := (j : Int)) tbl_ok rfl rfl rfl rfl rfl rfl rfl rfl _ (slC_set1 (j := j) (xs := (markJ iMark iCnt xs k j)) (e := (fun n => [vi n])) (x := k + (((xs.take j).map iCnt).sum : Nat)) (by omega) g (by exact rfl)) (go tbl_ok false ?_)
    conv => whnf
    (repeat (refine ⟨by first | omega | (show _ ∧ _; omega) | (simp only [List.length_set]; omega) | decide, ?_⟩; conv => whnf))
    refine loopE [] (j + 1) (by omega) (by omega) ⟨?_, rfl, trivial⟩ ⟨?_, trivial⟩ trivial (by kernel_rfl) ⟨rfl, trivial⟩ (by kernel_rfl)
    · exact congrArg (fun n => AV.c (vi n)) (by omega)
    · have e := markJ_set iMark iCnt xs k j h
      rw [hy] at e
      exact congrArg (fun z => slC 1 (fun n => [vi n]) z) e
  · refine retU tbl_ok rfl ⟨?_, trivial⟩ rfl rfl ?_ ⟨rfl, trivial⟩
    · exact congrArg (fun n => AV.c (vi n)) (by rw [List.take_of_length_le (by omega)])
    · exact congrArg (fun z => slC 1 (fun n => [vi n]) z) (markJ_end _ _ _ _ _ (by omega))

theorem markNodeS (xs : List GNode) (k : Int) (h0 : 0 ≤ k) (h1 : k + ((xs.map GNode.cnt).sum : Nat) ≤ 4611686018427387904) :
    MeetsU Tryz.prog 83 (.one (sGNode xs)) (.one (sGNode (markL GNode.mark GNode.cnt xs k))) [.one (vi k)] [.int .i64 (k + ((xs.map GNode.cnt).sum : Nat))] := by
  have hl : xs.length ≤ 4611686018427387904 := by have := len_le_sum GNode.cnt xs (fun x => by simp only [GNode.cnt]; omega); omega
  refine enterU tbl_ok false Tryz.func83 rfl (by decide) fun W may l => ?_
  conv => whnf
  refine loopW tbl_ok false [] (fun j : Nat => [(1, .c (vi (k + (((xs.take j).map GNode.cnt).sum : Nat)))), (5, .c (vi j))]) (fun _ => []) (fun j => [⟨0, sGNode (markJ GNode.mark GNode.cnt xs k j)⟩])
    (fun j => j ≤ xs.length) (fun j => xs.length - j) 0 (Nat.zero_le _) ⟨by simp [nth, ren2, ren1, ren0], rfl, trivial⟩ trivial ⟨rfl, trivial⟩ ⟨rfl, trivial⟩ (by kernel_rfl) (fun j hj => ?_)
  have hL := markJ_length GNode.mark GNode.cnt xs k j
  conv => whnf
  refine ⟨fun h => ?_, fun h => ?_⟩ <;> simp only [decide_eq_true_eq, decide_eq_false_iff_not] at h <;> conv => whnf
  · have h : j < xs.length := by omega
    have g := markJ_get GNode.mark GNode.cnt xs k j default h
    have hle := wS_take_le GNode.cnt xs j h
    have hst := wS_take GNode.cnt xs j h
    generalize hy : xs.getD j default = y at g hle hst
    have hc : GNode.cnt y = 1 + 1 + 1 + (y.outs.map iCnt).sum := rfl
    (repeat (refine ⟨by first | omega | (show _ ∧ _; omega) | (simp only [List.length_set]; omega) | decide, ?_⟩; conv => whnf))
    refine storeW (j := (j : Int)) tbl_ok rfl rfl rfl rfl rfl rfl rfl rfl _ (slC_set1 (j := j) (xs := (markJ GNode.mark GNode.cnt xs k j)) (e := GNode.c) (x := ⟨k + (((xs.take j).map GNode.cnt).sum : Nat), y.a, y.b, y.outs⟩) (by omega) g (by exact rfl)) (go tbl_ok false ?_)
    conv => whnf
    (repeat (refine ⟨by first | omega | (show _ ∧ _; omega) | (simp only [List.length_set]; omega) | decide, ?_⟩; conv => whnf))
    refine storeW (j := (j : Int)) tbl_ok rfl rfl rfl rfl rfl rfl rfl rfl _ (slC_set2 (j := j) (xs := (markJ GNode.mark GNode.cnt xs k j)) (e := GNode.c) (x2 := ⟨k + (((xs.take j).map GNode.cnt).sum : Nat), k + (((xs.take j).map GNode.cnt).sum : Nat) + 1, y.b, y.outs⟩) (by omega) (by exact rfl)) (go tbl_ok false ?_)
    conv => whnf
    (repeat (refine ⟨by first | omega | (show _ ∧ _; omega) | (simp only [List.length_set]; omega) | decide, ?_⟩; conv => whnf))
    refine storeW (j := (j : Int)) tbl_ok rfl rfl rfl rfl rfl rfl rfl rfl _ (slC_set2 (j := j) (xs := (markJ GNode.mark GNode.cnt xs k j)) (e := GNode.c) (x2 := ⟨k + (((xs.take j).map GNode.cnt).sum : Nat), k + (((xs.take j).map GNode.cnt).sum : Nat) + 1, k + (((xs.take j).map GNode.cnt).sum : Nat) + 1 + 1, y.outs⟩) (by omega) (by exact rfl)) (go tbl_ok false ?_)
    conv => whnf
    (repeat (refine ⟨by first | omega | (show _ ∧ _; omega) | (simp only [List.length_set]; omega) | decide, ?_⟩; conv => whnf))
    refine focusX (j := j) (off := 3) (r := GNode.c (⟨k + (((xs.take j).map GNode.cnt).sum : Nat), k + (((xs.take j).map GNode.cnt).sum : Nat) + 1, k + (((xs.take j).map GNode.cnt).sum : Nat) + 1 + 1, y.outs⟩)) (c := sInt y.outs) tbl_ok rfl rfl rfl rfl rfl rfl ?_ rfl (fun v => go tbl_ok false ?_)
    · exact congrArg GNode.c (getD_set_self _ _ _ _ (by omega))
    conv => whnf
    refine callU (markIntS y.outs (k + (((xs.take j).map GNode.cnt).sum : Nat) + 1 + 1 + 1) (by omega) (by omega)) rfl trivial rfl rfl rfl ?_
    refine unfocusY (j := j) 0 1 3 rfl (by first | omega | (simp only [List.length_set]; omega)) rfl rfl rfl rfl (slC_back2 (j := j) (xs := (markJ GNode.mark GNode.cnt xs k j)) (e := GNode.c) (x2 := ⟨k + (((xs.take j).map GNode.cnt).sum : Nat), k + (((xs.take j).map GNode.cnt).sum : Nat) + 1, k + (((xs.take j).map GNode.cnt).sum : Nat) + 1 + 1, markL iMark iCnt y.outs (k + (((xs.take j).map GNode.cnt).sum : Nat) + 1 + 1 + 1)⟩) (by omega) (by exact rfl)) (go tbl_ok false ?_)
    conv => whnf
    (repeat (refine ⟨by first | omega | (show _ ∧ _; omega) | (simp only [List.length_set]; omega) | decide, ?_⟩; conv => whnf))
    refine loopE [] (j + 1) (by omega) (by omega) ⟨?_, rfl, trivial⟩ ⟨?_, trivial⟩ trivial (by kernel_rfl) ⟨rfl, trivial⟩ (by kernel_rfl)
    · exact congrArg (fun n => AV.c (vi n)) (by omega)
    · have e := markJ_set GNode.mark GNode.cnt xs k j h
      rw [hy] at e
      exact congrArg (fun z => slC 4 GNode.c z) e
  · refine retU tbl_ok rfl ⟨?_, trivial⟩ rfl rfl ?_ ⟨rfl, trivial⟩
    · exact congrArg (fun n => AV.c (vi n)) (by rw [List.take_of_length_le (by omega)])
    · exact congrArg (fun z => slC 4 GNode.c z) (markJ_end _ _ _ _ _ (by omega))

theorem markGraph (x : GGraph) (k : Int) (h0 : 0 ≤ k) (h1 : k + (x.cntV : Nat) ≤ 4611686018427387904) :
    MeetsU Tryz.prog 45 (.agg x.c) (.agg (x.markV k).c) [.one (vi k)] [.int .i64 (k + (x.cntV : Nat))] := by
  have hc : x.cntV = (x.nodes.map GNode.cnt).sum := rfl
  refine enterU tbl_ok false Tryz.func45 rfl (by decide) fun W may l => ?_
  conv => whnf
  refine callU (markNodeS x.nodes (k) (by omega) (by omega)) rfl trivial rfl rfl rfl (go tbl_ok false ?_)
  conv => whnf
  refine retU tbl_ok rfl ⟨?_, trivial⟩ rfl rfl (by repeat (first | exact trivial | refine ⟨rfl, ?_⟩)) (by repeat (first | exact trivial | refine ⟨rfl, ?_⟩))
  exact congrArg (fun n => AV.c (vi n)) (by omega)

theorem markRecordS (xs : List GRecord) (k : Int) (h0 : 0 ≤ k) (h1 : k + ((xs.map GRecord.cnt).sum : Nat) ≤ 4611686018427387904) :
    MeetsU Tryz.prog 46 (.one (sGRecord xs)) (.one (sGRecord (markL GRecord.mark GRecord.cnt xs k))) [.one (vi k)] [.int .i64 (k + ((xs.map GRecord.cnt).sum : Nat))] := by
  have hl : xs.length ≤ 4611686018427387904 := by have := len_le_sum GRecord.cnt xs (fun x => by simp only [GRecord.cnt]; omega); omega
  refine enterU tbl_ok false Tryz.func46 rfl (by decide) fun W may l => ?_
  conv => whnf
  refine loopW tbl_ok false [] (fun j : Nat => [(1, .c (vi (k + (((xs.take j).map GRecord.cnt).sum : Nat)))), (5, .c (vi j))]) (fun _ => []) (fun j => [⟨0, sGRecord (markJ GRecord.mark GRecord.cnt xs k j)⟩])
    (fun j => j ≤ xs.length) (fun j => xs.length - j) 0 (Nat.zero_le _) ⟨by simp [nth, ren2, ren1, ren0], rfl, trivial⟩ trivial ⟨rfl, trivial⟩ ⟨rfl, trivial⟩ (by kernel_rfl) (fun j hj => ?_)
  have hL := markJ_length GRecord.mark GRecord.cnt xs k j
  conv => whnf
  refine ⟨fun h => ?_, fun h => ?_⟩ <;> simp only [decide_eq_true_eq, decide_eq_false_iff_not] at h <;> conv => whnf
  · have h : j < xs.length := by omega
    have g := markJ_get GRecord.mark GRecord.cnt xs k j default h
    have hle := wS_take_le GRecord.cnt xs j h
    have hst := wS_take GRecord.cnt xs j h
    generalize hy : xs.getD j default = y at g hle hst
    have hc : GRecord.cnt y = 1 + 1 + 1 + 1 + 1 := rfl
    (repeat (refine ⟨by first | omega | (show _ ∧ _; omega) | (simp only [List.length_set]; omega) | decide, ?_⟩; conv => whnf))
    refine storeW (j := (j : Int)) tbl_ok rfl rfl rfl rfl rfl rfl rfl rfl _ (slC_set1 (j := j) (xs := (markJ GRecord.mark GRecord.cnt xs k j)) (e := GRecord.c) (x := ⟨k + (((xs.take j).map GRecord.cnt).sum : Nat), ⟨y.stamp.epoch, y.stamp.turn⟩, y.key, y.val⟩) (by omega) g (by exact rfl)) (go tbl_ok false ?_)
    conv => whnf
    (repeat (refine ⟨by first | omega | (show _ ∧ _; omega) | (simp only [List.length_set]; omega) | decide, ?_⟩; conv => whnf))
    refine storeW (j := (j : Int)) tbl_ok rfl rfl rfl rfl rfl rfl rfl rfl _ (slC_set2 (j := j) (xs := (markJ GRecord.mark GRecord.cnt xs k j)) (e := GRecord.c) (x2 := ⟨k + (((xs.take j).map GRecord.cnt).sum : Nat), ⟨k + (((xs.take j).map GRecord.cnt).sum : Nat) + 1, y.stamp.turn⟩, y.key, y.val⟩) (by omega) (by exact rfl)) (go tbl_ok false ?_)
    conv => whnf
    (repeat (refine ⟨by first | omega | (show _ ∧ _; omega) | (simp only [List.length_set]; omega) | decide, ?_⟩; conv => whnf))
    refine storeW (j := (j : Int)) tbl_ok rfl rfl rfl rfl rfl rfl rfl rfl _ (slC_set2 (j := j) (xs := (markJ GRecord.mark GRecord.cnt xs k j)) (e := GRecord.c) (x2 := ⟨k + (((xs.take j).map GRecord.cnt).sum : Nat), ⟨k + (((xs.take j).map GRecord.cnt).sum : Nat) + 1, k + (((xs.take j).map GRecord.cnt).sum : Nat) + 1 + 1⟩, y.key, y.val⟩) (by omega) (by exact rfl)) (go tbl_ok false ?_)
    conv => whnf
    (repeat (refine ⟨by first | omega | (show _ ∧ _; omega) | (simp only [List.length_set]; omega) | decide, ?_⟩; conv => whnf))
    refine storeW (j := (j : Int)) tbl_ok rfl rfl rfl rfl rfl rfl rfl rfl _ (slC_set2 (j := j) (xs := (markJ GRecord.mark GRecord.cnt xs k j)) (e := GRecord.c) (x2 := ⟨k + (((xs.take j).map GRecord.cnt).sum : Nat), ⟨k + (((xs.take j).map GRecord.cnt).sum : Nat) + 1, k + (((xs.take j).map GRecord.cnt).sum : Nat) + 1 + 1⟩, k + (((xs.take j).map GRecord.cnt).sum : Nat) + 1 + 1 + 1, y.val⟩) (by omega) (by exact rfl)) (go tbl_ok false ?_)
    conv => whnf
    (repeat (refine ⟨by first | omega | (show _ ∧ _; omega) | (simp only [List.length_set]; omega) | decide, ?_⟩; conv => whnf))
    refine storeW (j := (j : Int)) tbl_ok rfl rfl rfl rfl rfl rfl rfl rfl _ (slC_set2 (j := j) (xs := (markJ GRecord.mark GRecord.cnt xs k j)) (e := GRecord.c) (x2 := ⟨k + (((xs.take j).map GRecord.cnt).sum : Nat), ⟨k + (((xs.take j).map GRecord.cnt).sum : Nat) + 1, k + (((xs.take j).map GRecord.cnt).sum : Nat) + 1 + 1⟩, k + (((xs.take j).map GRecord.cnt).sum : Nat) + 1 + 1 + 1, k + (((xs.take j).map GRecord.cnt).sum : Nat) + 1 + 1 + 1 + 1⟩) (by omega) (by exact rfl)) (go tbl_ok false ?_)
    conv => whnf
    (repeat (refine ⟨by first | omega | (show _ ∧ _; omega) | (simp only [List.length_set]; omega) | decide, ?_⟩; conv => whnf))
    refine loopE [] (j + 1) (by omega) (by omega) ⟨?_, rfl, trivial⟩ ⟨?_, trivial⟩ trivial (by kernel_rfl) ⟨rfl, trivial⟩ (by kernel_rfl)
    · exact congrArg (fun n => AV.c (vi n)) (by omega)
    · have e := markJ_set GRecord.mark GRecord.cnt xs k j h
      rw [hy] at e
      exact congrArg (fun z => slC 5 GRecord.c z) e
  · refine retU tbl_ok rfl ⟨?_, trivial⟩ rfl rfl ?_ ⟨rfl, trivial⟩
    · exact congrArg (fun n => AV.c (vi n)) (by rw [List.take_of_length_le (by omega)])
    · exact congrArg (fun z => slC 5 GRecord.c z) (markJ_end _ _ _ _ _ (by omega))

theorem markPickS (xs : List GPick) (k : Int) (h0 : 0 ≤ k) (h1 : k + ((xs.map GPick.cnt).sum : Nat) ≤ 4611686018427387904) :
    MeetsU Tryz.prog 47 (.one (sGPick xs)) (.one (sGPick (markL GPick.mark GPick.cnt xs k))) [.one (vi k)] [.int .i64 (k + ((xs.map GPick.cnt).sum : Nat))] := by
  have hl : xs.length ≤ 4611686018427387904 := by have := len_le_sum GPick.cnt xs (fun x => by simp only [GPick.cnt]; omega); omega
  refine enterU tbl_ok false Tryz.func47 rfl (by decide) fun W may l => ?_
  conv => whnf
  refine loopW tbl_ok false [] (fun j : Nat => [(1, .c (vi (k + (((xs.take j).map GPick.cnt).sum : Nat)))), (5, .c (vi j))]) (fun _ => []) (fun j => [⟨0, sGPick (markJ GPick.mark GPick.cnt xs k j)⟩])
    (fun j => j ≤ xs.length) (fun j => xs.length - j) 0 (Nat.zero_le _) ⟨by simp [nth, ren2, ren1, ren0], rfl, trivial⟩ trivial ⟨rfl, trivial⟩ ⟨rfl, trivial⟩ (by kernel_rfl) (fun j hj => ?_)
  have hL := markJ_length GPick.mark GPick.cnt xs k j
  conv => whnf
  refine ⟨fun h => ?_, fun h => ?_⟩ <;> simp only [decide_eq_true_eq, decide_eq_false_iff_not] at h <;> conv => whnf
  · have h : j < xs.length := by omega
    have g := markJ_get GPick.mark GPick.cnt xs k j default h
    have hle := wS_take_le GPick.cnt xs j h
    have hst := wS_take GPick.cnt xs j h
    generalize hy : xs.getD j default = y at g hle hst
    have hc : GPick.cnt y = 1 + 1 + 1 := rfl
    (repeat (refine ⟨by first | omega | (show _ ∧ _; omega) | (simp only [List.length_set]; omega) | decide, ?_⟩; conv => whnf))
    refine storeW (j := (j : Int)) tbl_ok rfl rfl rfl rfl rfl rfl rfl rfl _ (slC_set1 (j := j) (xs := (markJ GPick.mark GPick.cnt xs k j)) (e := GPick.c) (x := ⟨k + (((xs.take j).map GPick.cnt).sum : Nat), y.a, y.b⟩) (by omega) g (by exact rfl)) (go tbl_ok false ?_)
    conv => whnf
    (repeat (refine ⟨by first | omega | (show _ ∧ _; omega) | (simp only [List.length_set]; omega) | decide, ?_⟩; conv => whnf))
    refine storeW (j := (j : Int)) tbl_ok rfl rfl rfl rfl rfl rfl rfl rfl _ (slC_set2 (j := j) (xs := (markJ GPick.mark GPick.cnt xs k j)) (e := GPick.c) (x2 := ⟨k + (((xs.take j).map GPick.cnt).sum : Nat), k + (((xs.take j).map GPick.cnt).sum : Nat) + 1, y.b⟩) (by omega) (by exact rfl)) (go tbl_ok false ?_)
    conv => whnf
    (repeat (refine ⟨by first | omega | (show _ ∧ _; omega) | (simp only [List.length_set]; omega) | decide, ?_⟩; conv => whnf))
    refine storeW (j := (j : Int)) tbl_ok rfl rfl rfl rfl rfl rfl rfl rfl _ (slC_set2 (j := j) (xs := (markJ GPick.mark GPick.cnt xs k j)) (e := GPick.c) (x2 := ⟨k + (((xs.take j).map GPick.cnt).sum : Nat), k + (((xs.take j).map GPick.cnt).sum : Nat) + 1, k + (((xs.take j).map GPick.cnt).sum : Nat) + 1 + 1⟩) (by omega) (by exact rfl)) (go tbl_ok false ?_)
    conv => whnf
    (repeat (refine ⟨by first | omega | (show _ ∧ _; omega) | (simp only [List.length_set]; omega) | decide, ?_⟩; conv => whnf))
    refine loopE [] (j + 1) (by omega) (by omega) ⟨?_, rfl, trivial⟩ ⟨?_, trivial⟩ trivial (by kernel_rfl) ⟨rfl, trivial⟩ (by kernel_rfl)
    · exact congrArg (fun n => AV.c (vi n)) (by omega)
    · have e := markJ_set GPick.mark GPick.cnt xs k j h
      rw [hy] at e
      exact congrArg (fun z => slC 3 GPick.c z) e
  · refine retU tbl_ok rfl ⟨?_, trivial⟩ rfl rfl ?_ ⟨rfl, trivial⟩
    · exact congrArg (fun n => AV.c (vi n)) (by rw [List.take_of_length_le (by omega)])
    · exact congrArg (fun z => slC 3 GPick.c z) (markJ_end _ _ _ _ _ (by omega))

theorem markScript (x : GScript) (k : Int) (h0 : 0 ≤ k) (h1 : k + (x.cntV : Nat) ≤ 4611686018427387904) :
    MeetsU Tryz.prog 8 (.agg x.c) (.agg (x.markV k).c) [.one (vi k)] [.int .i64 (k + (x.cntV : Nat))] := by
  have hc : x.cntV = x.graph.cntV + (x.inputs.map GRecord.cnt).sum + (x.picks.map GPick.cnt).sum := rfl
  refine enterU tbl_ok false Tryz.func8 rfl (by decide) fun W may l => ?_
  conv => whnf
  refine callU (x := .agg (GGraph.c x.graph)) (y := .agg (GGraph.c (x.graph.markV (k)))) (markGraph x.graph (k) (by omega) (by omega)) (by repeat (first | exact trivial | refine ⟨rfl, ?_⟩)) (by repeat (first | exact trivial | refine ⟨trivial, ?_⟩)) rfl rfl rfl (go tbl_ok false ?_)
  conv => whnf
  refine callU (markRecordS x.inputs (k + (x.graph.cntV : Nat)) (by omega) (by omega)) rfl trivial rfl rfl rfl (go tbl_ok false ?_)
  conv => whnf
  refine callU (markPickS x.picks (k + (x.graph.cntV : Nat) + ((x.inputs.map GRecord.cnt).sum : Nat)) (by omega) (by omega)) rfl trivial rfl rfl rfl (go tbl_ok false ?_)
  conv => whnf
  refine retU tbl_ok rfl ⟨?_, trivial⟩ rfl rfl (by repeat (first | exact trivial | refine ⟨rfl, ?_⟩)) (by repeat (first | exact trivial | refine ⟨rfl, ?_⟩))
  exact congrArg (fun n => AV.c (vi n)) (by omega)

theorem heldIntS (xs : List Int) (k : Int) (h0 : 0 ≤ k) (h1 : k + ((xs.map iCnt).sum : Nat) ≤ 4611686018427387904) :
    Meets Tryz.prog 108 [.one (sInt (markL iMark iCnt xs k)), .one (vi k)] [.one (vi (k + ((xs.map iCnt).sum : Nat)))] := by
  have hl : xs.length ≤ 4611686018427387904 := by have := len_le_sum iCnt xs (fun x => Nat.le_refl 1); omega
  have hL := markL_length iMark iCnt xs k
  refine enterW tbl_ok false Tryz.func108 rfl (by decide) fun W => ?_
  conv => whnf
  refine loopW tbl_ok false [] (fun j : Nat => [(1, .c (vi (k + (((xs.take j).map iCnt).sum : Nat)))), (5, .c (vi j))]) (fun _ => []) (fun _ => [])
    (fun j => j ≤ xs.length) (fun j => xs.length - j) 0 (Nat.zero_le _) ⟨by simp [nth, ren2, ren1, ren0], rfl, trivial⟩ trivial trivial trivial (by kernel_rfl) (fun j hj => ?_)
  conv => whnf
  refine ⟨fun h => ?_, fun h => ?_⟩ <;> simp only [decide_eq_true_eq, decide_eq_false_iff_not] at h <;> conv => whnf
  · have h : j < xs.length := by omega
    have g := markL_getD iMark iCnt xs k j default h
    have hle := wS_take_le iCnt xs j h
    have hst := wS_take iCnt xs j h
    generalize xs.getD j default = y at g hle hst
    have hc : iCnt y = 1 := rfl
    (repeat (refine ⟨by first | omega | (show _ ∧ _; omega) | decide, ?_⟩; conv => whnf))
    refine ⟨fun h' => ?_, fun _ => ?_⟩ <;> conv => whnf
    · have e : ((markL iMark iCnt xs k).getD j default) = (k + (((xs.take j).map iCnt).sum : Nat)) := congrArg (fun z : Int => z) g
      simp only [Int.toNat_natCast, e, bne_self_eq_false, Bool.false_eq_true] at h'
    (repeat (refine ⟨by first | omega | (show _ ∧ _; omega) | decide, ?_⟩; conv => whnf))
    refine loopE [] (j + 1) (by omega) (by omega) ⟨?_, rfl, trivial⟩ trivial trivial (by kernel_rfl) trivial (by kernel_rfl)
    exact congrArg (fun n => AV.c (vi n)) (by omega)
  · refine retW tbl_ok rfl rfl ⟨?_, trivial⟩
    exact congrArg vi (by rw [List.take_of_length_le (by omega)])

theorem heldNodeS (xs : List GNode) (k : Int) (h0 : 0 ≤ k) (h1 : k + ((xs.map GNode.cnt).sum : Nat) ≤ 4611686018427387904) :
    Meets Tryz.prog 84 [.one (sGNode (markL GNode.mark GNode.cnt xs k)), .one (vi k)] [.one (vi (k + ((xs.map GNode.cnt).sum : Nat)))] := by
  have hl : xs.length ≤ 4611686018427387904 := by have := len_le_sum GNode.cnt xs (fun x => by simp only [GNode.cnt]; omega); omega
  have hL := markL_length GNode.mark GNode.cnt xs k
  refine enterW tbl_ok false Tryz.func84 rfl (by decide) fun W => ?_
  conv => whnf
  refine loopW tbl_ok false [] (fun j : Nat => [(1, .c (vi (k + (((xs.take j).map GNode.cnt).sum : Nat)))), (5, .c (vi j))]) (fun _ => []) (fun _ => [])
    (fun j => j ≤ xs.length) (fun j => xs.length - j) 0 (Nat.zero_le _) ⟨by simp [nth, ren2, ren1, ren0], rfl, trivial⟩ trivial trivial trivial (by kernel_rfl) (fun j hj => ?_)
  conv => whnf
  refine ⟨fun h => ?_, fun h => ?_⟩ <;> simp only [decide_eq_true_eq, decide_eq_false_iff_not] at h <;> conv => whnf
  · have h : j < xs.length := by omega
    have g := markL_getD GNode.mark GNode.cnt xs k j default h
    have hle := wS_take_le GNode.cnt xs j h
    have hst := wS_take GNode.cnt xs j h
    generalize xs.getD j default = y at g hle hst
    have hc : GNode.cnt y = 1 + 1 + 1 + (y.outs.map iCnt).sum := rfl
    (repeat (refine ⟨by first | omega | (show _ ∧ _; omega) | decide, ?_⟩; conv => whnf))
    refine ⟨fun h' => ?_, fun _ => ?_⟩ <;> conv => whnf
    · have e : ((markL GNode.mark GNode.cnt xs k).getD j default).kind = (k + (((xs.take j).map GNode.cnt).sum : Nat)) := congrArg (fun z : GNode => z.kind) g
      simp only [Int.toNat_natCast, e, bne_self_eq_false, Bool.false_eq_true] at h'
    (repeat (refine ⟨by first | omega | (show _ ∧ _; omega) | decide, ?_⟩; conv => whnf))
    refine ⟨fun h' => ?_, fun _ => ?_⟩ <;> conv => whnf
    · have e : ((markL GNode.mark GNode.cnt xs k).getD j default).a = (k + (((xs.take j).map GNode.cnt).sum : Nat) + 1) := congrArg (fun z : GNode => z.a) g
      simp only [Int.toNat_natCast, e, bne_self_eq_false, Bool.false_eq_true] at h'
    (repeat (refine ⟨by first | omega | (show _ ∧ _; omega) | decide, ?_⟩; conv => whnf))
    refine ⟨fun h' => ?_, fun _ => ?_⟩ <;> conv => whnf
    · have e : ((markL GNode.mark GNode.cnt xs k).getD j default).b = (k + (((xs.take j).map GNode.cnt).sum : Nat) + 1 + 1) := congrArg (fun z : GNode => z.b) g
      simp only [Int.toNat_natCast, e, bne_self_eq_false, Bool.false_eq_true] at h'
    (repeat (refine ⟨by first | omega | (show _ ∧ _; omega) | decide, ?_⟩; conv => whnf))
    refine callR (heldIntS y.outs (k + (((xs.take j).map GNode.cnt).sum : Nat) + 1 + 1 + 1) (by omega) (by omega)) (congrArg (fun z : GNode => some [Arg.one (sInt z.outs), .one (vi (k + (((xs.take j).map GNode.cnt).sum : Nat) + 1 + 1 + 1))]) g) (go tbl_ok false ?_)
    conv => whnf
    refine ⟨fun h' => ?_, fun _ => ?_⟩ <;> conv => whnf
    · simp only [decide_eq_true_eq] at h'; omega
    (repeat (refine ⟨by first | omega | (show _ ∧ _; omega) | decide, ?_⟩; conv => whnf))
    refine loopE [] (j + 1) (by omega) (by omega) ⟨?_, rfl, trivial⟩ trivial trivial (by kernel_rfl) trivial (by kernel_rfl)
    exact congrArg (fun n => AV.c (vi n)) (by omega)
  · refine retW tbl_ok rfl rfl ⟨?_, trivial⟩
    exact congrArg vi (by rw [List.take_of_length_le (by omega)])

theorem heldGraph (x : GGraph) (k : Int) (h0 : 0 ≤ k) (h1 : k + (x.cntV : Nat) ≤ 4611686018427387904) :
    Meets Tryz.prog 48 [.agg (x.markV k).c, .one (vi k)] [.one (vi (k + (x.cntV : Nat)))] := by
  have hc : x.cntV = (x.nodes.map GNode.cnt).sum := rfl
  refine enterW tbl_ok false Tryz.func48 rfl (by decide) fun W => ?_
  conv => whnf
  refine callR (heldNodeS x.nodes (k) (by omega) (by omega)) rfl (go tbl_ok false ?_)
  conv => whnf
  refine ⟨fun h' => ?_, fun _ => ?_⟩ <;> conv => whnf
  · simp only [decide_eq_true_eq] at h'; omega
  refine retW tbl_ok rfl rfl ⟨?_, trivial⟩
  exact congrArg vi (by omega)

theorem heldRecordS (xs : List GRecord) (k : Int) (h0 : 0 ≤ k) (h1 : k + ((xs.map GRecord.cnt).sum : Nat) ≤ 4611686018427387904) :
    Meets Tryz.prog 49 [.one (sGRecord (markL GRecord.mark GRecord.cnt xs k)), .one (vi k)] [.one (vi (k + ((xs.map GRecord.cnt).sum : Nat)))] := by
  have hl : xs.length ≤ 4611686018427387904 := by have := len_le_sum GRecord.cnt xs (fun x => by simp only [GRecord.cnt]; omega); omega
  have hL := markL_length GRecord.mark GRecord.cnt xs k
  refine enterW tbl_ok false Tryz.func49 rfl (by decide) fun W => ?_
  conv => whnf
  refine loopW tbl_ok false [] (fun j : Nat => [(1, .c (vi (k + (((xs.take j).map GRecord.cnt).sum : Nat)))), (5, .c (vi j))]) (fun _ => []) (fun _ => [])
    (fun j => j ≤ xs.length) (fun j => xs.length - j) 0 (Nat.zero_le _) ⟨by simp [nth, ren2, ren1, ren0], rfl, trivial⟩ trivial trivial trivial (by kernel_rfl) (fun j hj => ?_)
  conv => whnf
  refine ⟨fun h => ?_, fun h => ?_⟩ <;> simp only [decide_eq_true_eq, decide_eq_false_iff_not] at h <;> conv => whnf
  · have h : j < xs.length := by omega
    have g := markL_getD GRecord.mark GRecord.cnt xs k j default h
    have hle := wS_take_le GRecord.cnt xs j h
    have hst := wS_take GRecord.cnt xs j h
    generalize xs.getD j default = y at g hle hst
    have hc : GRecord.cnt y = 1 + 1 + 1 + 1 + 1 := rfl
    (repeat (refine ⟨by first | omega | (show _ ∧ _; omega) | decide, ?_⟩; conv => whnf))
    refine ⟨fun h' => ?_, fun _ => ?_⟩ <;> conv => whnf
    · have e : ((markL GRecord.mark GRecord.cnt xs k).getD j default).op = (k + (((xs.take j).map GRecord.cnt).sum : Nat)) := congrArg (fun z : GRecord => z.op) g
      simp only [Int.toNat_natCast, e, bne_self_eq_false, Bool.false_eq_true] at h'
    (repeat (refine ⟨by first | omega | (show _ ∧ _; omega) | decide, ?_⟩; conv => whnf))
    refine ⟨fun h' => ?_, fun _ => ?_⟩ <;> conv => whnf
    · have e : ((markL GRecord.mark GRecord.cnt xs k).getD j default).stamp.epoch = (k + (((xs.take j).map GRecord.cnt).sum : Nat) + 1) := congrArg (fun z : GRecord => z.stamp.epoch) g
      simp only [Int.toNat_natCast, e, bne_self_eq_false, Bool.false_eq_true] at h'
    (repeat (refine ⟨by first | omega | (show _ ∧ _; omega) | decide, ?_⟩; conv => whnf))
    refine ⟨fun h' => ?_, fun _ => ?_⟩ <;> conv => whnf
    · have e : ((markL GRecord.mark GRecord.cnt xs k).getD j default).stamp.turn = (k + (((xs.take j).map GRecord.cnt).sum : Nat) + 1 + 1) := congrArg (fun z : GRecord => z.stamp.turn) g
      simp only [Int.toNat_natCast, e, bne_self_eq_false, Bool.false_eq_true] at h'
    (repeat (refine ⟨by first | omega | (show _ ∧ _; omega) | decide, ?_⟩; conv => whnf))
    refine ⟨fun h' => ?_, fun _ => ?_⟩ <;> conv => whnf
    · have e : ((markL GRecord.mark GRecord.cnt xs k).getD j default).key = (k + (((xs.take j).map GRecord.cnt).sum : Nat) + 1 + 1 + 1) := congrArg (fun z : GRecord => z.key) g
      simp only [Int.toNat_natCast, e, bne_self_eq_false, Bool.false_eq_true] at h'
    (repeat (refine ⟨by first | omega | (show _ ∧ _; omega) | decide, ?_⟩; conv => whnf))
    refine ⟨fun h' => ?_, fun _ => ?_⟩ <;> conv => whnf
    · have e : ((markL GRecord.mark GRecord.cnt xs k).getD j default).val = (k + (((xs.take j).map GRecord.cnt).sum : Nat) + 1 + 1 + 1 + 1) := congrArg (fun z : GRecord => z.val) g
      simp only [Int.toNat_natCast, e, bne_self_eq_false, Bool.false_eq_true] at h'
    (repeat (refine ⟨by first | omega | (show _ ∧ _; omega) | decide, ?_⟩; conv => whnf))
    refine loopE [] (j + 1) (by omega) (by omega) ⟨?_, rfl, trivial⟩ trivial trivial (by kernel_rfl) trivial (by kernel_rfl)
    exact congrArg (fun n => AV.c (vi n)) (by omega)
  · refine retW tbl_ok rfl rfl ⟨?_, trivial⟩
    exact congrArg vi (by rw [List.take_of_length_le (by omega)])

theorem heldPickS (xs : List GPick) (k : Int) (h0 : 0 ≤ k) (h1 : k + ((xs.map GPick.cnt).sum : Nat) ≤ 4611686018427387904) :
    Meets Tryz.prog 50 [.one (sGPick (markL GPick.mark GPick.cnt xs k)), .one (vi k)] [.one (vi (k + ((xs.map GPick.cnt).sum : Nat)))] := by
  have hl : xs.length ≤ 4611686018427387904 := by have := len_le_sum GPick.cnt xs (fun x => by simp only [GPick.cnt]; omega); omega
  have hL := markL_length GPick.mark GPick.cnt xs k
  refine enterW tbl_ok false Tryz.func50 rfl (by decide) fun W => ?_
  conv => whnf
  refine loopW tbl_ok false [] (fun j : Nat => [(1, .c (vi (k + (((xs.take j).map GPick.cnt).sum : Nat)))), (5, .c (vi j))]) (fun _ => []) (fun _ => [])
    (fun j => j ≤ xs.length) (fun j => xs.length - j) 0 (Nat.zero_le _) ⟨by simp [nth, ren2, ren1, ren0], rfl, trivial⟩ trivial trivial trivial (by kernel_rfl) (fun j hj => ?_)
  conv => whnf
  refine ⟨fun h => ?_, fun h => ?_⟩ <;> simp only [decide_eq_true_eq, decide_eq_false_iff_not] at h <;> conv => whnf
  · have h : j < xs.length := by omega
    have g := markL_getD GPick.mark GPick.cnt xs k j default h
    have hle := wS_take_le GPick.cnt xs j h
    have hst := wS_take GPick.cnt xs j h
    generalize xs.getD j default = y at g hle hst
    have hc : GPick.cnt y = 1 + 1 + 1 := rfl
    (repeat (refine ⟨by first | omega | (show _ ∧ _; omega) | decide, ?_⟩; conv => whnf))
    refine ⟨fun h' => ?_, fun _ => ?_⟩ <;> conv => whnf
    · have e : ((markL GPick.mark GPick.cnt xs k).getD j default).kind = (k + (((xs.take j).map GPick.cnt).sum : Nat)) := congrArg (fun z : GPick => z.kind) g
      simp only [Int.toNat_natCast, e, bne_self_eq_false, Bool.false_eq_true] at h'
    (repeat (refine ⟨by first | omega | (show _ ∧ _; omega) | decide, ?_⟩; conv => whnf))
    refine ⟨fun h' => ?_, fun _ => ?_⟩ <;> conv => whnf
    · have e : ((markL GPick.mark GPick.cnt xs k).getD j default).a = (k + (((xs.take j).map GPick.cnt).sum : Nat) + 1) := congrArg (fun z : GPick => z.a) g
      simp only [Int.toNat_natCast, e, bne_self_eq_false, Bool.false_eq_true] at h'
    (repeat (refine ⟨by first | omega | (show _ ∧ _; omega) | decide, ?_⟩; conv => whnf))
    refine ⟨fun h' => ?_, fun _ => ?_⟩ <;> conv => whnf
    · have e : ((markL GPick.mark GPick.cnt xs k).getD j default).b = (k + (((xs.take j).map GPick.cnt).sum : Nat) + 1 + 1) := congrArg (fun z : GPick => z.b) g
      simp only [Int.toNat_natCast, e, bne_self_eq_false, Bool.false_eq_true] at h'
    (repeat (refine ⟨by first | omega | (show _ ∧ _; omega) | decide, ?_⟩; conv => whnf))
    refine loopE [] (j + 1) (by omega) (by omega) ⟨?_, rfl, trivial⟩ trivial trivial (by kernel_rfl) trivial (by kernel_rfl)
    exact congrArg (fun n => AV.c (vi n)) (by omega)
  · refine retW tbl_ok rfl rfl ⟨?_, trivial⟩
    exact congrArg vi (by rw [List.take_of_length_le (by omega)])

theorem heldScript (x : GScript) (k : Int) (h0 : 0 ≤ k) (h1 : k + (x.cntV : Nat) ≤ 4611686018427387904) :
    Meets Tryz.prog 9 [.agg (x.markV k).c, .one (vi k)] [.one (vi (k + (x.cntV : Nat)))] := by
  have hc : x.cntV = x.graph.cntV + (x.inputs.map GRecord.cnt).sum + (x.picks.map GPick.cnt).sum := rfl
  refine enterW tbl_ok false Tryz.func9 rfl (by decide) fun W => ?_
  conv => whnf
  refine callR (heldGraph x.graph (k) (by omega) (by omega)) rfl (go tbl_ok false ?_)
  conv => whnf
  refine ⟨fun h' => ?_, fun _ => ?_⟩ <;> conv => whnf
  · simp only [decide_eq_true_eq] at h'; omega
  refine callR (heldRecordS x.inputs (k + (x.graph.cntV : Nat)) (by omega) (by omega)) rfl (go tbl_ok false ?_)
  conv => whnf
  refine ⟨fun h' => ?_, fun _ => ?_⟩ <;> conv => whnf
  · simp only [decide_eq_true_eq] at h'; omega
  refine callR (heldPickS x.picks (k + (x.graph.cntV : Nat) + ((x.inputs.map GRecord.cnt).sum : Nat)) (by omega) (by omega)) rfl (go tbl_ok false ?_)
  conv => whnf
  refine ⟨fun h' => ?_, fun _ => ?_⟩ <;> conv => whnf
  · simp only [decide_eq_true_eq] at h'; omega
  refine retW tbl_ok rfl rfl ⟨?_, trivial⟩
  exact congrArg vi (by omega)

end Go.Proofs.YtcpjpkcahnldfaaGreatDoor
