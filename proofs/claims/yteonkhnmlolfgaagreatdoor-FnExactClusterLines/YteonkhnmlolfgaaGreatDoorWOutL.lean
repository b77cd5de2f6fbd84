/- Texts for the law FnExactClusterLines: WOutL. No conditions. -/
import Derived.Test.YteonkhnmlolfgaaGreatDoorWOut
import Derived.Test.YteonkhnmlolfgaaGreatDoorWCell
import Derived.Shelf.Strconv.Itoa3

set_option maxRecDepth 100000
namespace Go.Proofs.YteonkhnmlolfgaaGreatDoor
open Go.Sx
theorem mem_put1 {l : List GCell} {x y : GCell} (h : y ∈ putCell l x) : y ∈ l ∨ y = x := by
  unfold putCell at h
  split at h
  · exact .inl h
  · rcases List.mem_append.1 h with h | h
    · exact .inl (List.mem_of_mem_take h)
    · rcases List.mem_cons.1 h with h | h
      · exact .inr h
      · exact .inl (List.mem_of_mem_drop h)
theorem mem_foldPut {cs : List GCell} {y : GCell} : ∀ {l : List GCell}, y ∈ cs.foldl putCell l → y ∈ l ∨ y ∈ cs := by
  induction cs with
  | nil => intro l h; exact .inl h
  | cons c r ih =>
    intro l h
    rcases ih h with h | h
    · rcases mem_put1 h with h | h
      · exact .inl h
      · exact .inr (by rw [h]; exact List.mem_cons_self)
    · exact .inr (List.mem_cons_of_mem _ h)
theorem mem_inN {ws : List GWorker} {y : GCell} : ∀ {l : List GCell}, y ∈ ws.foldl (fun l w => w.cells.foldl putCell l) l → y ∈ l ∨ ∃ w ∈ ws, y ∈ w.cells := by
  induction ws with
  | nil => intro l h; exact .inl h
  | cons c r ih =>
    intro l h
    rcases ih h with h | ⟨w, hw, h⟩
    · rcases mem_foldPut h with h | h
      · exact .inl h
      · exact .inr ⟨c, List.mem_cons_self, h⟩
    · exact .inr ⟨w, List.mem_cons_of_mem _ hw, h⟩
theorem outCells_ok {x : GCluster} (ox : x.ok) {e : Int} {y : GCell} (h : y ∈ outCells x e) : y.ok := by
  have h1 : y ∈ cellsIn x := (List.mem_filter.1 (List.mem_filter.1 h).1).1
  rcases mem_inN h1 with h1 | ⟨w, hw, h1⟩
  · cases h1
  · exact (ox.2.1.2 w hw).2.2.2.1.2 y h1
def outL (x : GCluster) (k : Nat) : List ByteArray := (List.range k).flatMap fun (e : Nat) => (outCells x e).map cellLine
def outLines (x : GCluster) : List ByteArray := outL x 4
theorem outL_succ (x : GCluster) (k : Nat) : outL x (k + 1) = outL x k ++ (outCells x k).map cellLine := by
  rw [outL, List.range_succ, List.flatMap_append]
  simp [outL]
theorem epochs_len (l : List GCell) (k : Nat) : ((List.range k).map fun (e : Nat) => (l.filter (fun y => y.epoch == (e : Int))).length).sum ≤ (l.filter (fun y => decide (0 ≤ y.epoch ∧ y.epoch < (k : Int)))).length := by
  induction k with
  | zero => simp
  | succ k ih =>
    rw [List.range_succ, List.map_append, List.sum_append]
    simp only [List.map_cons, List.map_nil, List.sum_cons, List.sum_nil, Nat.add_zero]
    have e : (l.filter (fun y => decide (0 ≤ y.epoch ∧ y.epoch < (k : Int)))).length + (l.filter (fun y => y.epoch == (k : Int))).length ≤ (l.filter (fun y => decide (0 ≤ y.epoch ∧ y.epoch < ((k + 1 : Nat) : Int)))).length := by
      clear ih
      induction l with
      | nil => simp
      | cons y r ih =>
        simp only [List.filter_cons]
        by_cases h1 : 0 ≤ y.epoch ∧ y.epoch < (k : Int)
        · rw [if_pos (by simpa using h1), if_neg (by simp; omega), if_pos (by simp; omega)]
          simp only [List.length_cons]
          omega
        · by_cases h2 : y.epoch = (k : Int)
          · rw [if_neg (by simpa using h1), if_pos (by simpa using h2), if_pos (by simp; omega)]
            simp only [List.length_cons]
            omega
          · rw [if_neg (by simpa using h1), if_neg (by simpa using h2), if_neg (by simp; omega)]
            exact ih
    omega
theorem outL_len (x : GCluster) (k : Nat) : (outL x k).length ≤ (cellsIn x).length := by
  rw [outL, List.length_flatMap]
  have h1 := epochs_len (outsOnly x.graph (cellsIn x)) k
  have h2 := List.length_filter_le (fun y : GCell => decide (0 ≤ y.epoch ∧ y.epoch < (k : Int))) (outsOnly x.graph (cellsIn x))
  have h3 := outsOnly_len (g := x.graph) (Nat.le_refl (cellsIn x).length)
  simp only [List.length_map]
  have e : ((List.range k).map fun (e : Nat) => (outCells x e).length) = ((List.range k).map fun (e : Nat) => ((outsOnly x.graph (cellsIn x)).filter (fun y => y.epoch == (e : Int))).length) := rfl
  rw [e]
  omega
theorem outCells_len {x : GCluster} {n : Nat} (h : x.w ≤ n) (e : Int) : (outCells x e).length ≤ n := Nat.le_trans (List.length_filter_le _ _) (outsOnly_len (cellsIn_len h))
theorem map_snoc {α β : Type} [Inhabited α] (f : α → β) {l : List α} {k : Nat} (hk : k < l.length) : (l.take (k + 1)).map f = (l.take k).map f ++ [f (l.getD k default)] := by
  rw [List.take_succ_eq_append_getElem hk, List.map_append]
  simp [List.getD, hk]
set_option maxHeartbeats 1000000 in
theorem specOutLines (x : GCluster) (ox : x.ok) (hx : x.w ≤ 1048576) : Meets Tryz.prog 6 [.agg x.c] [.one (sStr (outLines x))] := by
  have hc := cellsIn_len hx
  refine enterW tbl_ok false Tryz.func6 rfl (by decide) fun W => ?_
  conv => whnf
  refine castW 1 (sStr []) rfl nil_cast ?_
  refine loopW tbl_ok false [5, 6, 7] (fun k : Nat => [(4, .c (vi k))]) (fun k => [⟨0, [.c (sGNode x.graph.nodes), .c (vi x.graph.workers), .c (vi x.graph.cap), .c (sGWorker x.workers), .c (sGLink x.links), .c (sGToken x.tokens), .c (sGNews x.news)]⟩]) (fun k => [⟨1, sStr (outL x k)⟩])
    (fun k => k ≤ 4) (fun k => 4 - k) 0 (Nat.zero_le _) ⟨by first | rfl | simp [nth, ren2, ren1, ren0], trivial⟩ (by repeat' (first | exact trivial | exact rfl | refine ⟨?_, ?_⟩)) ⟨by first | rfl | exact (congrArg (fun l => slC _ _ l) (List.append_nil _)).symm | (show (_ : Cell) = _; simp) | simp, trivial⟩ (by first | exact trivial | exact ⟨rfl, trivial⟩ | repeat' (first | exact trivial | exact rfl | refine ⟨?_, ?_⟩)) (by kernel_rfl) (fun k hk => ?_)
  conv => whnf
  conv => whnf
  refine ⟨fun h => ?_, fun h => ?_⟩ <;> conv => whnf
  · have h : k < 4 := by have := of_decide_eq_true h; omega
    have h1 := outL_len x k
    have h2 := outCells_len hx k
    refine callW (specOutCells x k (by omega)) rfl (go tbl_ok false ?_)
    conv => whnf
    refine loopW tbl_ok false [] (fun j : Nat => [(6, .c (vi j))]) (fun j => [⟨0, [.c (sGNode x.graph.nodes), .c (vi x.graph.workers), .c (vi x.graph.cap), .c (sGWorker x.workers), .c (sGLink x.links), .c (sGToken x.tokens), .c (sGNews x.news)]⟩]) (fun j => [⟨2, sGCell (outCells x k)⟩, ⟨1, sStr (outL x k ++ ((outCells x k).take j).map cellLine)⟩])
      (fun j => j ≤ (outCells x k).length) (fun j => (outCells x k).length - j) 0 (Nat.zero_le _) ⟨by first | rfl | simp [nth, ren2, ren1, ren0], trivial⟩ (by repeat' (first | exact trivial | exact rfl | refine ⟨?_, ?_⟩)) ⟨by first | rfl | exact (congrArg (fun l => slC _ _ l) (List.append_nil _)).symm | (show (_ : Cell) = _; simp) | simp, by first | rfl | exact (congrArg (fun l => slC _ _ l) (List.append_nil _)).symm | (show (_ : Cell) = _; simp) | simp, trivial⟩ (by first | exact trivial | exact ⟨rfl, trivial⟩ | repeat' (first | exact trivial | exact rfl | refine ⟨?_, ?_⟩)) (by kernel_rfl) (fun j hj => ?_)
    conv => whnf
    conv => whnf
    refine ⟨fun h' => have h' := of_decide_eq_true h'; ?_, fun h' => have h' := of_decide_eq_false h'; ?_⟩ <;> conv => whnf
    · have h' : j < (outCells x k).length := by omega
      have h3 : (((outCells x k).take j).map cellLine).length ≤ j := by rw [List.length_map, List.length_take]; omega
      (repeat (refine need1 ?_; conv => whnf))
      refine callR (specCellLine ((outCells x k).getD j default) (outCells_ok ox (getD_mem h'))) rfl (go tbl_ok false ?_)
      conv => whnf
      refine appW tbl_ok rfl rfl rfl rfl rfl rfl rfl rfl rfl rfl rfl (sStr (outL x k ++ ((outCells x k).take j).map cellLine ++ [cellLine ((outCells x k).getD j default)])) (slC_snoc rfl) (by intro h; cases h) (by (rw [List.length_append]; omega)) (go tbl_ok false ?_)
      conv => whnf
      (repeat (refine need1 ?_; conv => whnf))
      refine loopE [(1, 4)] (j + 1) (by omega) (by omega) ⟨rfl, trivial⟩ ⟨rfl, congrArg sStr (by rw [map_snoc _ h', ← List.append_assoc]), trivial⟩ (by repeat' (first | exact trivial | exact rfl | refine ⟨?_, ?_⟩)) (by kernel_rfl) (by first | exact trivial | exact ⟨rfl, trivial⟩ | repeat' (first | exact trivial | exact rfl | refine ⟨?_, ?_⟩)) (by kernel_rfl)
    · (repeat (refine need1 ?_; conv => whnf))
      refine loopE [] (k + 1) (by omega) (by omega) ⟨rfl, trivial⟩ ⟨congrArg sStr (by rw [outL_succ, List.take_of_length_le (by omega)]), trivial⟩ (by repeat' (first | exact trivial | exact rfl | refine ⟨?_, ?_⟩)) (by kernel_rfl) (by first | exact trivial | exact ⟨rfl, trivial⟩ | repeat' (first | exact trivial | exact rfl | refine ⟨?_, ?_⟩)) (by kernel_rfl)
  · have h : ¬ k < 4 := by have := of_decide_eq_false h; omega
    obtain rfl : k = 4 := by omega
    repeat (first | (refine skf ?_; conv => whnf) | (refine skt ?_; conv => whnf) | (refine need1 ?_; conv => whnf))
    refine retW tbl_ok rfl rfl ?_
    exact (by repeat' (first | exact trivial | exact outC_val _ _ | exact rfl | exact .inr ⟨rfl, rfl, _, _, rfl⟩ | refine ⟨?_, ?_⟩))
set_option maxHeartbeats 1000000 in
theorem implOutLines (x : GCluster) (ox : x.ok) (hx : x.w ≤ 1048576) : MeetsT Tryz.prog Tab 8 [.agg x.c] [.one (sStr (outLines x))] := by
  have hc := cellsIn_len hx
  refine enterT tbl_ok false Tryz.func8 rfl (by decide) fun W hW => ?_
  conv => whnf
  refine nilW 3 1 (fun i => [vs (([] : List ByteArray).getD i default)]) rfl ?_
  refine loopW tbl_ok false [] (fun k : Nat => [(4, .c (vi k))]) (fun k => [⟨0, [.c (sGNode x.graph.nodes), .c (vi x.graph.workers), .c (vi x.graph.cap), .c (sGWorker x.workers), .c (sGLink x.links), .c (sGToken x.tokens), .c (sGNews x.news)]⟩]) (fun k => [⟨1, sStr (outL x k)⟩])
    (fun k => k ≤ 4) (fun k => 4 - k) 0 (Nat.zero_le _) ⟨by first | rfl | simp [nth, ren2, ren1, ren0], trivial⟩ (by repeat' (first | exact trivial | exact rfl | refine ⟨?_, ?_⟩)) ⟨by first | rfl | exact (congrArg (fun l => slC _ _ l) (List.append_nil _)).symm | (show (_ : Cell) = _; simp) | simp, trivial⟩ (by first | exact trivial | exact ⟨rfl, trivial⟩ | repeat' (first | exact trivial | exact rfl | refine ⟨?_, ?_⟩)) (by kernel_rfl) (fun k hk => ?_)
  conv => whnf
  conv => whnf
  refine ⟨fun h => ?_, fun h => ?_⟩ <;> conv => whnf
  · have h : k < 4 := by have := of_decide_eq_true h; omega
    have h1 := outL_len x k
    have h2 := outCells_len hx k
    refine callW (implOutCells x k (by omega)) rfl (go tbl_ok false ?_)
    conv => whnf
    refine loopW tbl_ok false [] (fun j : Nat => [(15, .c (vi j))]) (fun j => [⟨0, [.c (sGNode x.graph.nodes), .c (vi x.graph.workers), .c (vi x.graph.cap), .c (sGWorker x.workers), .c (sGLink x.links), .c (sGToken x.tokens), .c (sGNews x.news)]⟩]) (fun j => [⟨2, sGCell (outCells x k)⟩, ⟨1, sStr (outL x k ++ ((outCells x k).take j).map cellLine)⟩])
      (fun j => j ≤ (outCells x k).length) (fun j => (outCells x k).length - j) 0 (Nat.zero_le _) ⟨by first | rfl | simp [nth, ren2, ren1, ren0], trivial⟩ (by repeat' (first | exact trivial | exact rfl | refine ⟨?_, ?_⟩)) ⟨by first | rfl | exact (congrArg (fun l => slC _ _ l) (List.append_nil _)).symm | (show (_ : Cell) = _; simp) | simp, by first | rfl | exact (congrArg (fun l => slC _ _ l) (List.append_nil _)).symm | (show (_ : Cell) = _; simp) | simp, trivial⟩ (by first | exact trivial | exact ⟨rfl, trivial⟩ | repeat' (first | exact trivial | exact rfl | refine ⟨?_, ?_⟩)) (by kernel_rfl) (fun j hj => ?_)
    conv => whnf
    conv => whnf
    refine ⟨fun h' => have h' := of_decide_eq_true h'; ?_, fun h' => have h' := of_decide_eq_false h'; ?_⟩ <;> conv => whnf
    · have h' : j < (outCells x k).length := by omega
      have h3 : (((outCells x k).take j).map cellLine).length ≤ j := by rw [List.length_map, List.length_take]; omega
      (repeat (refine need1 ?_; conv => whnf))
      refine callRT (implCellLine ((outCells x k).getD j default) (outCells_ok ox (getD_mem h'))) tabStays hW rfl (go tbl_ok false ?_)
      conv => whnf
      conv => whnf
      refine appW tbl_ok rfl rfl rfl rfl rfl rfl rfl rfl rfl rfl rfl (sStr (outL x k ++ ((outCells x k).take j).map cellLine ++ [cellLine ((outCells x k).getD j default)])) (slC_snoc rfl) (by intro h; cases h) (by (rw [List.length_append]; omega)) (go tbl_ok false ?_)
      conv => whnf
      (repeat (refine need1 ?_; conv => whnf))
      refine loopE [(1, 5)] (j + 1) (by omega) (by omega) ⟨rfl, trivial⟩ ⟨rfl, congrArg sStr (by rw [map_snoc _ h', ← List.append_assoc]), trivial⟩ (by repeat' (first | exact trivial | exact rfl | refine ⟨?_, ?_⟩)) (by kernel_rfl) (by first | exact trivial | exact ⟨rfl, trivial⟩ | repeat' (first | exact trivial | exact rfl | refine ⟨?_, ?_⟩)) (by kernel_rfl)
    · (repeat (refine need1 ?_; conv => whnf))
      refine loopE [] (k + 1) (by omega) (by omega) ⟨rfl, trivial⟩ ⟨congrArg sStr (by rw [outL_succ, List.take_of_length_le (by omega)]), trivial⟩ (by repeat' (first | exact trivial | exact rfl | refine ⟨?_, ?_⟩)) (by kernel_rfl) (by first | exact trivial | exact ⟨rfl, trivial⟩ | repeat' (first | exact trivial | exact rfl | refine ⟨?_, ?_⟩)) (by kernel_rfl)
  · have h : ¬ k < 4 := by have := of_decide_eq_false h; omega
    obtain rfl : k = 4 := by omega
    repeat (first | (refine skf ?_; conv => whnf) | (refine skt ?_; conv => whnf) | (refine need1 ?_; conv => whnf))
    refine retW tbl_ok rfl rfl ?_
    exact (by repeat' (first | exact trivial | exact outC_val _ _ | exact rfl | exact .inr ⟨rfl, rfl, _, _, rfl⟩ | refine ⟨?_, ?_⟩))

end Go.Proofs.YteonkhnmlolfgaaGreatDoor
