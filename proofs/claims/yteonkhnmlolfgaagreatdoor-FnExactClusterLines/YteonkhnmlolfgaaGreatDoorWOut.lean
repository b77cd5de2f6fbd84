/- Texts for the law FnExactClusterLines: WOut. No conditions. -/
import Derived.Test.YteonkhnmlolfgaaGreatDoorEng5
import Derived.Test.YteonkhnmlolfgaaGreatDoorWPut
import Derived.Test.YteonkhnmlolfgaaGreatDoorWOk

set_option maxRecDepth 100000
namespace Go.Proofs.YteonkhnmlolfgaaGreatDoor
open Go.Sx
def nodeAt (g : GGraph) (op : Int) : GNode := g.nodes.getD op.toNat default
def cellsIn (c : GCluster) : List GCell := c.workers.foldl (fun l w => w.cells.foldl putCell l) []
def outsOnly (g : GGraph) (l : List GCell) : List GCell := l.filter fun x => decide ((0 ≤ x.op ∧ x.op < g.nodes.length) ∧ (nodeAt g x.op).kind = 8)
def outCells (c : GCluster) (e : Int) : List GCell := (outsOnly c.graph (cellsIn c)).filter fun x => x.epoch == e

def inN (ws : List GWorker) : List GCell := ws.foldl (fun l w => w.cells.foldl putCell l) []
theorem cells_eq (x : GCluster) : cellsIn x = inN x.workers := rfl
theorem foldl_succ {α β : Type} [Inhabited α] (f : β → α → β) (b : β) {l : List α} {k : Nat} (hk : k < l.length) : (l.take (k + 1)).foldl f b = f ((l.take k).foldl f b) (l.getD k default) := by
  have : l.take (k + 1) = l.take k ++ [l.getD k default] := by
    rw [List.take_succ_eq_append_getElem hk]
    simp [List.getD, hk]
  rw [this, List.foldl_append]
  rfl
theorem inN_succ {ws : List GWorker} {k : Nat} (hk : k < ws.length) : inN (ws.take (k + 1)) = (ws.getD k default).cells.foldl putCell (inN (ws.take k)) := foldl_succ _ _ hk
theorem putCell_len (l : List GCell) (x : GCell) : (putCell l x).length ≤ l.length + 1 := by
  unfold putCell
  split
  · omega
  · have := putAt_le l x
    simp only [List.length_append, List.length_take, List.length_cons, List.length_drop]
    omega
theorem foldPut_len (cs : List GCell) : ∀ l : List GCell, (cs.foldl putCell l).length ≤ l.length + cs.length := by
  induction cs with
  | nil => intro l; simp
  | cons c r ih =>
    intro l
    have := ih (putCell l c)
    have := putCell_len l c
    simp only [List.foldl_cons, List.length_cons]
    omega
theorem cells_w (w : GWorker) : w.cells.length ≤ w.w := by simp only [GWorker.w]; omega
theorem inN_len' (ws : List GWorker) : ∀ l : List GCell, (ws.foldl (fun l w => w.cells.foldl putCell l) l).length ≤ l.length + (ws.map GWorker.w).sum := by
  induction ws with
  | nil => intro l; simp
  | cons w r ih =>
    intro l
    have h1 := ih (w.cells.foldl putCell l)
    have h2 := foldPut_len w.cells l
    have h3 := cells_w w
    simp only [List.foldl_cons, List.map_cons, List.sum_cons]
    omega
theorem inN_len (ws : List GWorker) : (inN ws).length ≤ (ws.map GWorker.w).sum := by
  have := inN_len' ws []
  simpa [inN] using this
theorem cellsIn_len {x : GCluster} {n : Nat} (h : x.w ≤ n) : (cellsIn x).length ≤ n := by
  have := inN_len x.workers
  rw [cells_eq]
  simp only [GCluster.w, wS] at h
  omega
set_option maxHeartbeats 1000000 in
theorem specCellsIn (x : GCluster) (hx : x.w ≤ 16000000) : Meets Tryz.prog 49 [.agg x.c] [.one (sGCell (cellsIn x))] := by
  have hl := GCluster.workers_le hx
  refine enterW tbl_ok false Tryz.func49 rfl (by decide) fun W => ?_
  conv => whnf
  refine castW 1 (sGCell []) rfl nil_cast ?_
  refine loopW tbl_ok false [5, 6] (fun k : Nat => [(4, .c (vi k))]) (fun k => [⟨0, [.c (sGNode x.graph.nodes), .c (vi x.graph.workers), .c (vi x.graph.cap), .c (sGWorker x.workers), .c (sGLink x.links), .c (sGToken x.tokens), .c (sGNews x.news)]⟩]) (fun k => [⟨1, sGCell (inN (x.workers.take k))⟩])
    (fun k => k ≤ x.workers.length) (fun k => x.workers.length - k) 0 (Nat.zero_le _) ⟨by first | rfl | simp [nth, ren2, ren1, ren0], trivial⟩ (by repeat' (first | exact trivial | exact rfl | refine ⟨?_, ?_⟩)) ⟨by first | rfl | exact (congrArg (fun l => slC _ _ l) (List.append_nil _)).symm | (show (_ : Cell) = _; simp) | simp, trivial⟩ (by first | exact trivial | exact ⟨rfl, trivial⟩ | repeat' (first | exact trivial | exact rfl | refine ⟨?_, ?_⟩)) (by kernel_rfl) (fun k hk => ?_)
  conv => whnf
  (repeat (refine need1 ?_; conv => whnf))
  refine ⟨fun h => have h := of_decide_eq_true h; ?_, fun h => have h := of_decide_eq_false h; ?_⟩ <;> conv => whnf
  · have h : k < x.workers.length := by omega
    have hw := GCluster.worker_le hx h
    have hc := cells_w (x.workers.getD k default)
    have hi := inN_len (x.workers.take k)
    refine loopW tbl_ok false [] (fun j : Nat => [(5, .c (vi j))]) (fun j => [⟨0, [.c (sGNode x.graph.nodes), .c (vi x.graph.workers), .c (vi x.graph.cap), .c (sGWorker x.workers), .c (sGLink x.links), .c (sGToken x.tokens), .c (sGNews x.news)]⟩]) (fun j => [⟨1, sGCell (((x.workers.getD k default).cells.take j).foldl putCell (inN (x.workers.take k)))⟩])
      (fun j => j ≤ (x.workers.getD k default).cells.length) (fun j => (x.workers.getD k default).cells.length - j) 0 (Nat.zero_le _) ⟨by first | rfl | simp [nth, ren2, ren1, ren0], trivial⟩ (by repeat' (first | exact trivial | exact rfl | refine ⟨?_, ?_⟩)) ⟨by first | rfl | exact (congrArg (fun l => slC _ _ l) (List.append_nil _)).symm | (show (_ : Cell) = _; simp) | simp, trivial⟩ (by first | exact trivial | exact ⟨rfl, trivial⟩ | repeat' (first | exact trivial | exact rfl | refine ⟨?_, ?_⟩)) (by kernel_rfl) (fun j hj => ?_)
    conv => whnf
    (repeat (refine need1 ?_; conv => whnf))
    refine ⟨fun h => have h := of_decide_eq_true h; ?_, fun h => have h := of_decide_eq_false h; ?_⟩ <;> conv => whnf
    · have h : j < (x.workers.getD k default).cells.length := by rw [Int.toNat_natCast] at h; omega
      have hf := foldPut_len ((x.workers.getD k default).cells.take j) (inN (x.workers.take k))
      have ht := List.length_take_le j (x.workers.getD k default).cells
      (repeat (refine need1 ?_; conv => whnf))
      refine callW (specPutCell (((x.workers.getD k default).cells.take j).foldl putCell (inN (x.workers.take k))) ((x.workers.getD k default).cells.getD j default) (by omega)) rfl (go tbl_ok false ?_)
      conv => whnf
      (repeat (refine need1 ?_; conv => whnf))
      refine loopE [(1, 2)] (j + 1) (by omega) (by omega) ⟨rfl, trivial⟩ ⟨congrArg sGCell (foldl_succ _ _ h).symm, trivial⟩ (by repeat' (first | exact trivial | exact rfl | refine ⟨?_, ?_⟩)) (by kernel_rfl) (by first | exact trivial | exact ⟨rfl, trivial⟩ | repeat' (first | exact trivial | exact rfl | refine ⟨?_, ?_⟩)) (by kernel_rfl)
    · (repeat (refine need1 ?_; conv => whnf))
      refine loopE [] (k + 1) (by omega) (by omega) ⟨rfl, trivial⟩ ⟨congrArg sGCell (by rw [Int.toNat_natCast] at h; rw [inN_succ ‹_›, take_all (x.workers.getD k default).cells j (by omega)]), trivial⟩ (by repeat' (first | exact trivial | exact rfl | refine ⟨?_, ?_⟩)) (by kernel_rfl) (by first | exact trivial | exact ⟨rfl, trivial⟩ | repeat' (first | exact trivial | exact rfl | refine ⟨?_, ?_⟩)) (by kernel_rfl)
  · (repeat (refine need1 ?_; conv => whnf))
    refine retW tbl_ok rfl rfl ⟨?_, trivial⟩
    exact congrArg sGCell (by rw [cells_eq, List.take_of_length_le (by omega)])
set_option maxHeartbeats 1000000 in
theorem implCellsIn (x : GCluster) (hx : x.w ≤ 16000000) : Meets Tryz.prog 57 [.agg x.c] [.one (sGCell (cellsIn x))] := by
  have hl := GCluster.workers_le hx
  refine enterW tbl_ok false Tryz.func57 rfl (by decide) fun W => ?_
  conv => whnf
  refine nilW 3 4 (fun i => GCell.c (([] : List GCell).getD i default)) rfl ?_
  refine loopW tbl_ok false [] (fun k : Nat => [(11, .c (vi k))]) (fun k => [⟨0, [.c (sGNode x.graph.nodes), .c (vi x.graph.workers), .c (vi x.graph.cap), .c (sGWorker x.workers), .c (sGLink x.links), .c (sGToken x.tokens), .c (sGNews x.news)]⟩]) (fun k => [⟨1, sGCell (inN (x.workers.take k))⟩])
    (fun k => k ≤ x.workers.length) (fun k => x.workers.length - k) 0 (Nat.zero_le _) ⟨by first | rfl | simp [nth, ren2, ren1, ren0], trivial⟩ (by repeat' (first | exact trivial | exact rfl | refine ⟨?_, ?_⟩)) ⟨by first | rfl | exact (congrArg (fun l => slC _ _ l) (List.append_nil _)).symm | (show (_ : Cell) = _; simp) | simp, trivial⟩ (by first | exact trivial | exact ⟨rfl, trivial⟩ | repeat' (first | exact trivial | exact rfl | refine ⟨?_, ?_⟩)) (by kernel_rfl) (fun k hk => ?_)
  conv => whnf
  conv => whnf
  refine ⟨fun h => have h := of_decide_eq_true h; ?_, fun h => have h := of_decide_eq_false h; ?_⟩ <;> conv => whnf
  · have h : k < x.workers.length := by omega
    have hw := GCluster.worker_le hx h
    have hc := cells_w (x.workers.getD k default)
    have hi := inN_len (x.workers.take k)
    (repeat (refine need1 ?_; conv => whnf))
    refine loopW tbl_ok false [] (fun j : Nat => [(18, .c (vi j))]) (fun j => [⟨0, [.c (sGNode x.graph.nodes), .c (vi x.graph.workers), .c (vi x.graph.cap), .c (sGWorker x.workers), .c (sGLink x.links), .c (sGToken x.tokens), .c (sGNews x.news)]⟩]) (fun j => [⟨1, sGCell (((x.workers.getD k default).cells.take j).foldl putCell (inN (x.workers.take k)))⟩])
      (fun j => j ≤ (x.workers.getD k default).cells.length) (fun j => (x.workers.getD k default).cells.length - j) 0 (Nat.zero_le _) ⟨by first | rfl | simp [nth, ren2, ren1, ren0], trivial⟩ (by repeat' (first | exact trivial | exact rfl | refine ⟨?_, ?_⟩)) ⟨by first | rfl | exact (congrArg (fun l => slC _ _ l) (List.append_nil _)).symm | (show (_ : Cell) = _; simp) | simp, trivial⟩ (by first | exact trivial | exact ⟨rfl, trivial⟩ | repeat' (first | exact trivial | exact rfl | refine ⟨?_, ?_⟩)) (by kernel_rfl) (fun j hj => ?_)
    conv => whnf
    conv => whnf
    refine ⟨fun h => have h := of_decide_eq_true h; ?_, fun h => have h := of_decide_eq_false h; ?_⟩ <;> conv => whnf
    · have h : j < (x.workers.getD k default).cells.length := by rw [Int.toNat_natCast] at h; omega
      have hf := foldPut_len ((x.workers.getD k default).cells.take j) (inN (x.workers.take k))
      have ht := List.length_take_le j (x.workers.getD k default).cells
      (repeat (refine need1 ?_; conv => whnf))
      refine callW (implPutCell (((x.workers.getD k default).cells.take j).foldl putCell (inN (x.workers.take k))) ((x.workers.getD k default).cells.getD j default) (by omega)) rfl (go tbl_ok false ?_)
      conv => whnf
      (repeat (refine need1 ?_; conv => whnf))
      refine loopE [(1, 4)] (j + 1) (by omega) (by omega) ⟨rfl, trivial⟩ ⟨congrArg sGCell (foldl_succ _ _ h).symm, trivial⟩ (by repeat' (first | exact trivial | exact rfl | refine ⟨?_, ?_⟩)) (by kernel_rfl) (by first | exact trivial | exact ⟨rfl, trivial⟩ | repeat' (first | exact trivial | exact rfl | refine ⟨?_, ?_⟩)) (by kernel_rfl)
    · (repeat (refine need1 ?_; conv => whnf))
      refine loopE [] (k + 1) (by omega) (by omega) ⟨rfl, trivial⟩ ⟨congrArg sGCell (by rw [Int.toNat_natCast] at h; rw [inN_succ ‹_›, take_all (x.workers.getD k default).cells j (by omega)]), trivial⟩ (by repeat' (first | exact trivial | exact rfl | refine ⟨?_, ?_⟩)) (by kernel_rfl) (by first | exact trivial | exact ⟨rfl, trivial⟩ | repeat' (first | exact trivial | exact rfl | refine ⟨?_, ?_⟩)) (by kernel_rfl)
  · (repeat (refine need1 ?_; conv => whnf))
    refine retW tbl_ok rfl rfl ⟨?_, trivial⟩
    exact congrArg sGCell (by rw [cells_eq, List.take_of_length_le (by omega)])
def nodeOf (g : GGraph) (op : Int) : GNode × Bool := if within op 0 (g.nodes.length - 1) = true then (nodeAt g op, true) else (⟨0, 0, 0, []⟩, false)
theorem node_w {g : GGraph} {n : Nat} (h : g.w ≤ n) (op : Int) (hk : op.toNat < g.nodes.length) : (nodeAt g op).w ≤ n := by
  have := wS_take_le GNode.w g.nodes op.toNat hk
  simp only [GGraph.w, wS] at h
  simp only [nodeAt]
  omega
theorem specNodeOf (g : GGraph) (op : Int) (hg : g.w ≤ 16777216) : Meets Tryz.prog 80 [.agg g.c, .one (vi op)] [.agg (nodeOf g op).1.c, .one (vb (nodeOf g op).2)] := by
  have hl : g.nodes.length ≤ 16777216 := by simp only [GGraph.w, wS] at hg; omega
  refine enterW tbl_ok false Tryz.func80 rfl (by decide) fun W => ?_
  conv => whnf
  (repeat (refine need1 ?_; conv => whnf))
  refine callR (specIn op 0 (g.nodes.length - 1)) rfl (go tbl_ok false ?_)
  conv => whnf
  by_cases h1 : within op 0 (g.nodes.length - 1) = true
  · have h2 := Go.Sx.within_iff.1 h1
    have hk : op.toNat < g.nodes.length := by omega
    have hw := node_w hg op hk
    have ho : (nodeAt g op).outs.length ≤ 16777216 := by simp only [GNode.w] at hw; omega
    rw [h1, nodeOf, if_pos h1]
    repeat (first | (refine skf ?_; conv => whnf) | (refine skt ?_; conv => whnf) | (refine need1 ?_; conv => whnf))
    (repeat (refine need1 ?_; conv => whnf))
    refine appW tbl_ok rfl rfl rfl rfl rfl rfl rfl rfl rfl rfl rfl (sInt (nodeAt g op).outs) (nil_app) (fun _ => flat_ints _) (by (simp only [nodeAt] at ho; omega)) (go tbl_ok false ?_)
    conv => whnf
    repeat (first | (refine skf ?_; conv => whnf) | (refine skt ?_; conv => whnf) | (refine need1 ?_; conv => whnf))
    refine retW tbl_ok rfl rfl ?_
    exact (by repeat' (first | exact trivial | exact outC_val _ _ | exact rfl | exact .inr ⟨rfl, rfl, _, _, rfl⟩ | refine ⟨?_, ?_⟩))
  · have h3 : within op 0 (g.nodes.length - 1) = false := by simpa using h1
    rw [h3, nodeOf, if_neg h1]
    repeat (first | (refine skf ?_; conv => whnf) | (refine skt ?_; conv => whnf) | (refine need1 ?_; conv => whnf))
    refine retW tbl_ok rfl rfl ?_
    exact (by repeat' (first | exact trivial | exact outC_val _ _ | exact rfl | exact .inr ⟨rfl, rfl, _, _, rfl⟩ | refine ⟨?_, ?_⟩))
def outP (g : GGraph) (x : GCell) : Bool := decide ((0 ≤ x.op ∧ x.op < g.nodes.length) ∧ (nodeAt g x.op).kind = 8)
theorem outP_of (g : GGraph) (x : GCell) : outP g x = ((nodeOf g x.op).2 && ((nodeOf g x.op).1.kind == 8)) := by
  unfold outP nodeOf
  by_cases h1 : within x.op 0 (g.nodes.length - 1) = true
  · have h2 := Go.Sx.within_iff.1 h1
    rw [if_pos h1, Bool.eq_iff_iff]
    simp only [decide_eq_true_eq, Bool.true_and, beq_iff_eq]
    exact ⟨fun h => h.2, fun h => ⟨⟨by omega, by omega⟩, h⟩⟩
  · have h3 : within x.op 0 (g.nodes.length - 1) = false := by simpa using h1
    have h2 := Go.Sx.within_f.1 h3
    rw [if_neg h1]
    simp only [Bool.false_and, decide_eq_false_iff_not]
    exact fun h => by omega
set_option maxHeartbeats 1000000 in
theorem specOutsOnly (g : GGraph) (l : List GCell) (hg : g.w ≤ 16777216) (hl : l.length ≤ 16777216) : Meets Tryz.prog 48 [.agg g.c, .one (sGCell l)] [.one (sGCell (outsOnly g l))] := by
  refine enterW tbl_ok false Tryz.func48 rfl (by decide) fun W => ?_
  conv => whnf
  refine castW 1 (sGCell []) rfl nil_cast ?_
  refine loopW tbl_ok false [9] (fun k : Nat => [(6, .c (vi k))]) (fun k => [⟨0, [.c (sGNode g.nodes), .c (vi g.workers), .c (vi g.cap)]⟩]) (fun k => [⟨1, sGCell ((l.take k).filter (outP g))⟩])
    (fun k => k ≤ l.length) (fun k => l.length - k) 0 (Nat.zero_le _) ⟨by first | rfl | simp [nth, ren2, ren1, ren0], trivial⟩ (by repeat' (first | exact trivial | exact rfl | refine ⟨?_, ?_⟩)) ⟨by first | rfl | exact (congrArg (fun l => slC _ _ l) (List.append_nil _)).symm | (show (_ : Cell) = _; simp) | simp, trivial⟩ (by first | exact trivial | exact ⟨rfl, trivial⟩ | repeat' (first | exact trivial | exact rfl | refine ⟨?_, ?_⟩)) (by kernel_rfl) (fun k hk => ?_)
  conv => whnf
  (repeat (refine need1 ?_; conv => whnf))
  refine ⟨fun h => have h := of_decide_eq_true h; ?_, fun h => have h := of_decide_eq_false h; ?_⟩ <;> conv => whnf
  · have h : k < l.length := by omega
    have hs := filter_take (outP g) l k h
    have hb := filter_take_len (outP g) l k
    rw [outP_of g (l.getD k default)] at hs
    refine drawF rfl ?_
    refine preF tbl_ok false 1 rfl rfl (by kernel_rfl) rfl (andL_mem (by repeat' (first | exact trivial | refine ⟨?_, ?_⟩ | (show _ ∧ _; omega) | omega))) ?_
    refine preF tbl_ok false 2 rfl rfl (by kernel_rfl) rfl (andL_mem (by repeat' (first | exact trivial | refine ⟨?_, ?_⟩ | (show _ ∧ _; omega) | omega))) ?_
    refine readF (s' := ?_) 0 rfl (by kernel_rfl) ?_ ?_
    rotate_left
    refine go tbl_ok false ?_
    conv => whnf
    (repeat (refine need1 ?_; conv => whnf))
    exact endF
    refine readF (s' := ?_) 3 rfl (by kernel_rfl) ?_ ?_
    rotate_left
    refine go tbl_ok false ?_
    conv => whnf
    (repeat (refine need1 ?_; conv => whnf))
    exact endF
    refine preF tbl_ok false 4 rfl rfl (by kernel_rfl) rfl (andL_mem (by repeat' (first | exact trivial | refine ⟨?_, ?_⟩ | (show _ ∧ _; omega) | omega))) ?_
    refine readF (s' := ?_) 5 rfl (by kernel_rfl) ?_ ?_
    rotate_left
    refine go tbl_ok false ?_
    conv => whnf
    (repeat (refine need1 ?_; conv => whnf))
    exact endF
    refine splitB [6, 10] (by kernel_rfl) ⟨?_, ?_, trivial⟩
    focus
      refine go tbl_ok false ?_
      conv => whnf
      refine callW (specNodeOf g (l.getD k default).op hg) rfl (go tbl_ok false ?_)
      conv => whnf
      refine loopB ?_
      refine preF tbl_ok false 7 rfl rfl (by kernel_rfl) rfl (andL_mem (by repeat' (first | exact trivial | refine ⟨?_, ?_⟩ | (show _ ∧ _; omega) | omega))) ?_
      refine offF (s' := ?_) 8 rfl (by kernel_rfl) ?_ ?_
      rotate_left
      refine go tbl_ok false ?_
      conv => whnf
      (repeat (refine need1 ?_; conv => whnf))
      exact endF
      refine offF (s' := ?_) 9 rfl (by kernel_rfl) ?_ ?_
      rotate_left
      refine go tbl_ok false ?_
      conv => whnf
      (repeat (refine need1 ?_; conv => whnf))
      exact endF
      refine splitB [10] (by kernel_rfl) ⟨?_, trivial⟩
      refine go tbl_ok false ?_
      conv => whnf
      (repeat (refine need1 ?_; conv => whnf))
      refine loopB ?_
      refine splitB [11] (by kernel_rfl) ⟨?_, trivial⟩
      refine go tbl_ok false ?_
      conv => whnf
      (repeat (refine need1 ?_; conv => whnf))
      refine loopB ?_
      refine preF tbl_ok false 12 rfl rfl (by kernel_rfl) rfl (andL_mem (by repeat' (first | exact trivial | refine ⟨?_, ?_⟩ | (show _ ∧ _; omega) | omega))) ?_
      refine doneB (by kernel_rfl) (go tbl_ok false ?_)
      conv => whnf
    rotate_left 1
    focus
      refine go tbl_ok false ?_
      conv => whnf
      (repeat (refine need1 ?_; conv => whnf))
      refine loopB ?_
      refine splitB [6] (by kernel_rfl) ⟨?_, trivial⟩
      refine go tbl_ok false ?_
      conv => whnf
      refine callW (specNodeOf g (l.getD k default).op hg) rfl (go tbl_ok false ?_)
      conv => whnf
      refine loopB ?_
      refine preF tbl_ok false 7 rfl rfl (by kernel_rfl) rfl (andL_mem (by repeat' (first | exact trivial | refine ⟨?_, ?_⟩ | (show _ ∧ _; omega) | omega))) ?_
      refine offF (s' := ?_) 8 rfl (by kernel_rfl) ?_ ?_
      rotate_left
      refine go tbl_ok false ?_
      conv => whnf
      (repeat (refine need1 ?_; conv => whnf))
      exact endF
      refine offF (s' := ?_) 9 rfl (by kernel_rfl) ?_ ?_
      rotate_left
      refine go tbl_ok false ?_
      conv => whnf
      (repeat (refine need1 ?_; conv => whnf))
      exact endF
      refine splitB [11] (by kernel_rfl) ⟨?_, trivial⟩
      refine go tbl_ok false ?_
      conv => whnf
      (repeat (refine need1 ?_; conv => whnf))
      refine loopB ?_
      refine preF tbl_ok false 12 rfl rfl (by kernel_rfl) rfl (andL_mem (by repeat' (first | exact trivial | refine ⟨?_, ?_⟩ | (show _ ∧ _; omega) | omega))) ?_
      refine doneB (by kernel_rfl) (go tbl_ok false ?_)
      conv => whnf
    all_goals
      refine ⟨fun h1 => ?_, fun h1 => ?_⟩ <;> conv => whnf
      · repeat (first | (refine skf ?_; conv => whnf) | (refine skt ?_; conv => whnf) | (refine need1 ?_; conv => whnf))
        refine ⟨fun h8 => ?_, fun h8 => ?_⟩ <;> conv => whnf
        · (repeat (refine need1 ?_; conv => whnf))
          refine appW tbl_ok rfl rfl rfl rfl rfl rfl rfl rfl rfl rfl rfl (sGCell ((l.take k).filter (outP g) ++ [l.getD k default])) (slC_snoc rfl) (by intro h; cases h) (by omega) (go tbl_ok false ?_)
          conv => whnf
          (repeat (refine need1 ?_; conv => whnf))
          refine loopE [(1, 5)] (k + 1) (by omega) (by omega) ⟨rfl, trivial⟩ ⟨congrArg sGCell (by rw [hs, h1, h8]; rfl), trivial⟩ (by repeat' (first | exact trivial | exact rfl | refine ⟨?_, ?_⟩)) (by kernel_rfl) (by first | exact trivial | exact ⟨rfl, trivial⟩ | repeat' (first | exact trivial | exact rfl | refine ⟨?_, ?_⟩)) (by kernel_rfl)
        · (repeat (refine need1 ?_; conv => whnf))
          refine loopE [] (k + 1) (by omega) (by omega) ⟨rfl, trivial⟩ ⟨congrArg sGCell (by rw [hs, h1, h8]; simp), trivial⟩ (by repeat' (first | exact trivial | exact rfl | refine ⟨?_, ?_⟩)) (by kernel_rfl) (by first | exact trivial | exact ⟨rfl, trivial⟩ | repeat' (first | exact trivial | exact rfl | refine ⟨?_, ?_⟩)) (by kernel_rfl)
      · repeat (first | (refine skf ?_; conv => whnf) | (refine skt ?_; conv => whnf) | (refine need1 ?_; conv => whnf))
        refine loopE [] (k + 1) (by omega) (by omega) ⟨rfl, trivial⟩ ⟨congrArg sGCell (by rw [hs, h1]; simp), trivial⟩ (by repeat' (first | exact trivial | exact rfl | refine ⟨?_, ?_⟩)) (by kernel_rfl) (by first | exact trivial | exact ⟨rfl, trivial⟩ | repeat' (first | exact trivial | exact rfl | refine ⟨?_, ?_⟩)) (by kernel_rfl)
  · (repeat (refine need1 ?_; conv => whnf))
    refine retW tbl_ok rfl rfl ⟨?_, trivial⟩
    exact congrArg (fun l => sGCell (List.filter _ l)) (take_all _ k (by omega))
set_option maxHeartbeats 1000000 in
theorem implOutsOnly (g : GGraph) (l : List GCell) (hg : g.w ≤ 16777216) (hl : l.length ≤ 16777216) : Meets Tryz.prog 56 [.agg g.c, .one (sGCell l)] [.one (sGCell (outsOnly g l))] := by
  refine enterW tbl_ok false Tryz.func56 rfl (by decide) fun W => ?_
  conv => whnf
  refine nilW 5 4 (fun i => GCell.c (([] : List GCell).getD i default)) rfl ?_
  refine loopW tbl_ok false [] (fun k : Nat => [(10, .c (vi k))]) (fun k => [⟨0, [.c (sGNode g.nodes), .c (vi g.workers), .c (vi g.cap)]⟩]) (fun k => [⟨1, sGCell ((l.take k).filter (outP g))⟩])
    (fun k => k ≤ l.length) (fun k => l.length - k) 0 (Nat.zero_le _) ⟨by first | rfl | simp [nth, ren2, ren1, ren0], trivial⟩ (by repeat' (first | exact trivial | exact rfl | refine ⟨?_, ?_⟩)) ⟨by first | rfl | exact (congrArg (fun l => slC _ _ l) (List.append_nil _)).symm | (show (_ : Cell) = _; simp) | simp, trivial⟩ (by first | exact trivial | exact ⟨rfl, trivial⟩ | repeat' (first | exact trivial | exact rfl | refine ⟨?_, ?_⟩)) (by kernel_rfl) (fun k hk => ?_)
  conv => whnf
  conv => whnf
  refine ⟨fun h => have h := of_decide_eq_true h; ?_, fun h => have h := of_decide_eq_false h; ?_⟩ <;> conv => whnf
  · have h : k < l.length := by omega
    have hs := filter_take (outP g) l k h
    have hb := filter_take_len (outP g) l k
    rw [outP_of g (l.getD k default)] at hs
    (repeat (refine need1 ?_; conv => whnf))
    refine callR (implIsNode g (l.getD k default).op hg) rfl (go tbl_ok false ?_)
    conv => whnf
    refine ⟨fun h1 => ?_, fun h1 => ?_⟩ <;> conv => whnf
    · have h2 := Go.Sx.within_iff.1 h1
      rw [nodeOf, if_pos h1] at hs
      repeat (first | (refine skf ?_; conv => whnf) | (refine skt ?_; conv => whnf) | (refine need1 ?_; conv => whnf))
      (repeat (refine need1 ?_; conv => whnf))
      refine ⟨fun h8 => ?_, fun h8 => ?_⟩ <;> conv => whnf
      · have h8 : ((nodeAt g (l.getD k default).op).kind == 8) = true := h8
        (repeat (refine need1 ?_; conv => whnf))
        refine appW tbl_ok rfl rfl rfl rfl rfl rfl rfl rfl rfl rfl rfl (sGCell ((l.take k).filter (outP g) ++ [l.getD k default])) (slC_snoc rfl) (by intro h; cases h) (by omega) (go tbl_ok false ?_)
        conv => whnf
        (repeat (refine need1 ?_; conv => whnf))
        refine loopE [(1, 4)] (k + 1) (by omega) (by omega) ⟨rfl, trivial⟩ ⟨congrArg sGCell (by rw [hs, h8]; rfl), trivial⟩ (by repeat' (first | exact trivial | exact rfl | refine ⟨?_, ?_⟩)) (by kernel_rfl) (by first | exact trivial | exact ⟨rfl, trivial⟩ | repeat' (first | exact trivial | exact rfl | refine ⟨?_, ?_⟩)) (by kernel_rfl)
      · have h8 : ((nodeAt g (l.getD k default).op).kind == 8) = false := h8
        (repeat (refine need1 ?_; conv => whnf))
        refine loopE [] (k + 1) (by omega) (by omega) ⟨rfl, trivial⟩ ⟨congrArg sGCell (by rw [hs, h8]; simp), trivial⟩ (by repeat' (first | exact trivial | exact rfl | refine ⟨?_, ?_⟩)) (by kernel_rfl) (by first | exact trivial | exact ⟨rfl, trivial⟩ | repeat' (first | exact trivial | exact rfl | refine ⟨?_, ?_⟩)) (by kernel_rfl)
    · have hn : ¬ within (l.getD k default).op 0 (g.nodes.length - 1) = true := by rw [h1]; decide
      rw [nodeOf, if_neg hn] at hs
      repeat (first | (refine skf ?_; conv => whnf) | (refine skt ?_; conv => whnf) | (refine need1 ?_; conv => whnf))
      refine loopE [] (k + 1) (by omega) (by omega) ⟨rfl, trivial⟩ ⟨congrArg sGCell (by rw [hs]; simp), trivial⟩ (by repeat' (first | exact trivial | exact rfl | refine ⟨?_, ?_⟩)) (by kernel_rfl) (by first | exact trivial | exact ⟨rfl, trivial⟩ | repeat' (first | exact trivial | exact rfl | refine ⟨?_, ?_⟩)) (by kernel_rfl)
  · (repeat (refine need1 ?_; conv => whnf))
    refine retW tbl_ok rfl rfl ⟨?_, trivial⟩
    exact congrArg (fun l => sGCell (List.filter _ l)) (take_all _ k (by omega))
theorem outsOnly_len {g : GGraph} {l : List GCell} {n : Nat} (h : l.length ≤ n) : (outsOnly g l).length ≤ n := Nat.le_trans (List.length_filter_le _ _) h
theorem outCells_eq (x : GCluster) (e : Int) : outCells x e = (outsOnly x.graph (cellsIn x)).filter (fun y => y.epoch == e) := rfl
theorem graph_w {x : GCluster} {n : Nat} (h : x.w ≤ n) : x.graph.w ≤ n := by simp only [GCluster.w] at h; omega
set_option maxHeartbeats 1000000 in
theorem specOutCells (x : GCluster) (e : Int) (hx : x.w ≤ 16000000) : Meets Tryz.prog 21 [.agg x.c, .one (vi e)] [.one (sGCell (outCells x e))] := by
  have hc := cellsIn_len hx
  have ho := outsOnly_len (g := x.graph) hc
  have hg := graph_w hx
  refine enterW tbl_ok false Tryz.func21 rfl (by decide) fun W => ?_
  conv => whnf
  refine castW 1 (sGCell []) rfl nil_cast ?_
  first | (refine drawI 2 rfl [0, 1, 2, 3, 4, 5] (by kernel_rfl) (go tbl_ok false ?_); conv => whnf)
  refine callW (specCellsIn x hx) rfl (go tbl_ok false ?_)
  conv => whnf
  refine callW (specOutsOnly x.graph (cellsIn x) (by omega) (by omega)) rfl (go tbl_ok false ?_)
  conv => whnf
  rw [outCells_eq]
  refine loopW tbl_ok false [8] (fun k : Nat => [(7, .c (vi k))]) (fun k => []) (fun k => [⟨3, sGCell (outsOnly x.graph (cellsIn x))⟩, ⟨1, sGCell (((outsOnly x.graph (cellsIn x)).take k).filter (fun y => y.epoch == e))⟩])
    (fun k => k ≤ (outsOnly x.graph (cellsIn x)).length) (fun k => (outsOnly x.graph (cellsIn x)).length - k) 0 (Nat.zero_le _) ⟨by first | rfl | simp [nth, ren2, ren1, ren0], trivial⟩ trivial ⟨by first | rfl | exact (congrArg (fun l => slC _ _ l) (List.append_nil _)).symm | (show (_ : Cell) = _; simp) | simp, by first | rfl | exact (congrArg (fun l => slC _ _ l) (List.append_nil _)).symm | (show (_ : Cell) = _; simp) | simp, trivial⟩ (by first | exact trivial | exact ⟨rfl, trivial⟩ | repeat' (first | exact trivial | exact rfl | refine ⟨?_, ?_⟩)) (by kernel_rfl) (fun k hk => ?_)
  conv => whnf
  (repeat (refine need1 ?_; conv => whnf))
  refine ⟨fun h => have h := of_decide_eq_true h; ?_, fun h => have h := of_decide_eq_false h; ?_⟩ <;> conv => whnf
  · have h : k < (outsOnly x.graph (cellsIn x)).length := by omega
    have hs := filter_take (fun y : GCell => y.epoch == e) (outsOnly x.graph (cellsIn x)) k h
    have hb := filter_take_len (fun y : GCell => y.epoch == e) (outsOnly x.graph (cellsIn x)) k
    (repeat (refine need1 ?_; conv => whnf))
    refine ⟨fun h1 => ?_, fun h1 => ?_⟩ <;> conv => whnf
    · rw [Int.toNat_natCast] at h1
      (repeat (refine need1 ?_; conv => whnf))
      refine appW tbl_ok rfl rfl rfl rfl rfl rfl rfl rfl rfl rfl rfl (sGCell (((outsOnly x.graph (cellsIn x)).take k).filter (fun y => y.epoch == e) ++ [(outsOnly x.graph (cellsIn x)).getD k default])) (slC_snoc rfl) (by intro h; cases h) (by omega) (go tbl_ok false ?_)
      conv => whnf
      (repeat (refine need1 ?_; conv => whnf))
      refine loopE [(1, 5)] (k + 1) (by omega) (by omega) ⟨rfl, trivial⟩ ⟨rfl, congrArg sGCell (by rw [hs, if_pos h1]), trivial⟩ (by repeat' (first | exact trivial | exact rfl | refine ⟨?_, ?_⟩)) (by kernel_rfl) (by first | exact trivial | exact ⟨rfl, trivial⟩ | repeat' (first | exact trivial | exact rfl | refine ⟨?_, ?_⟩)) (by kernel_rfl)
    · rw [Int.toNat_natCast] at h1
      (repeat (refine need1 ?_; conv => whnf))
      refine loopE [] (k + 1) (by omega) (by omega) ⟨rfl, trivial⟩ ⟨rfl, congrArg sGCell (by rw [hs, if_neg (by rw [h1]; decide), List.append_nil]), trivial⟩ (by repeat' (first | exact trivial | exact rfl | refine ⟨?_, ?_⟩)) (by kernel_rfl) (by first | exact trivial | exact ⟨rfl, trivial⟩ | repeat' (first | exact trivial | exact rfl | refine ⟨?_, ?_⟩)) (by kernel_rfl)
  · (repeat (refine need1 ?_; conv => whnf))
    refine retW tbl_ok rfl rfl ⟨?_, trivial⟩
    exact congrArg (fun l => sGCell (List.filter _ l)) (take_all _ k (by omega))
set_option maxHeartbeats 1000000 in
theorem implOutCells (x : GCluster) (e : Int) (hx : x.w ≤ 16000000) : Meets Tryz.prog 28 [.agg x.c, .one (vi e)] [.one (sGCell (outCells x e))] := by
  have hc := cellsIn_len hx
  have ho := outsOnly_len (g := x.graph) hc
  have hg := graph_w hx
  refine enterW tbl_ok false Tryz.func28 rfl (by decide) fun W => ?_
  conv => whnf
  refine nilW 5 4 (fun i => GCell.c (([] : List GCell).getD i default)) rfl ?_
  first | (refine drawI 2 rfl [0, 1, 2, 6, 3, 4, 5] (by kernel_rfl) (go tbl_ok false ?_); conv => whnf)
  refine callW (implCellsIn x hx) rfl (go tbl_ok false ?_)
  conv => whnf
  refine callW (implOutsOnly x.graph (cellsIn x) (by omega) (by omega)) rfl (go tbl_ok false ?_)
  conv => whnf
  rw [outCells_eq]
  refine loopW tbl_ok false [] (fun k : Nat => [(14, .c (vi k))]) (fun k => []) (fun k => [⟨3, sGCell (outsOnly x.graph (cellsIn x))⟩, ⟨1, sGCell (((outsOnly x.graph (cellsIn x)).take k).filter (fun y => y.epoch == e))⟩])
    (fun k => k ≤ (outsOnly x.graph (cellsIn x)).length) (fun k => (outsOnly x.graph (cellsIn x)).length - k) 0 (Nat.zero_le _) ⟨by first | rfl | simp [nth, ren2, ren1, ren0], trivial⟩ trivial ⟨by first | rfl | exact (congrArg (fun l => slC _ _ l) (List.append_nil _)).symm | (show (_ : Cell) = _; simp) | simp, by first | rfl | exact (congrArg (fun l => slC _ _ l) (List.append_nil _)).symm | (show (_ : Cell) = _; simp) | simp, trivial⟩ (by first | exact trivial | exact ⟨rfl, trivial⟩ | repeat' (first | exact trivial | exact rfl | refine ⟨?_, ?_⟩)) (by kernel_rfl) (fun k hk => ?_)
  conv => whnf
  conv => whnf
  refine ⟨fun h => have h := of_decide_eq_true h; ?_, fun h => have h := of_decide_eq_false h; ?_⟩ <;> conv => whnf
  · have h : k < (outsOnly x.graph (cellsIn x)).length := by omega
    have hs := filter_take (fun y : GCell => y.epoch == e) (outsOnly x.graph (cellsIn x)) k h
    have hb := filter_take_len (fun y : GCell => y.epoch == e) (outsOnly x.graph (cellsIn x)) k
    (repeat (refine need1 ?_; conv => whnf))
    refine ⟨fun h1 => ?_, fun h1 => ?_⟩ <;> conv => whnf
    · rw [Int.toNat_natCast] at h1
      (repeat (refine need1 ?_; conv => whnf))
      refine appW tbl_ok rfl rfl rfl rfl rfl rfl rfl rfl rfl rfl rfl (sGCell (((outsOnly x.graph (cellsIn x)).take k).filter (fun y => y.epoch == e) ++ [(outsOnly x.graph (cellsIn x)).getD k default])) (slC_snoc rfl) (by intro h; cases h) (by omega) (go tbl_ok false ?_)
      conv => whnf
      (repeat (refine need1 ?_; conv => whnf))
      refine loopE [(1, 6)] (k + 1) (by omega) (by omega) ⟨rfl, trivial⟩ ⟨rfl, congrArg sGCell (by rw [hs, if_pos h1]), trivial⟩ (by repeat' (first | exact trivial | exact rfl | refine ⟨?_, ?_⟩)) (by kernel_rfl) (by first | exact trivial | exact ⟨rfl, trivial⟩ | repeat' (first | exact trivial | exact rfl | refine ⟨?_, ?_⟩)) (by kernel_rfl)
    · rw [Int.toNat_natCast] at h1
      (repeat (refine need1 ?_; conv => whnf))
      refine loopE [] (k + 1) (by omega) (by omega) ⟨rfl, trivial⟩ ⟨rfl, congrArg sGCell (by rw [hs, if_neg (by rw [h1]; decide), List.append_nil]), trivial⟩ (by repeat' (first | exact trivial | exact rfl | refine ⟨?_, ?_⟩)) (by kernel_rfl) (by first | exact trivial | exact ⟨rfl, trivial⟩ | repeat' (first | exact trivial | exact rfl | refine ⟨?_, ?_⟩)) (by kernel_rfl)
  · (repeat (refine need1 ?_; conv => whnf))
    refine retW tbl_ok rfl rfl ⟨?_, trivial⟩
    exact congrArg (fun l => sGCell (List.filter _ l)) (take_all _ k (by omega))

end Go.Proofs.YteonkhnmlolfgaaGreatDoor
