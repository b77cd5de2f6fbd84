/- Texts for the law FnExactClusterLines: WClL. No conditions. -/
import Derived.Test.YteonkhnmlolfgaaGreatDoorWOutL
import Derived.Test.YteonkhnmlolfgaaGreatDoorWWork
import Derived.Test.YteonkhnmlolfgaaGreatDoorWToken

set_option maxRecDepth 100000
namespace Go.Proofs.YteonkhnmlolfgaaGreatDoor
open Go.Sx
def clLines (x : GCluster) : List ByteArray := ((List.range x.workers.length).map fun (w : Nat) => workerLine x w) ++ x.tokens.map tokenText ++ outLines x
theorem clLines_len {x : GCluster} {n : Nat} (h : x.w ≤ n) : (clLines x).length ≤ n := by
  have h1 := outL_len x 4
  have h2 := inN_len x.workers
  rw [← cells_eq] at h2
  simp only [GCluster.w, wS] at h
  simp only [clLines, List.length_append, List.length_map, List.length_range]
  have e : (outLines x).length = (outL x 4).length := rfl
  omega
theorem range_snoc {β : Type} (f : Nat → β) (k : Nat) : (List.range (k + 1)).map f = (List.range k).map f ++ [f k] := by
  rw [List.range_succ, List.map_append]
  rfl
set_option maxHeartbeats 1000000 in
theorem specClusterLines (x : GCluster) (ox : x.ok) (hx : x.w ≤ 1048576) : Meets Tryz.prog 14 [.agg x.c] [.one (sStr (clLines x))] := by
  have hl := GCluster.workers_le hx
  have ht := GCluster.tokens_le hx
  have hcl := clLines_len hx
  simp only [clLines, List.length_append, List.length_map, List.length_range] at hcl
  refine enterW tbl_ok false Tryz.func14 rfl (by decide) fun W => ?_
  conv => whnf
  refine castW 1 (sStr []) rfl nil_cast ?_
  refine loopW tbl_ok false [6] (fun k : Nat => [(4, .c (vi k))]) (fun k => [⟨0, [.c (sGNode x.graph.nodes), .c (vi x.graph.workers), .c (vi x.graph.cap), .c (sGWorker x.workers), .c (sGLink x.links), .c (sGToken x.tokens), .c (sGNews x.news)]⟩]) (fun k => [⟨1, sStr ((List.range k).map fun (w : Nat) => workerLine x w)⟩])
    (fun k => k ≤ x.workers.length) (fun k => x.workers.length - k) 0 (Nat.zero_le _) ⟨by first | rfl | simp [nth, ren2, ren1, ren0], trivial⟩ (by repeat' (first | exact trivial | exact rfl | refine ⟨?_, ?_⟩)) ⟨by first | rfl | exact (congrArg (fun l => slC _ _ l) (List.append_nil _)).symm | (show (_ : Cell) = _; simp) | simp, trivial⟩ (by first | exact trivial | exact ⟨rfl, trivial⟩ | repeat' (first | exact trivial | exact rfl | refine ⟨?_, ?_⟩)) (by kernel_rfl) (fun k hk => ?_)
  conv => whnf
  conv => whnf
  refine ⟨fun h => have h := of_decide_eq_true h; ?_, fun h => have h := of_decide_eq_false h; ?_⟩ <;> conv => whnf
  · have h : k < x.workers.length := by omega
    (repeat (refine need1 ?_; conv => whnf))
    refine callR (specWorkerLine x k hx ox) rfl (go tbl_ok false ?_)
    conv => whnf
    refine appW tbl_ok rfl rfl rfl rfl rfl rfl rfl rfl rfl rfl rfl (sStr (((List.range k).map fun (w : Nat) => workerLine x w) ++ [workerLine x k])) (slC_snoc rfl) (by intro h; cases h) (by (simp only [List.length_map, List.length_range]; omega)) (go tbl_ok false ?_)
    conv => whnf
    (repeat (refine need1 ?_; conv => whnf))
    refine loopE [(1, 3)] (k + 1) (by omega) (by omega) ⟨rfl, trivial⟩ ⟨congrArg sStr (range_snoc (fun (w : Nat) => workerLine x w) k).symm, trivial⟩ (by repeat' (first | exact trivial | exact rfl | refine ⟨?_, ?_⟩)) (by kernel_rfl) (by first | exact trivial | exact ⟨rfl, trivial⟩ | repeat' (first | exact trivial | exact rfl | refine ⟨?_, ?_⟩)) (by kernel_rfl)
  have e1 : k = x.workers.length := by omega
  (repeat (refine need1 ?_; conv => whnf))
  refine loopW tbl_ok false [] (fun j : Nat => [(5, .c (vi j))]) (fun j => [⟨0, [.c (sGNode x.graph.nodes), .c (vi x.graph.workers), .c (vi x.graph.cap), .c (sGWorker x.workers), .c (sGLink x.links), .c (sGToken x.tokens), .c (sGNews x.news)]⟩]) (fun j => [⟨1, sStr (((List.range k).map fun (w : Nat) => workerLine x w) ++ (x.tokens.take j).map tokenText)⟩])
    (fun j => j ≤ x.tokens.length) (fun j => x.tokens.length - j) 0 (Nat.zero_le _) ⟨by first | rfl | simp [nth, ren2, ren1, ren0], trivial⟩ (by repeat' (first | exact trivial | exact rfl | refine ⟨?_, ?_⟩)) ⟨by first | rfl | exact (congrArg (fun l => slC _ _ l) (List.append_nil _)).symm | (show (_ : Cell) = _; simp) | simp, trivial⟩ (by first | exact trivial | exact ⟨rfl, trivial⟩ | repeat' (first | exact trivial | exact rfl | refine ⟨?_, ?_⟩)) (by kernel_rfl) (fun j hj => ?_)
  conv => whnf
  conv => whnf
  refine ⟨fun h2 => have h2 := of_decide_eq_true h2; ?_, fun h2 => have h2 := of_decide_eq_false h2; ?_⟩ <;> conv => whnf
  · have h2 : j < x.tokens.length := by omega
    (repeat (refine need1 ?_; conv => whnf))
    refine callR (specTokenText (x.tokens.getD j default) (ox.2.2.2.1.2 _ (getD_mem (d := default) h2))) rfl (go tbl_ok false ?_)
    conv => whnf
    refine appW tbl_ok rfl rfl rfl rfl rfl rfl rfl rfl rfl rfl rfl (sStr (((List.range k).map fun (w : Nat) => workerLine x w) ++ (x.tokens.take j).map tokenText ++ [tokenText (x.tokens.getD j default)])) (slC_snoc rfl) (by intro h; cases h) (by (simp only [List.length_append, List.length_map, List.length_range, List.length_take]; omega)) (go tbl_ok false ?_)
    conv => whnf
    (repeat (refine need1 ?_; conv => whnf))
    refine loopE [(1, 3)] (j + 1) (by omega) (by omega) ⟨rfl, trivial⟩ ⟨congrArg sStr (by rw [map_snoc _ h2, ← List.append_assoc]), trivial⟩ (by repeat' (first | exact trivial | exact rfl | refine ⟨?_, ?_⟩)) (by kernel_rfl) (by first | exact trivial | exact ⟨rfl, trivial⟩ | repeat' (first | exact trivial | exact rfl | refine ⟨?_, ?_⟩)) (by kernel_rfl)
  have e2 : j = x.tokens.length := by omega
  (repeat (refine need1 ?_; conv => whnf))
  refine callW (specOutLines x ox hx) rfl (go tbl_ok false ?_)
  conv => whnf
  refine appW tbl_ok rfl rfl rfl rfl rfl rfl rfl rfl rfl rfl rfl (sStr (((List.range k).map fun (w : Nat) => workerLine x w) ++ (x.tokens.take j).map tokenText ++ outLines x)) (slC_app 1 _ _ _) (fun _ => flat_strs _) (by (simp only [List.length_append, List.length_map, List.length_range, List.length_take]; omega)) (go tbl_ok false ?_)
  conv => whnf
  refine retW tbl_ok rfl rfl ⟨?_, trivial⟩
  exact congrArg sStr (by rw [e1, e2, List.take_length]; rfl)
set_option maxHeartbeats 1000000 in
theorem implClusterLines (x : GCluster) (ox : x.ok) (hx : x.w ≤ 1048576) : MeetsT Tryz.prog Tab 15 [.agg x.c] [.one (sStr (clLines x))] := by
  have hl := GCluster.workers_le hx
  have ht := GCluster.tokens_le hx
  have hcl := clLines_len hx
  simp only [clLines, List.length_append, List.length_map, List.length_range] at hcl
  refine enterT tbl_ok false Tryz.func15 rfl (by decide) fun W hW => ?_
  conv => whnf
  refine nilW 3 1 (fun i => [vs (([] : List ByteArray).getD i default)]) rfl ?_
  refine loopW tbl_ok false [4] (fun k : Nat => [(10, .c (vi k))]) (fun k => [⟨0, [.c (sGNode x.graph.nodes), .c (vi x.graph.workers), .c (vi x.graph.cap), .c (sGWorker x.workers), .c (sGLink x.links), .c (sGToken x.tokens), .c (sGNews x.news)]⟩]) (fun k => [⟨1, sStr ((List.range k).map fun (w : Nat) => workerLine x w)⟩])
    (fun k => k ≤ x.workers.length) (fun k => x.workers.length - k) 0 (Nat.zero_le _) ⟨by first | rfl | simp [nth, ren2, ren1, ren0], trivial⟩ (by repeat' (first | exact trivial | exact rfl | refine ⟨?_, ?_⟩)) ⟨by first | rfl | exact (congrArg (fun l => slC _ _ l) (List.append_nil _)).symm | (show (_ : Cell) = _; simp) | simp, trivial⟩ (by first | exact trivial | exact ⟨rfl, trivial⟩ | repeat' (first | exact trivial | exact rfl | refine ⟨?_, ?_⟩)) (by kernel_rfl) (fun k hk => ?_)
  conv => whnf
  conv => whnf
  refine ⟨fun h => have h := of_decide_eq_true h; ?_, fun h => have h := of_decide_eq_false h; ?_⟩ <;> conv => whnf
  · have h : k < x.workers.length := by omega
    (repeat (refine need1 ?_; conv => whnf))
    refine callRT (implWorkerLine x k hx ox) tabStays hW rfl (go tbl_ok false ?_)
    conv => whnf
    conv => whnf
    refine appW tbl_ok rfl rfl rfl rfl rfl rfl rfl rfl rfl rfl rfl (sStr (((List.range k).map fun (w : Nat) => workerLine x w) ++ [workerLine x k])) (slC_snoc rfl) (by intro h; cases h) (by (simp only [List.length_map, List.length_range]; omega)) (go tbl_ok false ?_)
    conv => whnf
    (repeat (refine need1 ?_; conv => whnf))
    refine loopE [(1, 3)] (k + 1) (by omega) (by omega) ⟨rfl, trivial⟩ ⟨congrArg sStr (range_snoc (fun (w : Nat) => workerLine x w) k).symm, trivial⟩ (by repeat' (first | exact trivial | exact rfl | refine ⟨?_, ?_⟩)) (by kernel_rfl) (by first | exact trivial | exact ⟨rfl, trivial⟩ | repeat' (first | exact trivial | exact rfl | refine ⟨?_, ?_⟩)) (by kernel_rfl)
  have e1 : k = x.workers.length := by omega
  (repeat (refine need1 ?_; conv => whnf))
  refine loopW tbl_ok false [] (fun j : Nat => [(23, .c (vi j))]) (fun j => [⟨0, [.c (sGNode x.graph.nodes), .c (vi x.graph.workers), .c (vi x.graph.cap), .c (sGWorker x.workers), .c (sGLink x.links), .c (sGToken x.tokens), .c (sGNews x.news)]⟩]) (fun j => [⟨1, sStr (((List.range k).map fun (w : Nat) => workerLine x w) ++ (x.tokens.take j).map tokenText)⟩])
    (fun j => j ≤ x.tokens.length) (fun j => x.tokens.length - j) 0 (Nat.zero_le _) ⟨by first | rfl | simp [nth, ren2, ren1, ren0], trivial⟩ (by repeat' (first | exact trivial | exact rfl | refine ⟨?_, ?_⟩)) ⟨by first | rfl | exact (congrArg (fun l => slC _ _ l) (List.append_nil _)).symm | (show (_ : Cell) = _; simp) | simp, trivial⟩ (by first | exact trivial | exact ⟨rfl, trivial⟩ | repeat' (first | exact trivial | exact rfl | refine ⟨?_, ?_⟩)) (by kernel_rfl) (fun j hj => ?_)
  conv => whnf
  conv => whnf
  refine ⟨fun h2 => have h2 := of_decide_eq_true h2; ?_, fun h2 => have h2 := of_decide_eq_false h2; ?_⟩ <;> conv => whnf
  · have h2 : j < x.tokens.length := by omega
    (repeat (refine need1 ?_; conv => whnf))
    refine callRT (implTokenText (x.tokens.getD j default) (ox.2.2.2.1.2 _ (getD_mem (d := default) h2))) tabStays hW rfl (go tbl_ok false ?_)
    conv => whnf
    conv => whnf
    refine appW tbl_ok rfl rfl rfl rfl rfl rfl rfl rfl rfl rfl rfl (sStr (((List.range k).map fun (w : Nat) => workerLine x w) ++ (x.tokens.take j).map tokenText ++ [tokenText (x.tokens.getD j default)])) (slC_snoc rfl) (by intro h; cases h) (by (simp only [List.length_append, List.length_map, List.length_range, List.length_take]; omega)) (go tbl_ok false ?_)
    conv => whnf
    (repeat (refine need1 ?_; conv => whnf))
    refine loopE [(1, 4)] (j + 1) (by omega) (by omega) ⟨rfl, trivial⟩ ⟨congrArg sStr (by rw [map_snoc _ h2, ← List.append_assoc]), trivial⟩ (by repeat' (first | exact trivial | exact rfl | refine ⟨?_, ?_⟩)) (by kernel_rfl) (by first | exact trivial | exact ⟨rfl, trivial⟩ | repeat' (first | exact trivial | exact rfl | refine ⟨?_, ?_⟩)) (by kernel_rfl)
  have e2 : j = x.tokens.length := by omega
  (repeat (refine need1 ?_; conv => whnf))
  refine callWT (implOutLines x ox hx) tabStays hW rfl (go tbl_ok false ?_)
  conv => whnf
  refine appW tbl_ok rfl rfl rfl rfl rfl rfl rfl rfl rfl rfl rfl (sStr (((List.range k).map fun (w : Nat) => workerLine x w) ++ (x.tokens.take j).map tokenText ++ outLines x)) (slC_app 1 _ _ _) (fun _ => flat_strs _) (by (simp only [List.length_append, List.length_map, List.length_range, List.length_take]; omega)) (go tbl_ok false ?_)
  conv => whnf
  refine retW tbl_ok rfl rfl ⟨?_, trivial⟩
  exact congrArg sStr (by rw [e1, e2, List.take_length]; rfl)

end Go.Proofs.YteonkhnmlolfgaaGreatDoor
