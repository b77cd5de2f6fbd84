/- Texts for the law FnExactScriptLines: WScript. No conditions. -/
import Derived.Test.YthnemokfcnejkaaDoorWGraph
import Derived.Test.YthnemokfcnejkaaDoorWLines
import Derived.Test.YthnemokfcnejkaaDoorWInp
import Derived.Test.YthnemokfcnejkaaDoorWPick

set_option maxRecDepth 100000
namespace Go.Proofs.YthnemokfcnejkaaDoor
open Go.Sx
def scriptLines (s : GScript) : List ByteArray := [graphLine s.graph] ++ s.graph.nodes.map nodeLine ++ s.inputs.map inputLine ++ s.picks.map pickText ++ (if s.rounds > 0 then [(⟨#[102, 97, 105, 114, 32]⟩ : ByteArray) ++ dec s.rounds] else [])
theorem scriptLines_len (s : GScript) (h : s.w ≤ 1048576) : (scriptLines s).length ≤ 1048578 := by
  have h : s.graph.w + s.inputs.length + s.picks.length ≤ 1048576 := h
  have hn : s.graph.nodes.length ≤ s.graph.w := by
    show s.graph.nodes.length ≤ s.graph.nodes.length + (s.graph.nodes.map GNode.w).sum
    omega
  unfold scriptLines
  split <;> simp <;> omega
theorem specScriptLines (x : GScript) (ox : x.ok) (hx : x.w ≤ 1048576) : Meets Tryd.prog 6 [.agg x.c] [.one (sStr (scriptLines x))] := by
  have hw : x.graph.w + x.inputs.length + x.picks.length ≤ 1048576 := hx
  have hg : x.graph.w ≤ 1048576 := by omega
  have hn := GGraph.nodes_le hg
  have dr := dec_size ox.2.2.2
  refine enterW tbl_ok false Tryd.func6 rfl (by decide) fun W => ?_
  conv => whnf
  repeat' (first | (refine ite_f (by first | with_reducible rfl | assumption) ?_; conv => whnf) | (refine ite_t (by first | with_reducible rfl | assumption) ?_; conv => whnf) | (refine ⟨fun h => ?_, fun h => ?_⟩ <;> conv => whnf) | (refine callR (specGraphLine x.graph ox.1 hg) rfl (go tbl_ok false ?_); conv => whnf) | (refine ⟨by first | omega | (simp only [ByteArray.size_append, bsz, List.size_toArray, List.length_cons, List.length_nil]; omega) | (show _ ∧ _; omega) | (simp only [Int.toNat_natCast]; first | omega | (show _ ∧ _; omega)) | decide | (simp only [beq_iff_eq, beq_eq_false_iff_ne, bne_iff_ne, bne_eq_false_iff_eq, Bool.not_eq_true', Bool.not_eq_false', Go.Sx.within_iff, Go.Sx.within_f, decide_eq_true_eq, decide_eq_false_iff_not, ne_eq, Int.not_lt, Int.not_le, ge_iff_le, gt_iff_lt, Int.toNat_zero, Int.toNat_one, Int.toNat_natCast] at * <;> first | omega | (show _ ∧ _; omega)), ?_⟩; conv => whnf) | fail)
  refine castW 1 (sStr [graphLine x.graph]) rfl (cast_one rfl) ?_
  refine loopW tbl_ok false [10] (fun k : Nat => [(4, .c (vi k))]) (fun k => [⟨0, [.c (sGNode x.graph.nodes), .c (vi x.graph.workers), .c (vi x.graph.cap), .c (sGRecord x.inputs), .c (sGPick x.picks), .c (vi x.rounds)]⟩]) (fun k => [⟨1, sStr ([graphLine x.graph] ++ (x.graph.nodes.take k).map nodeLine)⟩])
    (fun k => k ≤ x.graph.nodes.length) (fun k => x.graph.nodes.length - k) 0 (Nat.zero_le _) ⟨by first | rfl | simp [nth, ren2, ren1, ren0], trivial⟩ (by repeat' (first | exact trivial | exact rfl | refine ⟨?_, ?_⟩)) ⟨by first | rfl | exact (congrArg (fun l => slC _ _ l) (List.append_nil _)).symm | (show (_ : Cell) = _; simp) | simp, trivial⟩ trivial (by kernel_rfl) (fun k hk => ?_)
  conv => whnf
  refine ⟨fun h' => have h' := of_decide_eq_true h'; ?_, fun h' => have h' := of_decide_eq_false h'; ?_⟩ <;> conv => whnf
  · have h' : k < x.graph.nodes.length := by omega
    have hwk := GGraph.node_le hg h'
    (repeat (refine ⟨by first | omega | (simp only [ByteArray.size_append, bsz, List.size_toArray, List.length_cons, List.length_nil]; omega) | (show _ ∧ _; omega) | (simp only [Int.toNat_natCast]; first | omega | (show _ ∧ _; omega)) | decide, ?_⟩; conv => whnf))
    refine callR (specNodeLine (x.graph.nodes.getD k default) (ox.1.1.2 _ (getD_mem (d := default) h')) hwk) rfl (go tbl_ok false ?_)
    conv => whnf
    refine appW tbl_ok rfl rfl rfl rfl rfl rfl rfl rfl rfl rfl rfl (sStr ([graphLine x.graph] ++ (x.graph.nodes.take k).map nodeLine ++ [nodeLine (x.graph.nodes.getD k default)])) (slC_snoc rfl) (by intro h; cases h) (by simp; omega) (go tbl_ok false ?_)
    conv => whnf
    (repeat (refine ⟨by first | omega | (simp only [ByteArray.size_append, bsz, List.size_toArray, List.length_cons, List.length_nil]; omega) | (show _ ∧ _; omega) | (simp only [Int.toNat_natCast]; first | omega | (show _ ∧ _; omega)) | decide, ?_⟩; conv => whnf))
    refine loopE [(1, 3)] (k + 1) (by omega) (by omega) ⟨rfl, trivial⟩ ⟨congrArg sStr (by rw [map_take _ _ _ h', List.append_assoc]), trivial⟩ (by repeat' (first | exact trivial | exact rfl | refine ⟨?_, ?_⟩)) (by kernel_rfl) trivial (by kernel_rfl)
  have e1 : k = x.graph.nodes.length := by omega
  refine loopW tbl_ok false [] (fun j : Nat => [(5, .c (vi j))]) (fun j => [⟨0, [.c (sGNode x.graph.nodes), .c (vi x.graph.workers), .c (vi x.graph.cap), .c (sGRecord x.inputs), .c (sGPick x.picks), .c (vi x.rounds)]⟩]) (fun j => [⟨1, sStr ([graphLine x.graph] ++ (x.graph.nodes.take k).map nodeLine ++ (x.inputs.take j).map inputLine)⟩])
    (fun j => j ≤ x.inputs.length) (fun j => x.inputs.length - j) 0 (Nat.zero_le _) ⟨by first | rfl | simp [nth, ren2, ren1, ren0], trivial⟩ (by repeat' (first | exact trivial | exact rfl | refine ⟨?_, ?_⟩)) ⟨by first | rfl | exact (congrArg (fun l => slC _ _ l) (List.append_nil _)).symm | (show (_ : Cell) = _; simp) | simp, trivial⟩ trivial (by kernel_rfl) (fun j hj => ?_)
  conv => whnf
  refine ⟨fun h2 => have h2 := of_decide_eq_true h2; ?_, fun h2 => have h2 := of_decide_eq_false h2; ?_⟩ <;> conv => whnf
  · have h2 : j < x.inputs.length := by omega
    (repeat (refine ⟨by first | omega | (simp only [ByteArray.size_append, bsz, List.size_toArray, List.length_cons, List.length_nil]; omega) | (show _ ∧ _; omega) | (simp only [Int.toNat_natCast]; first | omega | (show _ ∧ _; omega)) | decide, ?_⟩; conv => whnf))
    refine callR (specInputLine (x.inputs.getD j default) (ox.2.1.2 _ (getD_mem (d := default) h2))) rfl (go tbl_ok false ?_)
    conv => whnf
    refine appW tbl_ok rfl rfl rfl rfl rfl rfl rfl rfl rfl rfl rfl (sStr ([graphLine x.graph] ++ (x.graph.nodes.take k).map nodeLine ++ (x.inputs.take j).map inputLine ++ [inputLine (x.inputs.getD j default)])) (slC_snoc rfl) (by intro h; cases h) (by simp; omega) (go tbl_ok false ?_)
    conv => whnf
    (repeat (refine ⟨by first | omega | (simp only [ByteArray.size_append, bsz, List.size_toArray, List.length_cons, List.length_nil]; omega) | (show _ ∧ _; omega) | (simp only [Int.toNat_natCast]; first | omega | (show _ ∧ _; omega)) | decide, ?_⟩; conv => whnf))
    refine loopE [(1, 3)] (j + 1) (by omega) (by omega) ⟨rfl, trivial⟩ ⟨congrArg sStr (by rw [map_take _ _ _ h2]; simp only [List.append_assoc]), trivial⟩ (by repeat' (first | exact trivial | exact rfl | refine ⟨?_, ?_⟩)) (by kernel_rfl) trivial (by kernel_rfl)
  have e2 : j = x.inputs.length := by omega
  refine loopW tbl_ok false [] (fun i : Nat => [(6, .c (vi i))]) (fun i => [⟨0, [.c (sGNode x.graph.nodes), .c (vi x.graph.workers), .c (vi x.graph.cap), .c (sGRecord x.inputs), .c (sGPick x.picks), .c (vi x.rounds)]⟩]) (fun i => [⟨1, sStr ([graphLine x.graph] ++ (x.graph.nodes.take k).map nodeLine ++ (x.inputs.take j).map inputLine ++ (x.picks.take i).map pickText)⟩])
    (fun i => i ≤ x.picks.length) (fun i => x.picks.length - i) 0 (Nat.zero_le _) ⟨by first | rfl | simp [nth, ren2, ren1, ren0], trivial⟩ (by repeat' (first | exact trivial | exact rfl | refine ⟨?_, ?_⟩)) ⟨by first | rfl | exact (congrArg (fun l => slC _ _ l) (List.append_nil _)).symm | (show (_ : Cell) = _; simp) | simp, trivial⟩ trivial (by kernel_rfl) (fun i hi => ?_)
  conv => whnf
  refine ⟨fun h3 => have h3 := of_decide_eq_true h3; ?_, fun h3 => have h3 := of_decide_eq_false h3; ?_⟩ <;> conv => whnf
  · have h3 : i < x.picks.length := by omega
    (repeat (refine ⟨by first | omega | (simp only [ByteArray.size_append, bsz, List.size_toArray, List.length_cons, List.length_nil]; omega) | (show _ ∧ _; omega) | (simp only [Int.toNat_natCast]; first | omega | (show _ ∧ _; omega)) | decide, ?_⟩; conv => whnf))
    refine callR (specPickText (x.picks.getD i default) (ox.2.2.1.2 _ (getD_mem (d := default) h3))) rfl (go tbl_ok false ?_)
    conv => whnf
    refine appW tbl_ok rfl rfl rfl rfl rfl rfl rfl rfl rfl rfl rfl (sStr ([graphLine x.graph] ++ (x.graph.nodes.take k).map nodeLine ++ (x.inputs.take j).map inputLine ++ (x.picks.take i).map pickText ++ [pickText (x.picks.getD i default)])) (slC_snoc rfl) (by intro h; cases h) (by simp; omega) (go tbl_ok false ?_)
    conv => whnf
    (repeat (refine ⟨by first | omega | (simp only [ByteArray.size_append, bsz, List.size_toArray, List.length_cons, List.length_nil]; omega) | (show _ ∧ _; omega) | (simp only [Int.toNat_natCast]; first | omega | (show _ ∧ _; omega)) | decide, ?_⟩; conv => whnf))
    refine loopE [(1, 3)] (i + 1) (by omega) (by omega) ⟨rfl, trivial⟩ ⟨congrArg sStr (by rw [map_take _ _ _ h3]; simp only [List.append_assoc]), trivial⟩ (by repeat' (first | exact trivial | exact rfl | refine ⟨?_, ?_⟩)) (by kernel_rfl) trivial (by kernel_rfl)
  have e3 : i = x.picks.length := by omega
  have hT : [graphLine x.graph] ++ (x.graph.nodes.take k).map nodeLine ++ (x.inputs.take j).map inputLine ++ (x.picks.take i).map pickText = [graphLine x.graph] ++ x.graph.nodes.map nodeLine ++ x.inputs.map inputLine ++ x.picks.map pickText := by
    rw [e1, e2, e3, List.take_length, List.take_length, List.take_length]
  refine ⟨fun hr => ?_, fun hr => ?_⟩ <;> conv => whnf
  · have hr : x.rounds > 0 := of_decide_eq_true hr
    refine callR (specDecimal x.rounds ox.2.2.2) rfl (go tbl_ok false ?_)
    conv => whnf
    (repeat (refine ⟨by first | omega | (simp only [ByteArray.size_append, bsz, List.size_toArray, List.length_cons, List.length_nil]; omega) | (show _ ∧ _; omega) | (simp only [Int.toNat_natCast]; first | omega | (show _ ∧ _; omega)) | decide, ?_⟩; conv => whnf))
    refine appW tbl_ok rfl rfl rfl rfl rfl rfl rfl rfl rfl rfl rfl (sStr ([graphLine x.graph] ++ (x.graph.nodes.take k).map nodeLine ++ (x.inputs.take j).map inputLine ++ (x.picks.take i).map pickText ++ [(⟨#[102, 97, 105, 114, 32]⟩ : ByteArray) ++ dec x.rounds])) (slC_snoc rfl) (by intro h; cases h) (by simp; omega) (go tbl_ok false ?_)
    conv => whnf
    refine retW tbl_ok rfl rfl ⟨?_, trivial⟩
    exact congrArg sStr (by rw [hT, scriptLines, if_pos hr])
  · have hr : ¬ x.rounds > 0 := of_decide_eq_false hr
    refine retW tbl_ok rfl rfl ⟨?_, trivial⟩
    exact congrArg sStr (by rw [hT, scriptLines, if_neg hr, List.append_nil])

theorem implScriptLines (x : GScript) (ox : x.ok) (hx : x.w ≤ 1048576) : MeetsT Tryd.prog Tab 8 [.agg x.c] [.one (sStr (scriptLines x))] := by
  have hw : x.graph.w + x.inputs.length + x.picks.length ≤ 1048576 := hx
  have hg : x.graph.w ≤ 1048576 := by omega
  have hn := GGraph.nodes_le hg
  have dr := dec_size ox.2.2.2
  refine enterT tbl_ok false Tryd.func8 rfl (by decide) fun W hW => ?_
  conv => whnf
  repeat' (first | (refine ite_f (by first | with_reducible rfl | assumption) ?_; conv => whnf) | (refine ite_t (by first | with_reducible rfl | assumption) ?_; conv => whnf) | (refine ⟨fun h => ?_, fun h => ?_⟩ <;> conv => whnf) | (refine callRT (implGraphLine x.graph ox.1 hg) tabStays hW rfl (go tbl_ok false ?_); conv => whnf) | (refine ⟨by first | omega | (simp only [ByteArray.size_append, bsz, List.size_toArray, List.length_cons, List.length_nil]; omega) | (show _ ∧ _; omega) | (simp only [Int.toNat_natCast]; first | omega | (show _ ∧ _; omega)) | decide | (simp only [beq_iff_eq, beq_eq_false_iff_ne, bne_iff_ne, bne_eq_false_iff_eq, Bool.not_eq_true', Bool.not_eq_false', Go.Sx.within_iff, Go.Sx.within_f, decide_eq_true_eq, decide_eq_false_iff_not, ne_eq, Int.not_lt, Int.not_le, ge_iff_le, gt_iff_lt, Int.toNat_zero, Int.toNat_one, Int.toNat_natCast] at * <;> first | omega | (show _ ∧ _; omega)), ?_⟩; conv => whnf) | fail)
  refine castW 1 (sStr [graphLine x.graph]) rfl (cast_one rfl) ?_
  refine loopW tbl_ok false [13] (fun k : Nat => [(18, .c (vi k))]) (fun k => [⟨0, [.c (sGNode x.graph.nodes), .c (vi x.graph.workers), .c (vi x.graph.cap), .c (sGRecord x.inputs), .c (sGPick x.picks), .c (vi x.rounds)]⟩]) (fun k => [⟨1, sStr ([graphLine x.graph] ++ (x.graph.nodes.take k).map nodeLine)⟩])
    (fun k => k ≤ x.graph.nodes.length) (fun k => x.graph.nodes.length - k) 0 (Nat.zero_le _) ⟨by first | rfl | simp [nth, ren2, ren1, ren0], trivial⟩ (by repeat' (first | exact trivial | exact rfl | refine ⟨?_, ?_⟩)) ⟨by first | rfl | exact (congrArg (fun l => slC _ _ l) (List.append_nil _)).symm | (show (_ : Cell) = _; simp) | simp, trivial⟩ trivial (by kernel_rfl) (fun k hk => ?_)
  conv => whnf
  refine ⟨fun h' => have h' := of_decide_eq_true h'; ?_, fun h' => have h' := of_decide_eq_false h'; ?_⟩ <;> conv => whnf
  · have h' : k < x.graph.nodes.length := by omega
    have hwk := GGraph.node_le hg h'
    (repeat (refine ⟨by first | omega | (simp only [ByteArray.size_append, bsz, List.size_toArray, List.length_cons, List.length_nil]; omega) | (show _ ∧ _; omega) | (simp only [Int.toNat_natCast]; first | omega | (show _ ∧ _; omega)) | decide, ?_⟩; conv => whnf))
    refine callRT (implNodeLine (x.graph.nodes.getD k default) (ox.1.1.2 _ (getD_mem (d := default) h')) hwk) tabStays hW rfl (go tbl_ok false ?_)
    conv => whnf
    refine appW tbl_ok rfl rfl rfl rfl rfl rfl rfl rfl rfl rfl rfl (sStr ([graphLine x.graph] ++ (x.graph.nodes.take k).map nodeLine ++ [nodeLine (x.graph.nodes.getD k default)])) (slC_snoc rfl) (by intro h; cases h) (by simp; omega) (go tbl_ok false ?_)
    conv => whnf
    (repeat (refine ⟨by first | omega | (simp only [ByteArray.size_append, bsz, List.size_toArray, List.length_cons, List.length_nil]; omega) | (show _ ∧ _; omega) | (simp only [Int.toNat_natCast]; first | omega | (show _ ∧ _; omega)) | decide, ?_⟩; conv => whnf))
    refine loopE [(1, 4)] (k + 1) (by omega) (by omega) ⟨rfl, trivial⟩ ⟨congrArg sStr (by rw [map_take _ _ _ h', List.append_assoc]), trivial⟩ (by repeat' (first | exact trivial | exact rfl | refine ⟨?_, ?_⟩)) (by kernel_rfl) trivial (by kernel_rfl)
  have e1 : k = x.graph.nodes.length := by omega
  refine loopW tbl_ok false [] (fun j : Nat => [(31, .c (vi j))]) (fun j => [⟨0, [.c (sGNode x.graph.nodes), .c (vi x.graph.workers), .c (vi x.graph.cap), .c (sGRecord x.inputs), .c (sGPick x.picks), .c (vi x.rounds)]⟩]) (fun j => [⟨1, sStr ([graphLine x.graph] ++ (x.graph.nodes.take k).map nodeLine ++ (x.inputs.take j).map inputLine)⟩])
    (fun j => j ≤ x.inputs.length) (fun j => x.inputs.length - j) 0 (Nat.zero_le _) ⟨by first | rfl | simp [nth, ren2, ren1, ren0], trivial⟩ (by repeat' (first | exact trivial | exact rfl | refine ⟨?_, ?_⟩)) ⟨by first | rfl | exact (congrArg (fun l => slC _ _ l) (List.append_nil _)).symm | (show (_ : Cell) = _; simp) | simp, trivial⟩ trivial (by kernel_rfl) (fun j hj => ?_)
  conv => whnf
  refine ⟨fun h2 => have h2 := of_decide_eq_true h2; ?_, fun h2 => have h2 := of_decide_eq_false h2; ?_⟩ <;> conv => whnf
  · have h2 : j < x.inputs.length := by omega
    (repeat (refine ⟨by first | omega | (simp only [ByteArray.size_append, bsz, List.size_toArray, List.length_cons, List.length_nil]; omega) | (show _ ∧ _; omega) | (simp only [Int.toNat_natCast]; first | omega | (show _ ∧ _; omega)) | decide, ?_⟩; conv => whnf))
    refine callRT (implInputLine (x.inputs.getD j default) (ox.2.1.2 _ (getD_mem (d := default) h2))) tabStays hW rfl (go tbl_ok false ?_)
    conv => whnf
    refine appW tbl_ok rfl rfl rfl rfl rfl rfl rfl rfl rfl rfl rfl (sStr ([graphLine x.graph] ++ (x.graph.nodes.take k).map nodeLine ++ (x.inputs.take j).map inputLine ++ [inputLine (x.inputs.getD j default)])) (slC_snoc rfl) (by intro h; cases h) (by simp; omega) (go tbl_ok false ?_)
    conv => whnf
    (repeat (refine ⟨by first | omega | (simp only [ByteArray.size_append, bsz, List.size_toArray, List.length_cons, List.length_nil]; omega) | (show _ ∧ _; omega) | (simp only [Int.toNat_natCast]; first | omega | (show _ ∧ _; omega)) | decide, ?_⟩; conv => whnf))
    refine loopE [(1, 4)] (j + 1) (by omega) (by omega) ⟨rfl, trivial⟩ ⟨congrArg sStr (by rw [map_take _ _ _ h2]; simp only [List.append_assoc]), trivial⟩ (by repeat' (first | exact trivial | exact rfl | refine ⟨?_, ?_⟩)) (by kernel_rfl) trivial (by kernel_rfl)
  have e2 : j = x.inputs.length := by omega
  refine loopW tbl_ok false [] (fun i : Nat => [(44, .c (vi i))]) (fun i => [⟨0, [.c (sGNode x.graph.nodes), .c (vi x.graph.workers), .c (vi x.graph.cap), .c (sGRecord x.inputs), .c (sGPick x.picks), .c (vi x.rounds)]⟩]) (fun i => [⟨1, sStr ([graphLine x.graph] ++ (x.graph.nodes.take k).map nodeLine ++ (x.inputs.take j).map inputLine ++ (x.picks.take i).map pickText)⟩])
    (fun i => i ≤ x.picks.length) (fun i => x.picks.length - i) 0 (Nat.zero_le _) ⟨by first | rfl | simp [nth, ren2, ren1, ren0], trivial⟩ (by repeat' (first | exact trivial | exact rfl | refine ⟨?_, ?_⟩)) ⟨by first | rfl | exact (congrArg (fun l => slC _ _ l) (List.append_nil _)).symm | (show (_ : Cell) = _; simp) | simp, trivial⟩ trivial (by kernel_rfl) (fun i hi => ?_)
  conv => whnf
  refine ⟨fun h3 => have h3 := of_decide_eq_true h3; ?_, fun h3 => have h3 := of_decide_eq_false h3; ?_⟩ <;> conv => whnf
  · have h3 : i < x.picks.length := by omega
    (repeat (refine ⟨by first | omega | (simp only [ByteArray.size_append, bsz, List.size_toArray, List.length_cons, List.length_nil]; omega) | (show _ ∧ _; omega) | (simp only [Int.toNat_natCast]; first | omega | (show _ ∧ _; omega)) | decide, ?_⟩; conv => whnf))
    refine callRT (implPickText (x.picks.getD i default) (ox.2.2.1.2 _ (getD_mem (d := default) h3))) tabStays hW rfl (go tbl_ok false ?_)
    conv => whnf
    refine appW tbl_ok rfl rfl rfl rfl rfl rfl rfl rfl rfl rfl rfl (sStr ([graphLine x.graph] ++ (x.graph.nodes.take k).map nodeLine ++ (x.inputs.take j).map inputLine ++ (x.picks.take i).map pickText ++ [pickText (x.picks.getD i default)])) (slC_snoc rfl) (by intro h; cases h) (by simp; omega) (go tbl_ok false ?_)
    conv => whnf
    (repeat (refine ⟨by first | omega | (simp only [ByteArray.size_append, bsz, List.size_toArray, List.length_cons, List.length_nil]; omega) | (show _ ∧ _; omega) | (simp only [Int.toNat_natCast]; first | omega | (show _ ∧ _; omega)) | decide, ?_⟩; conv => whnf))
    refine loopE [(1, 4)] (i + 1) (by omega) (by omega) ⟨rfl, trivial⟩ ⟨congrArg sStr (by rw [map_take _ _ _ h3]; simp only [List.append_assoc]), trivial⟩ (by repeat' (first | exact trivial | exact rfl | refine ⟨?_, ?_⟩)) (by kernel_rfl) trivial (by kernel_rfl)
  have e3 : i = x.picks.length := by omega
  have hT : [graphLine x.graph] ++ (x.graph.nodes.take k).map nodeLine ++ (x.inputs.take j).map inputLine ++ (x.picks.take i).map pickText = [graphLine x.graph] ++ x.graph.nodes.map nodeLine ++ x.inputs.map inputLine ++ x.picks.map pickText := by
    rw [e1, e2, e3, List.take_length, List.take_length, List.take_length]
  refine ⟨fun hr => ?_, fun hr => ?_⟩ <;> conv => whnf
  · have hr : x.rounds > 0 := of_decide_eq_true hr
    refine callRT (implDecimal x.rounds ox.2.2.2) tabStays hW rfl (go tbl_ok false ?_)
    conv => whnf
    (repeat (refine ⟨by first | omega | (simp only [ByteArray.size_append, bsz, List.size_toArray, List.length_cons, List.length_nil]; omega) | (show _ ∧ _; omega) | (simp only [Int.toNat_natCast]; first | omega | (show _ ∧ _; omega)) | decide, ?_⟩; conv => whnf))
    refine appW tbl_ok rfl rfl rfl rfl rfl rfl rfl rfl rfl rfl rfl (sStr ([graphLine x.graph] ++ (x.graph.nodes.take k).map nodeLine ++ (x.inputs.take j).map inputLine ++ (x.picks.take i).map pickText ++ [(⟨#[102, 97, 105, 114, 32]⟩ : ByteArray) ++ dec x.rounds])) (slC_snoc rfl) (by intro h; cases h) (by simp; omega) (go tbl_ok false ?_)
    conv => whnf
    refine retW tbl_ok rfl rfl ⟨?_, trivial⟩
    exact congrArg sStr (by rw [hT, scriptLines, if_pos hr])
  · have hr : ¬ x.rounds > 0 := of_decide_eq_false hr
    refine retW tbl_ok rfl rfl ⟨?_, trivial⟩
    exact congrArg sStr (by rw [hT, scriptLines, if_neg hr, List.append_nil])

end Go.Proofs.YthnemokfcnejkaaDoor
