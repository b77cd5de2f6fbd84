/- Texts for the law FnExactReadScript: WAdd. No conditions. -/
import Derived.Test.YtcpjpkcahnldfaaGreatDoorWCur
import Derived.Test.YtcpjpkcahnldfaaGreatDoorWRnd2
import Derived.Test.YtcpjpkcahnldfaaGreatDoorWRpk2
import Derived.Test.YtcpjpkcahnldfaaGreatDoorWSpl

set_option maxRecDepth 100000
namespace Go.Proofs.YtcpjpkcahnldfaaGreatDoor
open Go.Sx
def AddR (s : GScript) (l : ByteArray) (r : GScript × Bool) : Prop := r = if addB s l = true then (addS s l, true) else (s, false)
theorem addR_node {s : GScript} {l : ByteArray} (c : readNodeB l = true) (d : s.graph.nodes.length < 8) : AddR s l (⟨⟨s.graph.nodes ++ [readNodeV l], s.graph.workers, s.graph.cap⟩, s.inputs, s.picks, s.rounds⟩, true) := by
  have e : addB s l = true := by rw [addB, if_pos c]; exact decide_eq_true d
  rw [AddR, if_pos e, addS, if_pos c]
theorem addR_in {s : GScript} {l : ByteArray} (c : readInB l = true) (cn : readNodeB l = false) (d : s.inputs.length < 20) : AddR s l (⟨s.graph, s.inputs ++ [readInV l], s.picks, s.rounds⟩, true) := by
  have e : addB s l = true := by rw [addB, if_neg (by rw [cn]; decide), if_pos c]; exact decide_eq_true d
  rw [AddR, if_pos e, addS, if_neg (by rw [cn]; decide), if_pos c]
theorem addR_pick {s : GScript} {l : ByteArray} (c : readPickB l = true) (cn : readNodeB l = false) (ci : readInB l = false) (d : s.picks.length < 200) : AddR s l (⟨s.graph, s.inputs, s.picks ++ [readPickV l], s.rounds⟩, true) := by
  have e : addB s l = true := by rw [addB, if_neg (by rw [cn]; decide), if_neg (by rw [ci]; decide), if_pos c]; exact decide_eq_true d
  rw [AddR, if_pos e, addS, if_neg (by rw [cn]; decide), if_neg (by rw [ci]; decide), if_pos c]
def Falls (s : GScript) (l : ByteArray) : Prop := addB s l = decide (FairP l) ∧ (FairP l → addS s l = ⟨s.graph, s.inputs, s.picks, rdN ((partsL l).getD 1 default)⟩)
theorem falls_node {s : GScript} {l : ByteArray} (c : readNodeB l = true) (d : ¬ s.graph.nodes.length < 8) : Falls s l := by
  have cn := (node_not c).2.2
  exact ⟨by rw [addB, if_pos c, decide_eq_false cn, decide_eq_false d], fun h => (cn h).elim⟩
theorem falls_in {s : GScript} {l : ByteArray} (c : readInB l = true) (cn : readNodeB l = false) (d : ¬ s.inputs.length < 20) : Falls s l := by
  have ci := (in_not c).2
  exact ⟨by rw [addB, if_neg (by rw [cn]; decide), if_pos c, decide_eq_false ci, decide_eq_false d], fun h => (ci h).elim⟩
theorem falls_pick {s : GScript} {l : ByteArray} (c : readPickB l = true) (cn : readNodeB l = false) (ci : readInB l = false) (d : ¬ s.picks.length < 200) : Falls s l := by
  have cp := pick_not c
  exact ⟨by rw [addB, if_neg (by rw [cn]; decide), if_neg (by rw [ci]; decide), if_pos c, decide_eq_false cp, decide_eq_false d], fun h => (cp h).elim⟩
theorem falls_none {s : GScript} {l : ByteArray} (cn : readNodeB l = false) (ci : readInB l = false) (cp : readPickB l = false) : Falls s l :=
  ⟨by rw [addB, if_neg (by rw [cn]; decide), if_neg (by rw [ci]; decide), if_neg (by rw [cp]; decide)], fun _ => by rw [addS, if_neg (by rw [cn]; decide), if_neg (by rw [ci]; decide), if_neg (by rw [cp]; decide)]⟩
theorem falls_no {s : GScript} {l : ByteArray} (h : Falls s l) (hf : ¬ FairP l) : AddR s l (s, false) := by
  rw [AddR, h.1, decide_eq_false hf, if_neg (by decide)]
theorem falls_yes {s : GScript} {l : ByteArray} (h : Falls s l) (hf : FairP l) : AddR s l (⟨s.graph, s.inputs, s.picks, rdN ((partsL l).getD 1 default)⟩, true) := by
  rw [AddR, h.1, decide_eq_true hf, if_pos rfl, h.2 hf]
set_option maxHeartbeats 2000000 in
theorem specAdd (s : GScript) (l : ByteArray) (hs : ScOk s) (hl : l.size ≤ 1048576) (hpt : partsB l = true) : MeetsP Tryz.prog HT 34 [] s.c [.one (vs l), .one (sStr (partsL l))] (AddR s l) (fun r => r.1.c) (fun r => [.one (vb r.2)]) := by
  obtain ⟨n1, n2, n3, n4⟩ := hs
  refine enterP tbl_ok false Tryz.func34 rfl (by decide) fun B b hH hp => ?_
  conv => whnf
  conv => whnf
  refine callW (specReadNode l hl) rfl (go tbl_ok false ?_)
  conv => whnf
  refine callW (specReadInput l hl) rfl (go tbl_ok false ?_)
  conv => whnf
  refine callW (specReadPick l hl) rfl (go tbl_ok false ?_)
  conv => whnf
  refine ⟨fun c => ?_, fun c => ?_⟩ <;> conv => whnf
  · obtain ⟨c1, c2, _⟩ := node_not c
    repeat (first | (refine ite_f (by first | with_reducible rfl | assumption | (simp; done) | fail) ?_; conv => whnf) | (refine ite_t (by first | with_reducible rfl | assumption | (simp; done) | fail) ?_; conv => whnf) | (refine ⟨by first | omega | (show _ ∧ _; omega) | ((repeat (first | rw [ByteArray.size_append] | rw [bsz] | rw [List.size_toArray] | rw [List.length_cons] | rw [List.length_nil])) <;> omega) | ((repeat rw [Int.toNat_natCast]) <;> first | omega | (show _ ∧ _; omega)) | (simp only; omega) | (simp only; first | omega | (show _ ∧ _; omega)) | decide, ?_⟩; conv => whnf))
    refine ⟨fun d => have d := of_decide_eq_true d; ?_, fun d => have d := of_decide_eq_false d; ?_⟩ <;> conv => whnf
    · have d : s.graph.nodes.length < 8 := by omega
      repeat (first | (refine ite_f (by first | with_reducible rfl | assumption | (simp; done) | fail) ?_; conv => whnf) | (refine ite_t (by first | with_reducible rfl | assumption | (simp; done) | fail) ?_; conv => whnf) | (refine ⟨by first | omega | (show _ ∧ _; omega) | ((repeat (first | rw [ByteArray.size_append] | rw [bsz] | rw [List.size_toArray] | rw [List.length_cons] | rw [List.length_nil])) <;> omega) | ((repeat rw [Int.toNat_natCast]) <;> first | omega | (show _ ∧ _; omega)) | (simp only [ByteArray.size_append, bsz, List.size_toArray, List.length_cons, List.length_nil]; omega) | (simp only [Int.toNat_natCast]; first | omega | (show _ ∧ _; omega)) | decide, ?_⟩; conv => whnf))
      refine drawA rfl ?_
      refine preA tbl_ok false 0 rfl rfl rfl (by kernel_rfl) rfl (andL_mem (by repeat' (first | exact trivial | refine ⟨?_, ?_⟩ | (show _ ∧ _; omega) | omega))) ?_
      refine preA tbl_ok false 1 rfl rfl rfl (by kernel_rfl) rfl (andL_mem (by repeat' (first | exact trivial | refine ⟨?_, ?_⟩ | (show _ ∧ _; omega) | omega))) ?_
      refine preA tbl_ok false 2 rfl rfl rfl (by kernel_rfl) rfl (andL_mem (by repeat' (first | exact trivial | refine ⟨?_, ?_⟩ | (show _ ∧ _; omega) | omega))) ?_
      refine preA tbl_ok false 3 rfl rfl rfl (by kernel_rfl) rfl (andL_mem (by repeat' (first | exact trivial | refine ⟨?_, ?_⟩ | (show _ ∧ _; omega) | omega))) ?_
      refine preA tbl_ok false 4 rfl rfl rfl (by kernel_rfl) rfl (andL_mem (by repeat' (first | exact trivial | refine ⟨?_, ?_⟩ | (show _ ∧ _; omega) | omega))) ?_
      refine splitA [5, 6] (by kernel_rfl) ⟨?_, ?_, trivial⟩
      focus
        refine go tbl_ok false ?_
        conv => whnf
        refine loopA ?_
        refine splitA [6] (by kernel_rfl) ⟨?_, trivial⟩
        refine go tbl_ok false ?_
        conv => whnf
        refine loopA ?_
        refine splitA [7] (by kernel_rfl) ⟨?_, trivial⟩
        refine go tbl_ok false ?_
        conv => whnf
        refine buildW tbl_ok rfl rfl rfl rfl rfl rfl rfl rfl rfl (go tbl_ok false ?_)
        conv => whnf
        refine loopA ?_
        refine splitA [8] (by kernel_rfl) ⟨?_, trivial⟩
        refine go tbl_ok false ?_
        conv => whnf
        refine appW tbl_ok rfl rfl rfl rfl rfl rfl rfl rfl rfl rfl rfl (sGNode (s.graph.nodes ++ [readNodeV l])) (slC_snoc rfl) (by intro h; cases h) (by omega) (go tbl_ok false ?_)
        conv => whnf
        refine loopA ?_
        refine preA tbl_ok false 9 rfl rfl rfl (by kernel_rfl) rfl (andL_mem (by repeat' (first | exact trivial | refine ⟨?_, ?_⟩ | (show _ ∧ _; omega) | omega))) ?_
        refine preA tbl_ok false 10 rfl rfl rfl (by kernel_rfl) rfl (andL_mem (by repeat' (first | exact trivial | refine ⟨?_, ?_⟩ | (show _ ∧ _; omega) | omega))) ?_
        refine preA tbl_ok false 11 rfl rfl rfl (by kernel_rfl) rfl (andL_mem (by repeat' (first | exact trivial | refine ⟨?_, ?_⟩ | (show _ ∧ _; omega) | omega))) ?_
        refine splitA [12] (by kernel_rfl) ⟨?_, trivial⟩
        refine go tbl_ok false ?_
        conv => whnf
        refine loopA ?_
        refine doneA (by kernel_rfl) (go tbl_ok false ?_)
        conv => whnf
      rotate_left 1
      focus
        refine go tbl_ok false ?_
        conv => whnf
        refine loopA ?_
        refine splitA [5, 7] (by kernel_rfl) ⟨?_, ?_, trivial⟩
        focus
          refine go tbl_ok false ?_
          conv => whnf
          refine loopA ?_
          refine splitA [7] (by kernel_rfl) ⟨?_, trivial⟩
          refine go tbl_ok false ?_
          conv => whnf
          refine buildW tbl_ok rfl rfl rfl rfl rfl rfl rfl rfl rfl (go tbl_ok false ?_)
          conv => whnf
          refine loopA ?_
          refine splitA [8] (by kernel_rfl) ⟨?_, trivial⟩
          refine go tbl_ok false ?_
          conv => whnf
          refine appW tbl_ok rfl rfl rfl rfl rfl rfl rfl rfl rfl rfl rfl (sGNode (s.graph.nodes ++ [readNodeV l])) (slC_snoc rfl) (by intro h; cases h) (by omega) (go tbl_ok false ?_)
          conv => whnf
          refine loopA ?_
          refine preA tbl_ok false 9 rfl rfl rfl (by kernel_rfl) rfl (andL_mem (by repeat' (first | exact trivial | refine ⟨?_, ?_⟩ | (show _ ∧ _; omega) | omega))) ?_
          refine preA tbl_ok false 10 rfl rfl rfl (by kernel_rfl) rfl (andL_mem (by repeat' (first | exact trivial | refine ⟨?_, ?_⟩ | (show _ ∧ _; omega) | omega))) ?_
          refine preA tbl_ok false 11 rfl rfl rfl (by kernel_rfl) rfl (andL_mem (by repeat' (first | exact trivial | refine ⟨?_, ?_⟩ | (show _ ∧ _; omega) | omega))) ?_
          refine splitA [12] (by kernel_rfl) ⟨?_, trivial⟩
          refine go tbl_ok false ?_
          conv => whnf
          refine loopA ?_
          refine doneA (by kernel_rfl) (go tbl_ok false ?_)
          conv => whnf
        rotate_left 1
        focus
          refine go tbl_ok false ?_
          conv => whnf
          refine buildW tbl_ok rfl rfl rfl rfl rfl rfl rfl rfl rfl (go tbl_ok false ?_)
          conv => whnf
          refine loopA ?_
          refine splitA [5] (by kernel_rfl) ⟨?_, trivial⟩
          refine go tbl_ok false ?_
          conv => whnf
          refine loopA ?_
          refine splitA [8] (by kernel_rfl) ⟨?_, trivial⟩
          refine go tbl_ok false ?_
          conv => whnf
          refine appW tbl_ok rfl rfl rfl rfl rfl rfl rfl rfl rfl rfl rfl (sGNode (s.graph.nodes ++ [readNodeV l])) (slC_snoc rfl) (by intro h; cases h) (by omega) (go tbl_ok false ?_)
          conv => whnf
          refine loopA ?_
          refine preA tbl_ok false 9 rfl rfl rfl (by kernel_rfl) rfl (andL_mem (by repeat' (first | exact trivial | refine ⟨?_, ?_⟩ | (show _ ∧ _; omega) | omega))) ?_
          refine preA tbl_ok false 10 rfl rfl rfl (by kernel_rfl) rfl (andL_mem (by repeat' (first | exact trivial | refine ⟨?_, ?_⟩ | (show _ ∧ _; omega) | omega))) ?_
          refine preA tbl_ok false 11 rfl rfl rfl (by kernel_rfl) rfl (andL_mem (by repeat' (first | exact trivial | refine ⟨?_, ?_⟩ | (show _ ∧ _; omega) | omega))) ?_
          refine splitA [12] (by kernel_rfl) ⟨?_, trivial⟩
          refine go tbl_ok false ?_
          conv => whnf
          refine loopA ?_
          refine doneA (by kernel_rfl) (go tbl_ok false ?_)
          conv => whnf
      all_goals exact retP tbl_ok (⟨⟨s.graph.nodes ++ [readNodeV l], s.graph.workers, s.graph.cap⟩, s.inputs, s.picks, s.rounds⟩, true) (addR_node c d) rfl rfl rfl rfl (by repeat' (first | exact trivial | exact outC_val _ _ | exact rfl | exact .inr ⟨rfl, rfl, _, _, rfl⟩ | refine ⟨?_, ?_⟩))
    · have hf := falls_node c (show ¬ s.graph.nodes.length < 8 by omega)
      repeat (first | (refine ite_f (by first | with_reducible rfl | assumption | (simp; done) | fail) ?_; conv => whnf) | (refine ite_t (by first | with_reducible rfl | assumption | (simp; done) | fail) ?_; conv => whnf) | (refine ⟨by first | omega | (show _ ∧ _; omega) | ((repeat (first | rw [ByteArray.size_append] | rw [bsz] | rw [List.size_toArray] | rw [List.length_cons] | rw [List.length_nil])) <;> omega) | ((repeat rw [Int.toNat_natCast]) <;> first | omega | (show _ ∧ _; omega)) | (simp only; omega) | (simp only; first | omega | (show _ ∧ _; omega)) | decide, ?_⟩; conv => whnf))
      have hp0 := partsL_size l
      have hp1 := partsL_len l
      refine ⟨fun g => have g := eq_of_beq g; ?_, fun g => have g := beq_eq_false_iff_ne.1 g; ?_⟩ <;> conv => whnf
      · have g : (partsL l).length = 2 := by omega
        have hx1 := hp0 _ (getD_mem (d := default) (show 1 < (partsL l).length by omega))
        repeat (first | (refine ite_f (by first | with_reducible rfl | assumption | (simp; done) | fail) ?_; conv => whnf) | (refine ite_t (by first | with_reducible rfl | assumption | (simp; done) | fail) ?_; conv => whnf) | (refine ⟨by first | omega | (show _ ∧ _; omega) | ((repeat (first | rw [ByteArray.size_append] | rw [bsz] | rw [List.size_toArray] | rw [List.length_cons] | rw [List.length_nil])) <;> omega) | ((repeat rw [Int.toNat_natCast]) <;> first | omega | (show _ ∧ _; omega)) | (simp only; omega) | (simp only; first | omega | (show _ ∧ _; omega)) | decide, ?_⟩; conv => whnf))
        (repeat (refine ⟨by first | omega | (show _ ∧ _; omega) | ((repeat (first | rw [ByteArray.size_append] | rw [bsz] | rw [List.size_toArray] | rw [List.length_cons] | rw [List.length_nil])) <;> omega) | ((repeat rw [Int.toNat_natCast]) <;> first | omega | (show _ ∧ _; omega)) | (simp only; omega) | (simp only; first | omega | (show _ ∧ _; omega)) | decide, ?_⟩; conv => whnf))
        refine ⟨fun g2 => ?_, fun g2 => ?_⟩ <;> conv => whnf
        · have g2 : word0 l = (⟨#[102, 97, 105, 114]⟩ : ByteArray) := ba_eq g2
          repeat (first | (refine ite_f (by first | with_reducible rfl | assumption | (simp; done) | fail) ?_; conv => whnf) | (refine ite_t (by first | with_reducible rfl | assumption | (simp; done) | fail) ?_; conv => whnf) | (refine ⟨by first | omega | (show _ ∧ _; omega) | ((repeat (first | rw [ByteArray.size_append] | rw [bsz] | rw [List.size_toArray] | rw [List.length_cons] | rw [List.length_nil])) <;> omega) | ((repeat rw [Int.toNat_natCast]) <;> first | omega | (show _ ∧ _; omega)) | (simp only [ByteArray.size_append, bsz, List.size_toArray, List.length_cons, List.length_nil]; omega) | (simp only [Int.toNat_natCast]; first | omega | (show _ ∧ _; omega)) | decide, ?_⟩; conv => whnf))
          (repeat (refine ⟨by first | omega | (show _ ∧ _; omega) | ((repeat (first | rw [ByteArray.size_append] | rw [bsz] | rw [List.size_toArray] | rw [List.length_cons] | rw [List.length_nil])) <;> omega) | ((repeat rw [Int.toNat_natCast]) <;> first | omega | (show _ ∧ _; omega)) | (simp only [ByteArray.size_append, bsz, List.size_toArray, List.length_cons, List.length_nil]; omega) | (simp only [Int.toNat_natCast]; first | omega | (show _ ∧ _; omega)) | decide, ?_⟩; conv => whnf))
          refine callR (specReadDecimal ((partsL l).getD 1 default) (by omega)) rfl (go tbl_ok false ?_)
          conv => whnf
          refine ⟨fun g3 => ?_, fun g3 => ?_⟩ <;> conv => whnf
          · have g3 : rdB ((partsL l).getD 1 default) = false := by simpa using g3
            repeat (first | (refine ite_f (by first | with_reducible rfl | assumption | (simp; done) | fail) ?_; conv => whnf) | (refine ite_t (by first | with_reducible rfl | assumption | (simp; done) | fail) ?_; conv => whnf) | (refine ⟨by first | omega | (show _ ∧ _; omega) | ((repeat (first | rw [ByteArray.size_append] | rw [bsz] | rw [List.size_toArray] | rw [List.length_cons] | rw [List.length_nil])) <;> omega) | ((repeat rw [Int.toNat_natCast]) <;> first | omega | (show _ ∧ _; omega)) | (simp only [ByteArray.size_append, bsz, List.size_toArray, List.length_cons, List.length_nil]; omega) | (simp only [Int.toNat_natCast]; first | omega | (show _ ∧ _; omega)) | decide, ?_⟩; conv => whnf))
            exact retP tbl_ok (s, false) (falls_no hf (fun h => by have := h.2.2.2.1; rw [g3] at this; cases this)) rfl rfl rfl rfl (by repeat' (first | exact trivial | exact outC_val _ _ | exact rfl | exact .inr ⟨rfl, rfl, _, _, rfl⟩ | refine ⟨?_, ?_⟩))
          · have g3 : rdB ((partsL l).getD 1 default) = true := by simpa using g3
            repeat (first | (refine ite_f (by first | with_reducible rfl | assumption | (simp; done) | fail) ?_; conv => whnf) | (refine ite_t (by first | with_reducible rfl | assumption | (simp; done) | fail) ?_; conv => whnf) | (refine ⟨by first | omega | (show _ ∧ _; omega) | ((repeat (first | rw [ByteArray.size_append] | rw [bsz] | rw [List.size_toArray] | rw [List.length_cons] | rw [List.length_nil])) <;> omega) | ((repeat rw [Int.toNat_natCast]) <;> first | omega | (show _ ∧ _; omega)) | (simp only; omega) | (simp only; first | omega | (show _ ∧ _; omega)) | decide, ?_⟩; conv => whnf))
            refine ⟨fun g4 => have g4 := of_decide_eq_true g4; ?_, fun g4 => have g4 := of_decide_eq_false g4; ?_⟩ <;> conv => whnf
            · repeat (first | (refine ite_f (by first | with_reducible rfl | assumption | (simp; done) | fail) ?_; conv => whnf) | (refine ite_t (by first | with_reducible rfl | assumption | (simp; done) | fail) ?_; conv => whnf) | (refine ⟨by first | omega | (show _ ∧ _; omega) | ((repeat (first | rw [ByteArray.size_append] | rw [bsz] | rw [List.size_toArray] | rw [List.length_cons] | rw [List.length_nil])) <;> omega) | ((repeat rw [Int.toNat_natCast]) <;> first | omega | (show _ ∧ _; omega)) | (simp only [ByteArray.size_append, bsz, List.size_toArray, List.length_cons, List.length_nil]; omega) | (simp only [Int.toNat_natCast]; first | omega | (show _ ∧ _; omega)) | decide, ?_⟩; conv => whnf))
              exact retP tbl_ok (s, false) (falls_no hf (fun h => by have := h.2.2.2.2; omega)) rfl rfl rfl rfl (by repeat' (first | exact trivial | exact outC_val _ _ | exact rfl | exact .inr ⟨rfl, rfl, _, _, rfl⟩ | refine ⟨?_, ?_⟩))
            · repeat (first | (refine ite_f (by first | with_reducible rfl | assumption | (simp; done) | fail) ?_; conv => whnf) | (refine ite_t (by first | with_reducible rfl | assumption | (simp; done) | fail) ?_; conv => whnf) | (refine ⟨by first | omega | (show _ ∧ _; omega) | ((repeat (first | rw [ByteArray.size_append] | rw [bsz] | rw [List.size_toArray] | rw [List.length_cons] | rw [List.length_nil])) <;> omega) | ((repeat rw [Int.toNat_natCast]) <;> first | omega | (show _ ∧ _; omega)) | (simp only [ByteArray.size_append, bsz, List.size_toArray, List.length_cons, List.length_nil]; omega) | (simp only [Int.toNat_natCast]; first | omega | (show _ ∧ _; omega)) | decide, ?_⟩; conv => whnf))
              exact retP tbl_ok (⟨s.graph, s.inputs, s.picks, rdN ((partsL l).getD 1 default)⟩, true) (falls_yes hf ⟨hpt, g, g2, g3, by omega⟩) rfl rfl rfl rfl (by repeat' (first | exact trivial | exact outC_val _ _ | exact rfl | exact .inr ⟨rfl, rfl, _, _, rfl⟩ | refine ⟨?_, ?_⟩))
        · have g2 : word0 l ≠ (⟨#[102, 97, 105, 114]⟩ : ByteArray) := fun e => by rw [show (partsL l).getD (Int.toNat 0) default = (⟨#[102, 97, 105, 114]⟩ : ByteArray) from e, ba_self] at g2; cases g2
          repeat (first | (refine ite_f (by first | with_reducible rfl | assumption | (simp; done) | fail) ?_; conv => whnf) | (refine ite_t (by first | with_reducible rfl | assumption | (simp; done) | fail) ?_; conv => whnf) | (refine ⟨by first | omega | (show _ ∧ _; omega) | ((repeat (first | rw [ByteArray.size_append] | rw [bsz] | rw [List.size_toArray] | rw [List.length_cons] | rw [List.length_nil])) <;> omega) | ((repeat rw [Int.toNat_natCast]) <;> first | omega | (show _ ∧ _; omega)) | (simp only [ByteArray.size_append, bsz, List.size_toArray, List.length_cons, List.length_nil]; omega) | (simp only [Int.toNat_natCast]; first | omega | (show _ ∧ _; omega)) | decide, ?_⟩; conv => whnf))
          exact retP tbl_ok (s, false) (falls_no hf (fun h => g2 h.2.2.1)) rfl rfl rfl rfl (by repeat' (first | exact trivial | exact outC_val _ _ | exact rfl | exact .inr ⟨rfl, rfl, _, _, rfl⟩ | refine ⟨?_, ?_⟩))
      · repeat (first | (refine ite_f (by first | with_reducible rfl | assumption | (simp; done) | fail) ?_; conv => whnf) | (refine ite_t (by first | with_reducible rfl | assumption | (simp; done) | fail) ?_; conv => whnf) | (refine ⟨by first | omega | (show _ ∧ _; omega) | ((repeat (first | rw [ByteArray.size_append] | rw [bsz] | rw [List.size_toArray] | rw [List.length_cons] | rw [List.length_nil])) <;> omega) | ((repeat rw [Int.toNat_natCast]) <;> first | omega | (show _ ∧ _; omega)) | (simp only [ByteArray.size_append, bsz, List.size_toArray, List.length_cons, List.length_nil]; omega) | (simp only [Int.toNat_natCast]; first | omega | (show _ ∧ _; omega)) | decide, ?_⟩; conv => whnf))
        exact retP tbl_ok (s, false) (falls_no hf (fun h => by have := h.2.1; omega)) rfl rfl rfl rfl (by repeat' (first | exact trivial | exact outC_val _ _ | exact rfl | exact .inr ⟨rfl, rfl, _, _, rfl⟩ | refine ⟨?_, ?_⟩))
  · have c : readNodeB l = false := by simpa using c
    repeat (first | (refine ite_f (by first | with_reducible rfl | assumption | (simp; done) | fail) ?_; conv => whnf) | (refine ite_t (by first | with_reducible rfl | assumption | (simp; done) | fail) ?_; conv => whnf) | (refine ⟨by first | omega | (show _ ∧ _; omega) | ((repeat (first | rw [ByteArray.size_append] | rw [bsz] | rw [List.size_toArray] | rw [List.length_cons] | rw [List.length_nil])) <;> omega) | ((repeat rw [Int.toNat_natCast]) <;> first | omega | (show _ ∧ _; omega)) | (simp only; omega) | (simp only; first | omega | (show _ ∧ _; omega)) | decide, ?_⟩; conv => whnf))
    refine ⟨fun c1 => ?_, fun c1 => ?_⟩ <;> conv => whnf
    · repeat (first | (refine ite_f (by first | with_reducible rfl | assumption | (simp; done) | fail) ?_; conv => whnf) | (refine ite_t (by first | with_reducible rfl | assumption | (simp; done) | fail) ?_; conv => whnf) | (refine ⟨by first | omega | (show _ ∧ _; omega) | ((repeat (first | rw [ByteArray.size_append] | rw [bsz] | rw [List.size_toArray] | rw [List.length_cons] | rw [List.length_nil])) <;> omega) | ((repeat rw [Int.toNat_natCast]) <;> first | omega | (show _ ∧ _; omega)) | (simp only; omega) | (simp only; first | omega | (show _ ∧ _; omega)) | decide, ?_⟩; conv => whnf))
      obtain ⟨c2, _⟩ := in_not c1
      refine ⟨fun d => have d := of_decide_eq_true d; ?_, fun d => have d := of_decide_eq_false d; ?_⟩ <;> conv => whnf
      · have d : s.inputs.length < 20 := by omega
        repeat (first | (refine ite_f (by first | with_reducible rfl | assumption | (simp; done) | fail) ?_; conv => whnf) | (refine ite_t (by first | with_reducible rfl | assumption | (simp; done) | fail) ?_; conv => whnf) | (refine ⟨by first | omega | (show _ ∧ _; omega) | ((repeat (first | rw [ByteArray.size_append] | rw [bsz] | rw [List.size_toArray] | rw [List.length_cons] | rw [List.length_nil])) <;> omega) | ((repeat rw [Int.toNat_natCast]) <;> first | omega | (show _ ∧ _; omega)) | (simp only [ByteArray.size_append, bsz, List.size_toArray, List.length_cons, List.length_nil]; omega) | (simp only [Int.toNat_natCast]; first | omega | (show _ ∧ _; omega)) | decide, ?_⟩; conv => whnf))
        refine drawA rfl ?_
        refine preA tbl_ok false 0 rfl rfl rfl (by kernel_rfl) rfl (andL_mem (by repeat' (first | exact trivial | refine ⟨?_, ?_⟩ | (show _ ∧ _; omega) | omega))) ?_
        refine preA tbl_ok false 1 rfl rfl rfl (by kernel_rfl) rfl (andL_mem (by repeat' (first | exact trivial | refine ⟨?_, ?_⟩ | (show _ ∧ _; omega) | omega))) ?_
        refine preA tbl_ok false 2 rfl rfl rfl (by kernel_rfl) rfl (andL_mem (by repeat' (first | exact trivial | refine ⟨?_, ?_⟩ | (show _ ∧ _; omega) | omega))) ?_
        refine preA tbl_ok false 3 rfl rfl rfl (by kernel_rfl) rfl (andL_mem (by repeat' (first | exact trivial | refine ⟨?_, ?_⟩ | (show _ ∧ _; omega) | omega))) ?_
        refine splitA [4, 5] (by kernel_rfl) ⟨?_, ?_, trivial⟩
        focus
          refine go tbl_ok false ?_
          conv => whnf
          refine loopA ?_
          refine splitA [5] (by kernel_rfl) ⟨?_, trivial⟩
          refine go tbl_ok false ?_
          conv => whnf
          refine loopA ?_
          refine splitA [6] (by kernel_rfl) ⟨?_, trivial⟩
          refine go tbl_ok false ?_
          conv => whnf
          refine loopA ?_
          refine splitA [7] (by kernel_rfl) ⟨?_, trivial⟩
          refine go tbl_ok false ?_
          conv => whnf
          refine appW tbl_ok rfl rfl rfl rfl rfl rfl rfl rfl rfl rfl rfl (sGRecord (s.inputs ++ [readInV l])) (slC_snoc rfl) (by intro h; cases h) (by omega) (go tbl_ok false ?_)
          conv => whnf
          refine loopA ?_
          refine preA tbl_ok false 8 rfl rfl rfl (by kernel_rfl) rfl (andL_mem (by repeat' (first | exact trivial | refine ⟨?_, ?_⟩ | (show _ ∧ _; omega) | omega))) ?_
          refine preA tbl_ok false 9 rfl rfl rfl (by kernel_rfl) rfl (andL_mem (by repeat' (first | exact trivial | refine ⟨?_, ?_⟩ | (show _ ∧ _; omega) | omega))) ?_
          refine splitA [10] (by kernel_rfl) ⟨?_, trivial⟩
          refine go tbl_ok false ?_
          conv => whnf
          refine loopA ?_
          refine doneA (by kernel_rfl) (go tbl_ok false ?_)
          conv => whnf
        rotate_left 1
        focus
          refine go tbl_ok false ?_
          conv => whnf
          refine loopA ?_
          refine splitA [4, 6] (by kernel_rfl) ⟨?_, ?_, trivial⟩
          focus
            refine go tbl_ok false ?_
            conv => whnf
            refine loopA ?_
            refine splitA [6] (by kernel_rfl) ⟨?_, trivial⟩
            refine go tbl_ok false ?_
            conv => whnf
            refine loopA ?_
            refine splitA [7] (by kernel_rfl) ⟨?_, trivial⟩
            refine go tbl_ok false ?_
            conv => whnf
            refine appW tbl_ok rfl rfl rfl rfl rfl rfl rfl rfl rfl rfl rfl (sGRecord (s.inputs ++ [readInV l])) (slC_snoc rfl) (by intro h; cases h) (by omega) (go tbl_ok false ?_)
            conv => whnf
            refine loopA ?_
            refine preA tbl_ok false 8 rfl rfl rfl (by kernel_rfl) rfl (andL_mem (by repeat' (first | exact trivial | refine ⟨?_, ?_⟩ | (show _ ∧ _; omega) | omega))) ?_
            refine preA tbl_ok false 9 rfl rfl rfl (by kernel_rfl) rfl (andL_mem (by repeat' (first | exact trivial | refine ⟨?_, ?_⟩ | (show _ ∧ _; omega) | omega))) ?_
            refine splitA [10] (by kernel_rfl) ⟨?_, trivial⟩
            refine go tbl_ok false ?_
            conv => whnf
            refine loopA ?_
            refine doneA (by kernel_rfl) (go tbl_ok false ?_)
            conv => whnf
          rotate_left 1
          focus
            refine go tbl_ok false ?_
            conv => whnf
            refine loopA ?_
            refine splitA [4] (by kernel_rfl) ⟨?_, trivial⟩
            refine go tbl_ok false ?_
            conv => whnf
            refine loopA ?_
            refine splitA [7] (by kernel_rfl) ⟨?_, trivial⟩
            refine go tbl_ok false ?_
            conv => whnf
            refine appW tbl_ok rfl rfl rfl rfl rfl rfl rfl rfl rfl rfl rfl (sGRecord (s.inputs ++ [readInV l])) (slC_snoc rfl) (by intro h; cases h) (by omega) (go tbl_ok false ?_)
            conv => whnf
            refine loopA ?_
            refine preA tbl_ok false 8 rfl rfl rfl (by kernel_rfl) rfl (andL_mem (by repeat' (first | exact trivial | refine ⟨?_, ?_⟩ | (show _ ∧ _; omega) | omega))) ?_
            refine preA tbl_ok false 9 rfl rfl rfl (by kernel_rfl) rfl (andL_mem (by repeat' (first | exact trivial | refine ⟨?_, ?_⟩ | (show _ ∧ _; omega) | omega))) ?_
            refine splitA [10] (by kernel_rfl) ⟨?_, trivial⟩
            refine go tbl_ok false ?_
            conv => whnf
            refine loopA ?_
            refine doneA (by kernel_rfl) (go tbl_ok false ?_)
            conv => whnf
        all_goals exact retP tbl_ok (⟨s.graph, s.inputs ++ [readInV l], s.picks, s.rounds⟩, true) (addR_in c1 c d) rfl rfl rfl rfl (by repeat' (first | exact trivial | exact outC_val _ _ | exact rfl | exact .inr ⟨rfl, rfl, _, _, rfl⟩ | refine ⟨?_, ?_⟩))
      · have hf := falls_in c1 c (show ¬ s.inputs.length < 20 by omega)
        repeat (first | (refine ite_f (by first | with_reducible rfl | assumption | (simp; done) | fail) ?_; conv => whnf) | (refine ite_t (by first | with_reducible rfl | assumption | (simp; done) | fail) ?_; conv => whnf) | (refine ⟨by first | omega | (show _ ∧ _; omega) | ((repeat (first | rw [ByteArray.size_append] | rw [bsz] | rw [List.size_toArray] | rw [List.length_cons] | rw [List.length_nil])) <;> omega) | ((repeat rw [Int.toNat_natCast]) <;> first | omega | (show _ ∧ _; omega)) | (simp only; omega) | (simp only; first | omega | (show _ ∧ _; omega)) | decide, ?_⟩; conv => whnf))
        have hp0 := partsL_size l
        have hp1 := partsL_len l
        refine ⟨fun g => have g := eq_of_beq g; ?_, fun g => have g := beq_eq_false_iff_ne.1 g; ?_⟩ <;> conv => whnf
        · have g : (partsL l).length = 2 := by omega
          have hx1 := hp0 _ (getD_mem (d := default) (show 1 < (partsL l).length by omega))
          repeat (first | (refine ite_f (by first | with_reducible rfl | assumption | (simp; done) | fail) ?_; conv => whnf) | (refine ite_t (by first | with_reducible rfl | assumption | (simp; done) | fail) ?_; conv => whnf) | (refine ⟨by first | omega | (show _ ∧ _; omega) | ((repeat (first | rw [ByteArray.size_append] | rw [bsz] | rw [List.size_toArray] | rw [List.length_cons] | rw [List.length_nil])) <;> omega) | ((repeat rw [Int.toNat_natCast]) <;> first | omega | (show _ ∧ _; omega)) | (simp only; omega) | (simp only; first | omega | (show _ ∧ _; omega)) | decide, ?_⟩; conv => whnf))
          (repeat (refine ⟨by first | omega | (show _ ∧ _; omega) | ((repeat (first | rw [ByteArray.size_append] | rw [bsz] | rw [List.size_toArray] | rw [List.length_cons] | rw [List.length_nil])) <;> omega) | ((repeat rw [Int.toNat_natCast]) <;> first | omega | (show _ ∧ _; omega)) | (simp only; omega) | (simp only; first | omega | (show _ ∧ _; omega)) | decide, ?_⟩; conv => whnf))
          refine ⟨fun g2 => ?_, fun g2 => ?_⟩ <;> conv => whnf
          · have g2 : word0 l = (⟨#[102, 97, 105, 114]⟩ : ByteArray) := ba_eq g2
            repeat (first | (refine ite_f (by first | with_reducible rfl | assumption | (simp; done) | fail) ?_; conv => whnf) | (refine ite_t (by first | with_reducible rfl | assumption | (simp; done) | fail) ?_; conv => whnf) | (refine ⟨by first | omega | (show _ ∧ _; omega) | ((repeat (first | rw [ByteArray.size_append] | rw [bsz] | rw [List.size_toArray] | rw [List.length_cons] | rw [List.length_nil])) <;> omega) | ((repeat rw [Int.toNat_natCast]) <;> first | omega | (show _ ∧ _; omega)) | (simp only [ByteArray.size_append, bsz, List.size_toArray, List.length_cons, List.length_nil]; omega) | (simp only [Int.toNat_natCast]; first | omega | (show _ ∧ _; omega)) | decide, ?_⟩; conv => whnf))
            (repeat (refine ⟨by first | omega | (show _ ∧ _; omega) | ((repeat (first | rw [ByteArray.size_append] | rw [bsz] | rw [List.size_toArray] | rw [List.length_cons] | rw [List.length_nil])) <;> omega) | ((repeat rw [Int.toNat_natCast]) <;> first | omega | (show _ ∧ _; omega)) | (simp only [ByteArray.size_append, bsz, List.size_toArray, List.length_cons, List.length_nil]; omega) | (simp only [Int.toNat_natCast]; first | omega | (show _ ∧ _; omega)) | decide, ?_⟩; conv => whnf))
            refine callR (specReadDecimal ((partsL l).getD 1 default) (by omega)) rfl (go tbl_ok false ?_)
            conv => whnf
            refine ⟨fun g3 => ?_, fun g3 => ?_⟩ <;> conv => whnf
            · have g3 : rdB ((partsL l).getD 1 default) = false := by simpa using g3
              repeat (first | (refine ite_f (by first | with_reducible rfl | assumption | (simp; done) | fail) ?_; conv => whnf) | (refine ite_t (by first | with_reducible rfl | assumption | (simp; done) | fail) ?_; conv => whnf) | (refine ⟨by first | omega | (show _ ∧ _; omega) | ((repeat (first | rw [ByteArray.size_append] | rw [bsz] | rw [List.size_toArray] | rw [List.length_cons] | rw [List.length_nil])) <;> omega) | ((repeat rw [Int.toNat_natCast]) <;> first | omega | (show _ ∧ _; omega)) | (simp only [ByteArray.size_append, bsz, List.size_toArray, List.length_cons, List.length_nil]; omega) | (simp only [Int.toNat_natCast]; first | omega | (show _ ∧ _; omega)) | decide, ?_⟩; conv => whnf))
              exact retP tbl_ok (s, false) (falls_no hf (fun h => by have := h.2.2.2.1; rw [g3] at this; cases this)) rfl rfl rfl rfl (by repeat' (first | exact trivial | exact outC_val _ _ | exact rfl | exact .inr ⟨rfl, rfl, _, _, rfl⟩ | refine ⟨?_, ?_⟩))
            · have g3 : rdB ((partsL l).getD 1 default) = true := by simpa using g3
              repeat (first | (refine ite_f (by first | with_reducible rfl | assumption | (simp; done) | fail) ?_; conv => whnf) | (refine ite_t (by first | with_reducible rfl | assumption | (simp; done) | fail) ?_; conv => whnf) | (refine ⟨by first | omega | (show _ ∧ _; omega) | ((repeat (first | rw [ByteArray.size_append] | rw [bsz] | rw [List.size_toArray] | rw [List.length_cons] | rw [List.length_nil])) <;> omega) | ((repeat rw [Int.toNat_natCast]) <;> first | omega | (show _ ∧ _; omega)) | (simp only; omega) | (simp only; first | omega | (show _ ∧ _; omega)) | decide, ?_⟩; conv => whnf))
              refine ⟨fun g4 => have g4 := of_decide_eq_true g4; ?_, fun g4 => have g4 := of_decide_eq_false g4; ?_⟩ <;> conv => whnf
              · repeat (first | (refine ite_f (by first | with_reducible rfl | assumption | (simp; done) | fail) ?_; conv => whnf) | (refine ite_t (by first | with_reducible rfl | assumption | (simp; done) | fail) ?_; conv => whnf) | (refine ⟨by first | omega | (show _ ∧ _; omega) | ((repeat (first | rw [ByteArray.size_append] | rw [bsz] | rw [List.size_toArray] | rw [List.length_cons] | rw [List.length_nil])) <;> omega) | ((repeat rw [Int.toNat_natCast]) <;> first | omega | (show _ ∧ _; omega)) | (simp only [ByteArray.size_append, bsz, List.size_toArray, List.length_cons, List.length_nil]; omega) | (simp only [Int.toNat_natCast]; first | omega | (show _ ∧ _; omega)) | decide, ?_⟩; conv => whnf))
                exact retP tbl_ok (s, false) (falls_no hf (fun h => by have := h.2.2.2.2; omega)) rfl rfl rfl rfl (by repeat' (first | exact trivial | exact outC_val _ _ | exact rfl | exact .inr ⟨rfl, rfl, _, _, rfl⟩ | refine ⟨?_, ?_⟩))
              · repeat (first | (refine ite_f (by first | with_reducible rfl | assumption | (simp; done) | fail) ?_; conv => whnf) | (refine ite_t (by first | with_reducible rfl | assumption | (simp; done) | fail) ?_; conv => whnf) | (refine ⟨by first | omega | (show _ ∧ _; omega) | ((repeat (first | rw [ByteArray.size_append] | rw [bsz] | rw [List.size_toArray] | rw [List.length_cons] | rw [List.length_nil])) <;> omega) | ((repeat rw [Int.toNat_natCast]) <;> first | omega | (show _ ∧ _; omega)) | (simp only [ByteArray.size_append, bsz, List.size_toArray, List.length_cons, List.length_nil]; omega) | (simp only [Int.toNat_natCast]; first | omega | (show _ ∧ _; omega)) | decide, ?_⟩; conv => whnf))
                exact retP tbl_ok (⟨s.graph, s.inputs, s.picks, rdN ((partsL l).getD 1 default)⟩, true) (falls_yes hf ⟨hpt, g, g2, g3, by omega⟩) rfl rfl rfl rfl (by repeat' (first | exact trivial | exact outC_val _ _ | exact rfl | exact .inr ⟨rfl, rfl, _, _, rfl⟩ | refine ⟨?_, ?_⟩))
          · have g2 : word0 l ≠ (⟨#[102, 97, 105, 114]⟩ : ByteArray) := fun e => by rw [show (partsL l).getD (Int.toNat 0) default = (⟨#[102, 97, 105, 114]⟩ : ByteArray) from e, ba_self] at g2; cases g2
            repeat (first | (refine ite_f (by first | with_reducible rfl | assumption | (simp; done) | fail) ?_; conv => whnf) | (refine ite_t (by first | with_reducible rfl | assumption | (simp; done) | fail) ?_; conv => whnf) | (refine ⟨by first | omega | (show _ ∧ _; omega) | ((repeat (first | rw [ByteArray.size_append] | rw [bsz] | rw [List.size_toArray] | rw [List.length_cons] | rw [List.length_nil])) <;> omega) | ((repeat rw [Int.toNat_natCast]) <;> first | omega | (show _ ∧ _; omega)) | (simp only [ByteArray.size_append, bsz, List.size_toArray, List.length_cons, List.length_nil]; omega) | (simp only [Int.toNat_natCast]; first | omega | (show _ ∧ _; omega)) | decide, ?_⟩; conv => whnf))
            exact retP tbl_ok (s, false) (falls_no hf (fun h => g2 h.2.2.1)) rfl rfl rfl rfl (by repeat' (first | exact trivial | exact outC_val _ _ | exact rfl | exact .inr ⟨rfl, rfl, _, _, rfl⟩ | refine ⟨?_, ?_⟩))
        · repeat (first | (refine ite_f (by first | with_reducible rfl | assumption | (simp; done) | fail) ?_; conv => whnf) | (refine ite_t (by first | with_reducible rfl | assumption | (simp; done) | fail) ?_; conv => whnf) | (refine ⟨by first | omega | (show _ ∧ _; omega) | ((repeat (first | rw [ByteArray.size_append] | rw [bsz] | rw [List.size_toArray] | rw [List.length_cons] | rw [List.length_nil])) <;> omega) | ((repeat rw [Int.toNat_natCast]) <;> first | omega | (show _ ∧ _; omega)) | (simp only [ByteArray.size_append, bsz, List.size_toArray, List.length_cons, List.length_nil]; omega) | (simp only [Int.toNat_natCast]; first | omega | (show _ ∧ _; omega)) | decide, ?_⟩; conv => whnf))
          exact retP tbl_ok (s, false) (falls_no hf (fun h => by have := h.2.1; omega)) rfl rfl rfl rfl (by repeat' (first | exact trivial | exact outC_val _ _ | exact rfl | exact .inr ⟨rfl, rfl, _, _, rfl⟩ | refine ⟨?_, ?_⟩))
    · have c1 : readInB l = false := by simpa using c1
      repeat (first | (refine ite_f (by first | with_reducible rfl | assumption | (simp; done) | fail) ?_; conv => whnf) | (refine ite_t (by first | with_reducible rfl | assumption | (simp; done) | fail) ?_; conv => whnf) | (refine ⟨by first | omega | (show _ ∧ _; omega) | ((repeat (first | rw [ByteArray.size_append] | rw [bsz] | rw [List.size_toArray] | rw [List.length_cons] | rw [List.length_nil])) <;> omega) | ((repeat rw [Int.toNat_natCast]) <;> first | omega | (show _ ∧ _; omega)) | (simp only; omega) | (simp only; first | omega | (show _ ∧ _; omega)) | decide, ?_⟩; conv => whnf))
      refine ⟨fun c2 => ?_, fun c2 => ?_⟩ <;> conv => whnf
      · repeat (first | (refine ite_f (by first | with_reducible rfl | assumption | (simp; done) | fail) ?_; conv => whnf) | (refine ite_t (by first | with_reducible rfl | assumption | (simp; done) | fail) ?_; conv => whnf) | (refine ⟨by first | omega | (show _ ∧ _; omega) | ((repeat (first | rw [ByteArray.size_append] | rw [bsz] | rw [List.size_toArray] | rw [List.length_cons] | rw [List.length_nil])) <;> omega) | ((repeat rw [Int.toNat_natCast]) <;> first | omega | (show _ ∧ _; omega)) | (simp only; omega) | (simp only; first | omega | (show _ ∧ _; omega)) | decide, ?_⟩; conv => whnf))
        refine ⟨fun d => have d := of_decide_eq_true d; ?_, fun d => have d := of_decide_eq_false d; ?_⟩ <;> conv => whnf
        · have d : s.picks.length < 200 := by omega
          repeat (first | (refine ite_f (by first | with_reducible rfl | assumption | (simp; done) | fail) ?_; conv => whnf) | (refine ite_t (by first | with_reducible rfl | assumption | (simp; done) | fail) ?_; conv => whnf) | (refine ⟨by first | omega | (show _ ∧ _; omega) | ((repeat (first | rw [ByteArray.size_append] | rw [bsz] | rw [List.size_toArray] | rw [List.length_cons] | rw [List.length_nil])) <;> omega) | ((repeat rw [Int.toNat_natCast]) <;> first | omega | (show _ ∧ _; omega)) | (simp only [ByteArray.size_append, bsz, List.size_toArray, List.length_cons, List.length_nil]; omega) | (simp only [Int.toNat_natCast]; first | omega | (show _ ∧ _; omega)) | decide, ?_⟩; conv => whnf))
          refine drawA rfl ?_
          refine preA tbl_ok false 0 rfl rfl rfl (by kernel_rfl) rfl (andL_mem (by repeat' (first | exact trivial | refine ⟨?_, ?_⟩ | (show _ ∧ _; omega) | omega))) ?_
          refine preA tbl_ok false 1 rfl rfl rfl (by kernel_rfl) rfl (andL_mem (by repeat' (first | exact trivial | refine ⟨?_, ?_⟩ | (show _ ∧ _; omega) | omega))) ?_
          refine preA tbl_ok false 2 rfl rfl rfl (by kernel_rfl) rfl (andL_mem (by repeat' (first | exact trivial | refine ⟨?_, ?_⟩ | (show _ ∧ _; omega) | omega))) ?_
          refine preA tbl_ok false 3 rfl rfl rfl (by kernel_rfl) rfl (andL_mem (by repeat' (first | exact trivial | refine ⟨?_, ?_⟩ | (show _ ∧ _; omega) | omega))) ?_
          refine splitA [4, 5] (by kernel_rfl) ⟨?_, ?_, trivial⟩
          focus
            refine go tbl_ok false ?_
            conv => whnf
            refine loopA ?_
            refine splitA [5] (by kernel_rfl) ⟨?_, trivial⟩
            refine go tbl_ok false ?_
            conv => whnf
            refine loopA ?_
            refine splitA [6] (by kernel_rfl) ⟨?_, trivial⟩
            refine go tbl_ok false ?_
            conv => whnf
            refine loopA ?_
            refine splitA [7] (by kernel_rfl) ⟨?_, trivial⟩
            refine go tbl_ok false ?_
            conv => whnf
            refine appW tbl_ok rfl rfl rfl rfl rfl rfl rfl rfl rfl rfl rfl (sGPick (s.picks ++ [readPickV l])) (slC_snoc rfl) (by intro h; cases h) (by omega) (go tbl_ok false ?_)
            conv => whnf
            refine loopA ?_
            refine preA tbl_ok false 8 rfl rfl rfl (by kernel_rfl) rfl (andL_mem (by repeat' (first | exact trivial | refine ⟨?_, ?_⟩ | (show _ ∧ _; omega) | omega))) ?_
            refine preA tbl_ok false 9 rfl rfl rfl (by kernel_rfl) rfl (andL_mem (by repeat' (first | exact trivial | refine ⟨?_, ?_⟩ | (show _ ∧ _; omega) | omega))) ?_
            refine splitA [10] (by kernel_rfl) ⟨?_, trivial⟩
            refine go tbl_ok false ?_
            conv => whnf
            refine loopA ?_
            refine doneA (by kernel_rfl) (go tbl_ok false ?_)
            conv => whnf
          rotate_left 1
          focus
            refine go tbl_ok false ?_
            conv => whnf
            refine loopA ?_
            refine splitA [4, 6] (by kernel_rfl) ⟨?_, ?_, trivial⟩
            focus
              refine go tbl_ok false ?_
              conv => whnf
              refine loopA ?_
              refine splitA [6] (by kernel_rfl) ⟨?_, trivial⟩
              refine go tbl_ok false ?_
              conv => whnf
              refine loopA ?_
              refine splitA [7] (by kernel_rfl) ⟨?_, trivial⟩
              refine go tbl_ok false ?_
              conv => whnf
              refine appW tbl_ok rfl rfl rfl rfl rfl rfl rfl rfl rfl rfl rfl (sGPick (s.picks ++ [readPickV l])) (slC_snoc rfl) (by intro h; cases h) (by omega) (go tbl_ok false ?_)
              conv => whnf
              refine loopA ?_
              refine preA tbl_ok false 8 rfl rfl rfl (by kernel_rfl) rfl (andL_mem (by repeat' (first | exact trivial | refine ⟨?_, ?_⟩ | (show _ ∧ _; omega) | omega))) ?_
              refine preA tbl_ok false 9 rfl rfl rfl (by kernel_rfl) rfl (andL_mem (by repeat' (first | exact trivial | refine ⟨?_, ?_⟩ | (show _ ∧ _; omega) | omega))) ?_
              refine splitA [10] (by kernel_rfl) ⟨?_, trivial⟩
              refine go tbl_ok false ?_
              conv => whnf
              refine loopA ?_
              refine doneA (by kernel_rfl) (go tbl_ok false ?_)
              conv => whnf
            rotate_left 1
            focus
              refine go tbl_ok false ?_
              conv => whnf
              refine loopA ?_
              refine splitA [4] (by kernel_rfl) ⟨?_, trivial⟩
              refine go tbl_ok false ?_
              conv => whnf
              refine loopA ?_
              refine splitA [7] (by kernel_rfl) ⟨?_, trivial⟩
              refine go tbl_ok false ?_
              conv => whnf
              refine appW tbl_ok rfl rfl rfl rfl rfl rfl rfl rfl rfl rfl rfl (sGPick (s.picks ++ [readPickV l])) (slC_snoc rfl) (by intro h; cases h) (by omega) (go tbl_ok false ?_)
              conv => whnf
              refine loopA ?_
              refine preA tbl_ok false 8 rfl rfl rfl (by kernel_rfl) rfl (andL_mem (by repeat' (first | exact trivial | refine ⟨?_, ?_⟩ | (show _ ∧ _; omega) | omega))) ?_
              refine preA tbl_ok false 9 rfl rfl rfl (by kernel_rfl) rfl (andL_mem (by repeat' (first | exact trivial | refine ⟨?_, ?_⟩ | (show _ ∧ _; omega) | omega))) ?_
              refine splitA [10] (by kernel_rfl) ⟨?_, trivial⟩
              refine go tbl_ok false ?_
              conv => whnf
              refine loopA ?_
              refine doneA (by kernel_rfl) (go tbl_ok false ?_)
              conv => whnf
          all_goals exact retP tbl_ok (⟨s.graph, s.inputs, s.picks ++ [readPickV l], s.rounds⟩, true) (addR_pick c2 c c1 d) rfl rfl rfl rfl (by repeat' (first | exact trivial | exact outC_val _ _ | exact rfl | exact .inr ⟨rfl, rfl, _, _, rfl⟩ | refine ⟨?_, ?_⟩))
        · have hf := falls_pick c2 c c1 (show ¬ s.picks.length < 200 by omega)
          repeat (first | (refine ite_f (by first | with_reducible rfl | assumption | (simp; done) | fail) ?_; conv => whnf) | (refine ite_t (by first | with_reducible rfl | assumption | (simp; done) | fail) ?_; conv => whnf) | (refine ⟨by first | omega | (show _ ∧ _; omega) | ((repeat (first | rw [ByteArray.size_append] | rw [bsz] | rw [List.size_toArray] | rw [List.length_cons] | rw [List.length_nil])) <;> omega) | ((repeat rw [Int.toNat_natCast]) <;> first | omega | (show _ ∧ _; omega)) | (simp only; omega) | (simp only; first | omega | (show _ ∧ _; omega)) | decide, ?_⟩; conv => whnf))
          have hp0 := partsL_size l
          have hp1 := partsL_len l
          refine ⟨fun g => have g := eq_of_beq g; ?_, fun g => have g := beq_eq_false_iff_ne.1 g; ?_⟩ <;> conv => whnf
          · have g : (partsL l).length = 2 := by omega
            have hx1 := hp0 _ (getD_mem (d := default) (show 1 < (partsL l).length by omega))
            repeat (first | (refine ite_f (by first | with_reducible rfl | assumption | (simp; done) | fail) ?_; conv => whnf) | (refine ite_t (by first | with_reducible rfl | assumption | (simp; done) | fail) ?_; conv => whnf) | (refine ⟨by first | omega | (show _ ∧ _; omega) | ((repeat (first | rw [ByteArray.size_append] | rw [bsz] | rw [List.size_toArray] | rw [List.length_cons] | rw [List.length_nil])) <;> omega) | ((repeat rw [Int.toNat_natCast]) <;> first | omega | (show _ ∧ _; omega)) | (simp only; omega) | (simp only; first | omega | (show _ ∧ _; omega)) | decide, ?_⟩; conv => whnf))
            (repeat (refine ⟨by first | omega | (show _ ∧ _; omega) | ((repeat (first | rw [ByteArray.size_append] | rw [bsz] | rw [List.size_toArray] | rw [List.length_cons] | rw [List.length_nil])) <;> omega) | ((repeat rw [Int.toNat_natCast]) <;> first | omega | (show _ ∧ _; omega)) | (simp only; omega) | (simp only; first | omega | (show _ ∧ _; omega)) | decide, ?_⟩; conv => whnf))
            refine ⟨fun g2 => ?_, fun g2 => ?_⟩ <;> conv => whnf
            · have g2 : word0 l = (⟨#[102, 97, 105, 114]⟩ : ByteArray) := ba_eq g2
              repeat (first | (refine ite_f (by first | with_reducible rfl | assumption | (simp; done) | fail) ?_; conv => whnf) | (refine ite_t (by first | with_reducible rfl | assumption | (simp; done) | fail) ?_; conv => whnf) | (refine ⟨by first | omega | (show _ ∧ _; omega) | ((repeat (first | rw [ByteArray.size_append] | rw [bsz] | rw [List.size_toArray] | rw [List.length_cons] | rw [List.length_nil])) <;> omega) | ((repeat rw [Int.toNat_natCast]) <;> first | omega | (show _ ∧ _; omega)) | (simp only [ByteArray.size_append, bsz, List.size_toArray, List.length_cons, List.length_nil]; omega) | (simp only [Int.toNat_natCast]; first | omega | (show _ ∧ _; omega)) | decide, ?_⟩; conv => whnf))
              (repeat (refine ⟨by first | omega | (show _ ∧ _; omega) | ((repeat (first | rw [ByteArray.size_append] | rw [bsz] | rw [List.size_toArray] | rw [List.length_cons] | rw [List.length_nil])) <;> omega) | ((repeat rw [Int.toNat_natCast]) <;> first | omega | (show _ ∧ _; omega)) | (simp only [ByteArray.size_append, bsz, List.size_toArray, List.length_cons, List.length_nil]; omega) | (simp only [Int.toNat_natCast]; first | omega | (show _ ∧ _; omega)) | decide, ?_⟩; conv => whnf))
              refine callR (specReadDecimal ((partsL l).getD 1 default) (by omega)) rfl (go tbl_ok false ?_)
              conv => whnf
              refine ⟨fun g3 => ?_, fun g3 => ?_⟩ <;> conv => whnf
              · have g3 : rdB ((partsL l).getD 1 default) = false := by simpa using g3
                repeat (first | (refine ite_f (by first | with_reducible rfl | assumption | (simp; done) | fail) ?_; conv => whnf) | (refine ite_t (by first | with_reducible rfl | assumption | (simp; done) | fail) ?_; conv => whnf) | (refine ⟨by first | omega | (show _ ∧ _; omega) | ((repeat (first | rw [ByteArray.size_append] | rw [bsz] | rw [List.size_toArray] | rw [List.length_cons] | rw [List.length_nil])) <;> omega) | ((repeat rw [Int.toNat_natCast]) <;> first | omega | (show _ ∧ _; omega)) | (simp only [ByteArray.size_append, bsz, List.size_toArray, List.length_cons, List.length_nil]; omega) | (simp only [Int.toNat_natCast]; first | omega | (show _ ∧ _; omega)) | decide, ?_⟩; conv => whnf))
                exact retP tbl_ok (s, false) (falls_no hf (fun h => by have := h.2.2.2.1; rw [g3] at this; cases this)) rfl rfl rfl rfl (by repeat' (first | exact trivial | exact outC_val _ _ | exact rfl | exact .inr ⟨rfl, rfl, _, _, rfl⟩ | refine ⟨?_, ?_⟩))
              · have g3 : rdB ((partsL l).getD 1 default) = true := by simpa using g3
                repeat (first | (refine ite_f (by first | with_reducible rfl | assumption | (simp; done) | fail) ?_; conv => whnf) | (refine ite_t (by first | with_reducible rfl | assumption | (simp; done) | fail) ?_; conv => whnf) | (refine ⟨by first | omega | (show _ ∧ _; omega) | ((repeat (first | rw [ByteArray.size_append] | rw [bsz] | rw [List.size_toArray] | rw [List.length_cons] | rw [List.length_nil])) <;> omega) | ((repeat rw [Int.toNat_natCast]) <;> first | omega | (show _ ∧ _; omega)) | (simp only; omega) | (simp only; first | omega | (show _ ∧ _; omega)) | decide, ?_⟩; conv => whnf))
                refine ⟨fun g4 => have g4 := of_decide_eq_true g4; ?_, fun g4 => have g4 := of_decide_eq_false g4; ?_⟩ <;> conv => whnf
                · repeat (first | (refine ite_f (by first | with_reducible rfl | assumption | (simp; done) | fail) ?_; conv => whnf) | (refine ite_t (by first | with_reducible rfl | assumption | (simp; done) | fail) ?_; conv => whnf) | (refine ⟨by first | omega | (show _ ∧ _; omega) | ((repeat (first | rw [ByteArray.size_append] | rw [bsz] | rw [List.size_toArray] | rw [List.length_cons] | rw [List.length_nil])) <;> omega) | ((repeat rw [Int.toNat_natCast]) <;> first | omega | (show _ ∧ _; omega)) | (simp only [ByteArray.size_append, bsz, List.size_toArray, List.length_cons, List.length_nil]; omega) | (simp only [Int.toNat_natCast]; first | omega | (show _ ∧ _; omega)) | decide, ?_⟩; conv => whnf))
                  exact retP tbl_ok (s, false) (falls_no hf (fun h => by have := h.2.2.2.2; omega)) rfl rfl rfl rfl (by repeat' (first | exact trivial | exact outC_val _ _ | exact rfl | exact .inr ⟨rfl, rfl, _, _, rfl⟩ | refine ⟨?_, ?_⟩))
                · repeat (first | (refine ite_f (by first | with_reducible rfl | assumption | (simp; done) | fail) ?_; conv => whnf) | (refine ite_t (by first | with_reducible rfl | assumption | (simp; done) | fail) ?_; conv => whnf) | (refine ⟨by first | omega | (show _ ∧ _; omega) | ((repeat (first | rw [ByteArray.size_append] | rw [bsz] | rw [List.size_toArray] | rw [List.length_cons] | rw [List.length_nil])) <;> omega) | ((repeat rw [Int.toNat_natCast]) <;> first | omega | (show _ ∧ _; omega)) | (simp only [ByteArray.size_append, bsz, List.size_toArray, List.length_cons, List.length_nil]; omega) | (simp only [Int.toNat_natCast]; first | omega | (show _ ∧ _; omega)) | decide, ?_⟩; conv => whnf))
                  exact retP tbl_ok (⟨s.graph, s.inputs, s.picks, rdN ((partsL l).getD 1 default)⟩, true) (falls_yes hf ⟨hpt, g, g2, g3, by omega⟩) rfl rfl rfl rfl (by repeat' (first | exact trivial | exact outC_val _ _ | exact rfl | exact .inr ⟨rfl, rfl, _, _, rfl⟩ | refine ⟨?_, ?_⟩))
            · have g2 : word0 l ≠ (⟨#[102, 97, 105, 114]⟩ : ByteArray) := fun e => by rw [show (partsL l).getD (Int.toNat 0) default = (⟨#[102, 97, 105, 114]⟩ : ByteArray) from e, ba_self] at g2; cases g2
              repeat (first | (refine ite_f (by first | with_reducible rfl | assumption | (simp; done) | fail) ?_; conv => whnf) | (refine ite_t (by first | with_reducible rfl | assumption | (simp; done) | fail) ?_; conv => whnf) | (refine ⟨by first | omega | (show _ ∧ _; omega) | ((repeat (first | rw [ByteArray.size_append] | rw [bsz] | rw [List.size_toArray] | rw [List.length_cons] | rw [List.length_nil])) <;> omega) | ((repeat rw [Int.toNat_natCast]) <;> first | omega | (show _ ∧ _; omega)) | (simp only [ByteArray.size_append, bsz, List.size_toArray, List.length_cons, List.length_nil]; omega) | (simp only [Int.toNat_natCast]; first | omega | (show _ ∧ _; omega)) | decide, ?_⟩; conv => whnf))
              exact retP tbl_ok (s, false) (falls_no hf (fun h => g2 h.2.2.1)) rfl rfl rfl rfl (by repeat' (first | exact trivial | exact outC_val _ _ | exact rfl | exact .inr ⟨rfl, rfl, _, _, rfl⟩ | refine ⟨?_, ?_⟩))
          · repeat (first | (refine ite_f (by first | with_reducible rfl | assumption | (simp; done) | fail) ?_; conv => whnf) | (refine ite_t (by first | with_reducible rfl | assumption | (simp; done) | fail) ?_; conv => whnf) | (refine ⟨by first | omega | (show _ ∧ _; omega) | ((repeat (first | rw [ByteArray.size_append] | rw [bsz] | rw [List.size_toArray] | rw [List.length_cons] | rw [List.length_nil])) <;> omega) | ((repeat rw [Int.toNat_natCast]) <;> first | omega | (show _ ∧ _; omega)) | (simp only [ByteArray.size_append, bsz, List.size_toArray, List.length_cons, List.length_nil]; omega) | (simp only [Int.toNat_natCast]; first | omega | (show _ ∧ _; omega)) | decide, ?_⟩; conv => whnf))
            exact retP tbl_ok (s, false) (falls_no hf (fun h => by have := h.2.1; omega)) rfl rfl rfl rfl (by repeat' (first | exact trivial | exact outC_val _ _ | exact rfl | exact .inr ⟨rfl, rfl, _, _, rfl⟩ | refine ⟨?_, ?_⟩))
      · have c2 : readPickB l = false := by simpa using c2
        have hf := falls_none (s := s) c c1 c2
        repeat (first | (refine ite_f (by first | with_reducible rfl | assumption | (simp; done) | fail) ?_; conv => whnf) | (refine ite_t (by first | with_reducible rfl | assumption | (simp; done) | fail) ?_; conv => whnf) | (refine ⟨by first | omega | (show _ ∧ _; omega) | ((repeat (first | rw [ByteArray.size_append] | rw [bsz] | rw [List.size_toArray] | rw [List.length_cons] | rw [List.length_nil])) <;> omega) | ((repeat rw [Int.toNat_natCast]) <;> first | omega | (show _ ∧ _; omega)) | (simp only; omega) | (simp only; first | omega | (show _ ∧ _; omega)) | decide, ?_⟩; conv => whnf))
        have hp0 := partsL_size l
        have hp1 := partsL_len l
        refine ⟨fun g => have g := eq_of_beq g; ?_, fun g => have g := beq_eq_false_iff_ne.1 g; ?_⟩ <;> conv => whnf
        · have g : (partsL l).length = 2 := by omega
          have hx1 := hp0 _ (getD_mem (d := default) (show 1 < (partsL l).length by omega))
          repeat (first | (refine ite_f (by first | with_reducible rfl | assumption | (simp; done) | fail) ?_; conv => whnf) | (refine ite_t (by first | with_reducible rfl | assumption | (simp; done) | fail) ?_; conv => whnf) | (refine ⟨by first | omega | (show _ ∧ _; omega) | ((repeat (first | rw [ByteArray.size_append] | rw [bsz] | rw [List.size_toArray] | rw [List.length_cons] | rw [List.length_nil])) <;> omega) | ((repeat rw [Int.toNat_natCast]) <;> first | omega | (show _ ∧ _; omega)) | (simp only; omega) | (simp only; first | omega | (show _ ∧ _; omega)) | decide, ?_⟩; conv => whnf))
          (repeat (refine ⟨by first | omega | (show _ ∧ _; omega) | ((repeat (first | rw [ByteArray.size_append] | rw [bsz] | rw [List.size_toArray] | rw [List.length_cons] | rw [List.length_nil])) <;> omega) | ((repeat rw [Int.toNat_natCast]) <;> first | omega | (show _ ∧ _; omega)) | (simp only; omega) | (simp only; first | omega | (show _ ∧ _; omega)) | decide, ?_⟩; conv => whnf))
          refine ⟨fun g2 => ?_, fun g2 => ?_⟩ <;> conv => whnf
          · have g2 : word0 l = (⟨#[102, 97, 105, 114]⟩ : ByteArray) := ba_eq g2
            repeat (first | (refine ite_f (by first | with_reducible rfl | assumption | (simp; done) | fail) ?_; conv => whnf) | (refine ite_t (by first | with_reducible rfl | assumption | (simp; done) | fail) ?_; conv => whnf) | (refine ⟨by first | omega | (show _ ∧ _; omega) | ((repeat (first | rw [ByteArray.size_append] | rw [bsz] | rw [List.size_toArray] | rw [List.length_cons] | rw [List.length_nil])) <;> omega) | ((repeat rw [Int.toNat_natCast]) <;> first | omega | (show _ ∧ _; omega)) | (simp only [ByteArray.size_append, bsz, List.size_toArray, List.length_cons, List.length_nil]; omega) | (simp only [Int.toNat_natCast]; first | omega | (show _ ∧ _; omega)) | decide, ?_⟩; conv => whnf))
            (repeat (refine ⟨by first | omega | (show _ ∧ _; omega) | ((repeat (first | rw [ByteArray.size_append] | rw [bsz] | rw [List.size_toArray] | rw [List.length_cons] | rw [List.length_nil])) <;> omega) | ((repeat rw [Int.toNat_natCast]) <;> first | omega | (show _ ∧ _; omega)) | (simp only [ByteArray.size_append, bsz, List.size_toArray, List.length_cons, List.length_nil]; omega) | (simp only [Int.toNat_natCast]; first | omega | (show _ ∧ _; omega)) | decide, ?_⟩; conv => whnf))
            refine callR (specReadDecimal ((partsL l).getD 1 default) (by omega)) rfl (go tbl_ok false ?_)
            conv => whnf
            refine ⟨fun g3 => ?_, fun g3 => ?_⟩ <;> conv => whnf
            · have g3 : rdB ((partsL l).getD 1 default) = false := by simpa using g3
              repeat (first | (refine ite_f (by first | with_reducible rfl | assumption | (simp; done) | fail) ?_; conv => whnf) | (refine ite_t (by first | with_reducible rfl | assumption | (simp; done) | fail) ?_; conv => whnf) | (refine ⟨by first | omega | (show _ ∧ _; omega) | ((repeat (first | rw [ByteArray.size_append] | rw [bsz] | rw [List.size_toArray] | rw [List.length_cons] | rw [List.length_nil])) <;> omega) | ((repeat rw [Int.toNat_natCast]) <;> first | omega | (show _ ∧ _; omega)) | (simp only [ByteArray.size_append, bsz, List.size_toArray, List.length_cons, List.length_nil]; omega) | (simp only [Int.toNat_natCast]; first | omega | (show _ ∧ _; omega)) | decide, ?_⟩; conv => whnf))
              exact retP tbl_ok (s, false) (falls_no hf (fun h => by have := h.2.2.2.1; rw [g3] at this; cases this)) rfl rfl rfl rfl (by repeat' (first | exact trivial | exact outC_val _ _ | exact rfl | exact .inr ⟨rfl, rfl, _, _, rfl⟩ | refine ⟨?_, ?_⟩))
            · have g3 : rdB ((partsL l).getD 1 default) = true := by simpa using g3
              repeat (first | (refine ite_f (by first | with_reducible rfl | assumption | (simp; done) | fail) ?_; conv => whnf) | (refine ite_t (by first | with_reducible rfl | assumption | (simp; done) | fail) ?_; conv => whnf) | (refine ⟨by first | omega | (show _ ∧ _; omega) | ((repeat (first | rw [ByteArray.size_append] | rw [bsz] | rw [List.size_toArray] | rw [List.length_cons] | rw [List.length_nil])) <;> omega) | ((repeat rw [Int.toNat_natCast]) <;> first | omega | (show _ ∧ _; omega)) | (simp only; omega) | (simp only; first | omega | (show _ ∧ _; omega)) | decide, ?_⟩; conv => whnf))
              refine ⟨fun g4 => have g4 := of_decide_eq_true g4; ?_, fun g4 => have g4 := of_decide_eq_false g4; ?_⟩ <;> conv => whnf
              · repeat (first | (refine ite_f (by first | with_reducible rfl | assumption | (simp; done) | fail) ?_; conv => whnf) | (refine ite_t (by first | with_reducible rfl | assumption | (simp; done) | fail) ?_; conv => whnf) | (refine ⟨by first | omega | (show _ ∧ _; omega) | ((repeat (first | rw [ByteArray.size_append] | rw [bsz] | rw [List.size_toArray] | rw [List.length_cons] | rw [List.length_nil])) <;> omega) | ((repeat rw [Int.toNat_natCast]) <;> first | omega | (show _ ∧ _; omega)) | (simp only [ByteArray.size_append, bsz, List.size_toArray, List.length_cons, List.length_nil]; omega) | (simp only [Int.toNat_natCast]; first | omega | (show _ ∧ _; omega)) | decide, ?_⟩; conv => whnf))
                exact retP tbl_ok (s, false) (falls_no hf (fun h => by have := h.2.2.2.2; omega)) rfl rfl rfl rfl (by repeat' (first | exact trivial | exact outC_val _ _ | exact rfl | exact .inr ⟨rfl, rfl, _, _, rfl⟩ | refine ⟨?_, ?_⟩))
              · repeat (first | (refine ite_f (by first | with_reducible rfl | assumption | (simp; done) | fail) ?_; conv => whnf) | (refine ite_t (by first | with_reducible rfl | assumption | (simp; done) | fail) ?_; conv => whnf) | (refine ⟨by first | omega | (show _ ∧ _; omega) | ((repeat (first | rw [ByteArray.size_append] | rw [bsz] | rw [List.size_toArray] | rw [List.length_cons] | rw [List.length_nil])) <;> omega) | ((repeat rw [Int.toNat_natCast]) <;> first | omega | (show _ ∧ _; omega)) | (simp only [ByteArray.size_append, bsz, List.size_toArray, List.length_cons, List.length_nil]; omega) | (simp only [Int.toNat_natCast]; first | omega | (show _ ∧ _; omega)) | decide, ?_⟩; conv => whnf))
                exact retP tbl_ok (⟨s.graph, s.inputs, s.picks, rdN ((partsL l).getD 1 default)⟩, true) (falls_yes hf ⟨hpt, g, g2, g3, by omega⟩) rfl rfl rfl rfl (by repeat' (first | exact trivial | exact outC_val _ _ | exact rfl | exact .inr ⟨rfl, rfl, _, _, rfl⟩ | refine ⟨?_, ?_⟩))
          · have g2 : word0 l ≠ (⟨#[102, 97, 105, 114]⟩ : ByteArray) := fun e => by rw [show (partsL l).getD (Int.toNat 0) default = (⟨#[102, 97, 105, 114]⟩ : ByteArray) from e, ba_self] at g2; cases g2
            repeat (first | (refine ite_f (by first | with_reducible rfl | assumption | (simp; done) | fail) ?_; conv => whnf) | (refine ite_t (by first | with_reducible rfl | assumption | (simp; done) | fail) ?_; conv => whnf) | (refine ⟨by first | omega | (show _ ∧ _; omega) | ((repeat (first | rw [ByteArray.size_append] | rw [bsz] | rw [List.size_toArray] | rw [List.length_cons] | rw [List.length_nil])) <;> omega) | ((repeat rw [Int.toNat_natCast]) <;> first | omega | (show _ ∧ _; omega)) | (simp only [ByteArray.size_append, bsz, List.size_toArray, List.length_cons, List.length_nil]; omega) | (simp only [Int.toNat_natCast]; first | omega | (show _ ∧ _; omega)) | decide, ?_⟩; conv => whnf))
            exact retP tbl_ok (s, false) (falls_no hf (fun h => g2 h.2.2.1)) rfl rfl rfl rfl (by repeat' (first | exact trivial | exact outC_val _ _ | exact rfl | exact .inr ⟨rfl, rfl, _, _, rfl⟩ | refine ⟨?_, ?_⟩))
        · repeat (first | (refine ite_f (by first | with_reducible rfl | assumption | (simp; done) | fail) ?_; conv => whnf) | (refine ite_t (by first | with_reducible rfl | assumption | (simp; done) | fail) ?_; conv => whnf) | (refine ⟨by first | omega | (show _ ∧ _; omega) | ((repeat (first | rw [ByteArray.size_append] | rw [bsz] | rw [List.size_toArray] | rw [List.length_cons] | rw [List.length_nil])) <;> omega) | ((repeat rw [Int.toNat_natCast]) <;> first | omega | (show _ ∧ _; omega)) | (simp only [ByteArray.size_append, bsz, List.size_toArray, List.length_cons, List.length_nil]; omega) | (simp only [Int.toNat_natCast]; first | omega | (show _ ∧ _; omega)) | decide, ?_⟩; conv => whnf))
          exact retP tbl_ok (s, false) (falls_no hf (fun h => by have := h.2.1; omega)) rfl rfl rfl rfl (by repeat' (first | exact trivial | exact outC_val _ _ | exact rfl | exact .inr ⟨rfl, rfl, _, _, rfl⟩ | refine ⟨?_, ?_⟩))

end Go.Proofs.YtcpjpkcahnldfaaGreatDoor
