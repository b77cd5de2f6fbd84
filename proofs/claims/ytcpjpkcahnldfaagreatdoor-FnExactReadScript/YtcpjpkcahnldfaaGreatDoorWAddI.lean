/- Texts for the law FnExactReadScript: WAddI. No conditions. -/
import Derived.Test.YtcpjpkcahnldfaaGreatDoorWAdd
import Derived.Test.YtcpjpkcahnldfaaGreatDoorWRnd3
import Derived.Test.YtcpjpkcahnldfaaGreatDoorWNums2

set_option maxRecDepth 100000
namespace Go.Proofs.YtcpjpkcahnldfaaGreatDoor
open Go.Sx
def AddC (s : GScript) (l : ByteArray) (r : GScript × Bool) : Prop := r.2 = addB s l ∧ (addB s l = true → r.1 = addS s l)
theorem addC_node {s : GScript} {l : ByteArray} (c : readNodeB l = true) : AddC s l (⟨⟨s.graph.nodes ++ [readNodeV l], s.graph.workers, s.graph.cap⟩, s.inputs, s.picks, s.rounds⟩, decide (((s.graph.nodes ++ [readNodeV l]).length : Int) ≤ 8)) := by
  refine ⟨?_, fun _ => by rw [addS, if_pos c]⟩
  rw [addB, if_pos c, List.length_append, List.length_singleton]
  exact decide_eq_decide.2 (by omega)
theorem addC_in {s : GScript} {l : ByteArray} (c : readInB l = true) (cn : readNodeB l = false) : AddC s l (⟨s.graph, s.inputs ++ [readInV l], s.picks, s.rounds⟩, decide (((s.inputs ++ [readInV l]).length : Int) ≤ 20)) := by
  refine ⟨?_, fun _ => by rw [addS, if_neg (by rw [cn]; decide), if_pos c]⟩
  rw [addB, if_neg (by rw [cn]; decide), if_pos c, List.length_append, List.length_singleton]
  exact decide_eq_decide.2 (by omega)
theorem addC_pick {s : GScript} {l : ByteArray} (c : readPickB l = true) (cn : readNodeB l = false) (ci : readInB l = false) : AddC s l (⟨s.graph, s.inputs, s.picks ++ [readPickV l], s.rounds⟩, decide (((s.picks ++ [readPickV l]).length : Int) ≤ 200)) := by
  refine ⟨?_, fun _ => by rw [addS, if_neg (by rw [cn]; decide), if_neg (by rw [ci]; decide), if_pos c]⟩
  rw [addB, if_neg (by rw [cn]; decide), if_neg (by rw [ci]; decide), if_pos c, List.length_append, List.length_singleton]
  exact decide_eq_decide.2 (by omega)
theorem addC_no {s : GScript} {l : ByteArray} (h : Falls s l) (hf : ¬ FairP l) : AddC s l (s, false) := by
  refine ⟨by rw [h.1, decide_eq_false hf], fun c => ?_⟩
  rw [h.1, decide_eq_false hf] at c
  cases c
theorem addC_yes {s : GScript} {l : ByteArray} (h : Falls s l) (hf : FairP l) : AddC s l (⟨s.graph, s.inputs, s.picks, rdN ((partsL l).getD 1 default)⟩, true) :=
  ⟨by rw [h.1, decide_eq_true hf], fun _ => (h.2 hf).symm⟩
theorem okR_fair {l : ByteArray} (h : FairP l) : okR l 1 = true := by
  obtain ⟨h1, h2, _, h4, _⟩ := h
  rw [okR, h1, decide_eq_true (by omega : 1 ≤ (partsL l).length), numsB]
  generalize partsL l = p at h2 h4
  match p, h2 with
  | [a, b], _ =>
    simp only [List.drop_succ_cons, List.drop_zero, List.all_cons, List.all_nil, Bool.and_true]
    exact h4
theorem okR_two {l : ByteArray} (h : okR l 1 = true) (hn : (numsR l 1).length = 1) : partsB l = true ∧ (partsL l).length = 2 ∧ rdB ((partsL l).getD 1 default) = true ∧ numsR l 1 = [rdN ((partsL l).getD 1 default)] := by
  have hi := (okR_is h).1
  rw [hi] at hn ⊢
  rw [okR, Bool.and_eq_true, Bool.and_eq_true] at h
  obtain ⟨⟨h1, h2⟩, h3⟩ := h
  rw [numsL_len] at hn
  have hl : (partsL l).length = 2 := by have := of_decide_eq_true h2; omega
  rw [numsB] at h3
  rw [numsL]
  refine ⟨h1, hl, ?_⟩
  generalize partsL l = p at hl h3
  match p, hl with
  | [a, b], _ =>
    simp only [List.drop_succ_cons, List.drop_zero, List.all_cons, List.all_nil, Bool.and_true] at h3
    exact ⟨h3, rfl⟩
set_option maxHeartbeats 2000000 in
theorem implAdd (s : GScript) (l : ByteArray) (hs : ScOk s) (hl : l.size ≤ 1048576) : MeetsC Tryz.prog Tab 39 [] [.agg s.c] [.one (vs l)] (AddC s l) (fun r => [.agg r.1.c, .one (vb r.2)]) := by
  obtain ⟨n1, n2, n3, n4⟩ := hs
  refine enterC tbl_ok false Tryz.func39 rfl (by decide) fun B hH hp => ?_
  conv => whnf
  conv => whnf
  refine callWH (implReadNode l hl) hH rfl (go tbl_ok false ?_)
  conv => whnf
  refine ⟨fun c => ?_, fun c => ?_⟩ <;> conv => whnf
  · refine buildW tbl_ok rfl rfl rfl rfl rfl rfl rfl rfl rfl (go tbl_ok false ?_)
    conv => whnf
    refine appW tbl_ok rfl rfl rfl rfl rfl rfl rfl rfl rfl rfl rfl (sGNode (s.graph.nodes ++ [readNodeV l])) (slC_snoc rfl) (by intro h; cases h) (by omega) (go tbl_ok false ?_)
    conv => whnf
    refine drawA rfl ?_
    refine preA tbl_ok false 1 rfl rfl rfl (by kernel_rfl) rfl (andL_mem (by repeat' (first | exact trivial | refine ⟨?_, ?_⟩ | (show _ ∧ _; omega) | omega))) ?_
    refine preA tbl_ok false 2 rfl rfl rfl (by kernel_rfl) rfl (andL_mem (by repeat' (first | exact trivial | refine ⟨?_, ?_⟩ | (show _ ∧ _; omega) | omega))) ?_
    refine splitA [0, 3] (by kernel_rfl) ⟨?_, ?_, trivial⟩
    focus
      refine go tbl_ok false ?_
      conv => whnf
      refine loopA ?_
      refine splitA [3, 6] (by kernel_rfl) ⟨?_, ?_, trivial⟩
      focus
        refine go tbl_ok false ?_
        conv => whnf
        refine loopA ?_
        refine splitA [4, 6] (by kernel_rfl) ⟨?_, ?_, trivial⟩
        focus
          refine go tbl_ok false ?_
          conv => whnf
          refine loopA ?_
          refine preA tbl_ok false 5 rfl rfl rfl (by kernel_rfl) rfl (andL_mem (by repeat' (first | exact trivial | refine ⟨?_, ?_⟩ | (show _ ∧ _; omega) | omega))) ?_
          refine splitA [6] (by kernel_rfl) ⟨?_, trivial⟩
          refine go tbl_ok false ?_
          conv => whnf
          refine loopA ?_
          refine preA tbl_ok false 7 rfl rfl rfl (by kernel_rfl) rfl (andL_mem (by repeat' (first | exact trivial | refine ⟨?_, ?_⟩ | (show _ ∧ _; omega) | omega))) ?_
          refine doneA (by kernel_rfl) (go tbl_ok false ?_)
          conv => whnf
        rotate_left 1
        focus
          refine go tbl_ok false ?_
          conv => whnf
          refine loopA ?_
          refine splitA [4] (by kernel_rfl) ⟨?_, trivial⟩
          refine go tbl_ok false ?_
          conv => whnf
          refine loopA ?_
          refine preA tbl_ok false 5 rfl rfl rfl (by kernel_rfl) rfl (andL_mem (by repeat' (first | exact trivial | refine ⟨?_, ?_⟩ | (show _ ∧ _; omega) | omega))) ?_
          refine preA tbl_ok false 7 rfl rfl rfl (by kernel_rfl) rfl (andL_mem (by repeat' (first | exact trivial | refine ⟨?_, ?_⟩ | (show _ ∧ _; omega) | omega))) ?_
          refine doneA (by kernel_rfl) (go tbl_ok false ?_)
          conv => whnf
      rotate_left 2
      focus
        refine go tbl_ok false ?_
        conv => whnf
        refine loopA ?_
        refine splitA [3] (by kernel_rfl) ⟨?_, trivial⟩
        refine go tbl_ok false ?_
        conv => whnf
        refine loopA ?_
        refine splitA [4] (by kernel_rfl) ⟨?_, trivial⟩
        refine go tbl_ok false ?_
        conv => whnf
        refine loopA ?_
        refine preA tbl_ok false 5 rfl rfl rfl (by kernel_rfl) rfl (andL_mem (by repeat' (first | exact trivial | refine ⟨?_, ?_⟩ | (show _ ∧ _; omega) | omega))) ?_
        refine preA tbl_ok false 7 rfl rfl rfl (by kernel_rfl) rfl (andL_mem (by repeat' (first | exact trivial | refine ⟨?_, ?_⟩ | (show _ ∧ _; omega) | omega))) ?_
        refine doneA (by kernel_rfl) (go tbl_ok false ?_)
        conv => whnf
    rotate_left 3
    focus
      refine go tbl_ok false ?_
      conv => whnf
      refine loopA ?_
      refine splitA [0, 4] (by kernel_rfl) ⟨?_, ?_, trivial⟩
      focus
        refine go tbl_ok false ?_
        conv => whnf
        refine loopA ?_
        refine splitA [4, 6] (by kernel_rfl) ⟨?_, ?_, trivial⟩
        focus
          refine go tbl_ok false ?_
          conv => whnf
          refine loopA ?_
          refine preA tbl_ok false 5 rfl rfl rfl (by kernel_rfl) rfl (andL_mem (by repeat' (first | exact trivial | refine ⟨?_, ?_⟩ | (show _ ∧ _; omega) | omega))) ?_
          refine splitA [6] (by kernel_rfl) ⟨?_, trivial⟩
          refine go tbl_ok false ?_
          conv => whnf
          refine loopA ?_
          refine preA tbl_ok false 7 rfl rfl rfl (by kernel_rfl) rfl (andL_mem (by repeat' (first | exact trivial | refine ⟨?_, ?_⟩ | (show _ ∧ _; omega) | omega))) ?_
          refine doneA (by kernel_rfl) (go tbl_ok false ?_)
          conv => whnf
        rotate_left 1
        focus
          refine go tbl_ok false ?_
          conv => whnf
          refine loopA ?_
          refine splitA [4] (by kernel_rfl) ⟨?_, trivial⟩
          refine go tbl_ok false ?_
          conv => whnf
          refine loopA ?_
          refine preA tbl_ok false 5 rfl rfl rfl (by kernel_rfl) rfl (andL_mem (by repeat' (first | exact trivial | refine ⟨?_, ?_⟩ | (show _ ∧ _; omega) | omega))) ?_
          refine preA tbl_ok false 7 rfl rfl rfl (by kernel_rfl) rfl (andL_mem (by repeat' (first | exact trivial | refine ⟨?_, ?_⟩ | (show _ ∧ _; omega) | omega))) ?_
          refine doneA (by kernel_rfl) (go tbl_ok false ?_)
          conv => whnf
      rotate_left 2
      focus
        refine go tbl_ok false ?_
        conv => whnf
        refine loopA ?_
        refine preA tbl_ok false 5 rfl rfl rfl (by kernel_rfl) rfl (andL_mem (by repeat' (first | exact trivial | refine ⟨?_, ?_⟩ | (show _ ∧ _; omega) | omega))) ?_
        refine splitA [0] (by kernel_rfl) ⟨?_, trivial⟩
        refine go tbl_ok false ?_
        conv => whnf
        refine loopA ?_
        refine splitA [6] (by kernel_rfl) ⟨?_, trivial⟩
        refine go tbl_ok false ?_
        conv => whnf
        refine loopA ?_
        refine preA tbl_ok false 7 rfl rfl rfl (by kernel_rfl) rfl (andL_mem (by repeat' (first | exact trivial | refine ⟨?_, ?_⟩ | (show _ ∧ _; omega) | omega))) ?_
        refine doneA (by kernel_rfl) (go tbl_ok false ?_)
        conv => whnf
    all_goals exact retC tbl_ok (⟨⟨s.graph.nodes ++ [readNodeV l], s.graph.workers, s.graph.cap⟩, s.inputs, s.picks, s.rounds⟩, _) (addC_node c) rfl rfl (by repeat' (first | exact trivial | exact outC_val _ _ | exact rfl | exact .inr ⟨rfl, rfl, _, _, rfl⟩ | refine ⟨?_, ?_⟩))
  · have c : readNodeB l = false := by simpa using c
    refine callWH (implReadInput l hl) hH rfl (go tbl_ok false ?_)
    conv => whnf
    refine ⟨fun c1 => ?_, fun c1 => ?_⟩ <;> conv => whnf
    · refine appW tbl_ok rfl rfl rfl rfl rfl rfl rfl rfl rfl rfl rfl (sGRecord (s.inputs ++ [readInV l])) (slC_snoc rfl) (by intro h; cases h) (by omega) (go tbl_ok false ?_)
      conv => whnf
      refine drawA rfl ?_
      refine preA tbl_ok false 1 rfl rfl rfl (by kernel_rfl) rfl (andL_mem (by repeat' (first | exact trivial | refine ⟨?_, ?_⟩ | (show _ ∧ _; omega) | omega))) ?_
      refine splitA [0, 2] (by kernel_rfl) ⟨?_, ?_, trivial⟩
      focus
        refine go tbl_ok false ?_
        conv => whnf
        refine loopA ?_
        refine splitA [2, 5] (by kernel_rfl) ⟨?_, ?_, trivial⟩
        focus
          refine go tbl_ok false ?_
          conv => whnf
          refine loopA ?_
          refine splitA [3, 5] (by kernel_rfl) ⟨?_, ?_, trivial⟩
          focus
            refine go tbl_ok false ?_
            conv => whnf
            refine loopA ?_
            refine preA tbl_ok false 4 rfl rfl rfl (by kernel_rfl) rfl (andL_mem (by repeat' (first | exact trivial | refine ⟨?_, ?_⟩ | (show _ ∧ _; omega) | omega))) ?_
            refine splitA [5] (by kernel_rfl) ⟨?_, trivial⟩
            refine go tbl_ok false ?_
            conv => whnf
            refine loopA ?_
            refine preA tbl_ok false 6 rfl rfl rfl (by kernel_rfl) rfl (andL_mem (by repeat' (first | exact trivial | refine ⟨?_, ?_⟩ | (show _ ∧ _; omega) | omega))) ?_
            refine doneA (by kernel_rfl) (go tbl_ok false ?_)
            conv => whnf
          rotate_left 1
          focus
            refine go tbl_ok false ?_
            conv => whnf
            refine loopA ?_
            refine splitA [3] (by kernel_rfl) ⟨?_, trivial⟩
            refine go tbl_ok false ?_
            conv => whnf
            refine loopA ?_
            refine preA tbl_ok false 4 rfl rfl rfl (by kernel_rfl) rfl (andL_mem (by repeat' (first | exact trivial | refine ⟨?_, ?_⟩ | (show _ ∧ _; omega) | omega))) ?_
            refine preA tbl_ok false 6 rfl rfl rfl (by kernel_rfl) rfl (andL_mem (by repeat' (first | exact trivial | refine ⟨?_, ?_⟩ | (show _ ∧ _; omega) | omega))) ?_
            refine doneA (by kernel_rfl) (go tbl_ok false ?_)
            conv => whnf
        rotate_left 2
        focus
          refine go tbl_ok false ?_
          conv => whnf
          refine loopA ?_
          refine splitA [2] (by kernel_rfl) ⟨?_, trivial⟩
          refine go tbl_ok false ?_
          conv => whnf
          refine loopA ?_
          refine splitA [3] (by kernel_rfl) ⟨?_, trivial⟩
          refine go tbl_ok false ?_
          conv => whnf
          refine loopA ?_
          refine preA tbl_ok false 4 rfl rfl rfl (by kernel_rfl) rfl (andL_mem (by repeat' (first | exact trivial | refine ⟨?_, ?_⟩ | (show _ ∧ _; omega) | omega))) ?_
          refine preA tbl_ok false 6 rfl rfl rfl (by kernel_rfl) rfl (andL_mem (by repeat' (first | exact trivial | refine ⟨?_, ?_⟩ | (show _ ∧ _; omega) | omega))) ?_
          refine doneA (by kernel_rfl) (go tbl_ok false ?_)
          conv => whnf
      rotate_left 3
      focus
        refine go tbl_ok false ?_
        conv => whnf
        refine loopA ?_
        refine splitA [0, 3] (by kernel_rfl) ⟨?_, ?_, trivial⟩
        focus
          refine go tbl_ok false ?_
          conv => whnf
          refine loopA ?_
          refine splitA [3, 5] (by kernel_rfl) ⟨?_, ?_, trivial⟩
          focus
            refine go tbl_ok false ?_
            conv => whnf
            refine loopA ?_
            refine preA tbl_ok false 4 rfl rfl rfl (by kernel_rfl) rfl (andL_mem (by repeat' (first | exact trivial | refine ⟨?_, ?_⟩ | (show _ ∧ _; omega) | omega))) ?_
            refine splitA [5] (by kernel_rfl) ⟨?_, trivial⟩
            refine go tbl_ok false ?_
            conv => whnf
            refine loopA ?_
            refine preA tbl_ok false 6 rfl rfl rfl (by kernel_rfl) rfl (andL_mem (by repeat' (first | exact trivial | refine ⟨?_, ?_⟩ | (show _ ∧ _; omega) | omega))) ?_
            refine doneA (by kernel_rfl) (go tbl_ok false ?_)
            conv => whnf
          rotate_left 1
          focus
            refine go tbl_ok false ?_
            conv => whnf
            refine loopA ?_
            refine splitA [3] (by kernel_rfl) ⟨?_, trivial⟩
            refine go tbl_ok false ?_
            conv => whnf
            refine loopA ?_
            refine preA tbl_ok false 4 rfl rfl rfl (by kernel_rfl) rfl (andL_mem (by repeat' (first | exact trivial | refine ⟨?_, ?_⟩ | (show _ ∧ _; omega) | omega))) ?_
            refine preA tbl_ok false 6 rfl rfl rfl (by kernel_rfl) rfl (andL_mem (by repeat' (first | exact trivial | refine ⟨?_, ?_⟩ | (show _ ∧ _; omega) | omega))) ?_
            refine doneA (by kernel_rfl) (go tbl_ok false ?_)
            conv => whnf
        rotate_left 2
        focus
          refine go tbl_ok false ?_
          conv => whnf
          refine loopA ?_
          refine preA tbl_ok false 4 rfl rfl rfl (by kernel_rfl) rfl (andL_mem (by repeat' (first | exact trivial | refine ⟨?_, ?_⟩ | (show _ ∧ _; omega) | omega))) ?_
          refine splitA [0] (by kernel_rfl) ⟨?_, trivial⟩
          refine go tbl_ok false ?_
          conv => whnf
          refine loopA ?_
          refine splitA [5] (by kernel_rfl) ⟨?_, trivial⟩
          refine go tbl_ok false ?_
          conv => whnf
          refine loopA ?_
          refine preA tbl_ok false 6 rfl rfl rfl (by kernel_rfl) rfl (andL_mem (by repeat' (first | exact trivial | refine ⟨?_, ?_⟩ | (show _ ∧ _; omega) | omega))) ?_
          refine doneA (by kernel_rfl) (go tbl_ok false ?_)
          conv => whnf
      all_goals exact retC tbl_ok (⟨s.graph, s.inputs ++ [readInV l], s.picks, s.rounds⟩, _) (addC_in c1 c) rfl rfl (by repeat' (first | exact trivial | exact outC_val _ _ | exact rfl | exact .inr ⟨rfl, rfl, _, _, rfl⟩ | refine ⟨?_, ?_⟩))
    · have c1 : readInB l = false := by simpa using c1
      refine callWH (implReadPick l hl) hH rfl (go tbl_ok false ?_)
      conv => whnf
      refine ⟨fun c2 => ?_, fun c2 => ?_⟩ <;> conv => whnf
      · refine appW tbl_ok rfl rfl rfl rfl rfl rfl rfl rfl rfl rfl rfl (sGPick (s.picks ++ [readPickV l])) (slC_snoc rfl) (by intro h; cases h) (by omega) (go tbl_ok false ?_)
        conv => whnf
        refine drawA rfl ?_
        refine preA tbl_ok false 1 rfl rfl rfl (by kernel_rfl) rfl (andL_mem (by repeat' (first | exact trivial | refine ⟨?_, ?_⟩ | (show _ ∧ _; omega) | omega))) ?_
        refine splitA [0, 2] (by kernel_rfl) ⟨?_, ?_, trivial⟩
        focus
          refine go tbl_ok false ?_
          conv => whnf
          refine loopA ?_
          refine splitA [2, 5] (by kernel_rfl) ⟨?_, ?_, trivial⟩
          focus
            refine go tbl_ok false ?_
            conv => whnf
            refine loopA ?_
            refine splitA [3, 5] (by kernel_rfl) ⟨?_, ?_, trivial⟩
            focus
              refine go tbl_ok false ?_
              conv => whnf
              refine loopA ?_
              refine preA tbl_ok false 4 rfl rfl rfl (by kernel_rfl) rfl (andL_mem (by repeat' (first | exact trivial | refine ⟨?_, ?_⟩ | (show _ ∧ _; omega) | omega))) ?_
              refine splitA [5] (by kernel_rfl) ⟨?_, trivial⟩
              refine go tbl_ok false ?_
              conv => whnf
              refine loopA ?_
              refine preA tbl_ok false 6 rfl rfl rfl (by kernel_rfl) rfl (andL_mem (by repeat' (first | exact trivial | refine ⟨?_, ?_⟩ | (show _ ∧ _; omega) | omega))) ?_
              refine doneA (by kernel_rfl) (go tbl_ok false ?_)
              conv => whnf
            rotate_left 1
            focus
              refine go tbl_ok false ?_
              conv => whnf
              refine loopA ?_
              refine splitA [3] (by kernel_rfl) ⟨?_, trivial⟩
              refine go tbl_ok false ?_
              conv => whnf
              refine loopA ?_
              refine preA tbl_ok false 4 rfl rfl rfl (by kernel_rfl) rfl (andL_mem (by repeat' (first | exact trivial | refine ⟨?_, ?_⟩ | (show _ ∧ _; omega) | omega))) ?_
              refine preA tbl_ok false 6 rfl rfl rfl (by kernel_rfl) rfl (andL_mem (by repeat' (first | exact trivial | refine ⟨?_, ?_⟩ | (show _ ∧ _; omega) | omega))) ?_
              refine doneA (by kernel_rfl) (go tbl_ok false ?_)
              conv => whnf
          rotate_left 2
          focus
            refine go tbl_ok false ?_
            conv => whnf
            refine loopA ?_
            refine splitA [2] (by kernel_rfl) ⟨?_, trivial⟩
            refine go tbl_ok false ?_
            conv => whnf
            refine loopA ?_
            refine splitA [3] (by kernel_rfl) ⟨?_, trivial⟩
            refine go tbl_ok false ?_
            conv => whnf
            refine loopA ?_
            refine preA tbl_ok false 4 rfl rfl rfl (by kernel_rfl) rfl (andL_mem (by repeat' (first | exact trivial | refine ⟨?_, ?_⟩ | (show _ ∧ _; omega) | omega))) ?_
            refine preA tbl_ok false 6 rfl rfl rfl (by kernel_rfl) rfl (andL_mem (by repeat' (first | exact trivial | refine ⟨?_, ?_⟩ | (show _ ∧ _; omega) | omega))) ?_
            refine doneA (by kernel_rfl) (go tbl_ok false ?_)
            conv => whnf
        rotate_left 3
        focus
          refine go tbl_ok false ?_
          conv => whnf
          refine loopA ?_
          refine splitA [0, 3] (by kernel_rfl) ⟨?_, ?_, trivial⟩
          focus
            refine go tbl_ok false ?_
            conv => whnf
            refine loopA ?_
            refine splitA [3, 5] (by kernel_rfl) ⟨?_, ?_, trivial⟩
            focus
              refine go tbl_ok false ?_
              conv => whnf
              refine loopA ?_
              refine preA tbl_ok false 4 rfl rfl rfl (by kernel_rfl) rfl (andL_mem (by repeat' (first | exact trivial | refine ⟨?_, ?_⟩ | (show _ ∧ _; omega) | omega))) ?_
              refine splitA [5] (by kernel_rfl) ⟨?_, trivial⟩
              refine go tbl_ok false ?_
              conv => whnf
              refine loopA ?_
              refine preA tbl_ok false 6 rfl rfl rfl (by kernel_rfl) rfl (andL_mem (by repeat' (first | exact trivial | refine ⟨?_, ?_⟩ | (show _ ∧ _; omega) | omega))) ?_
              refine doneA (by kernel_rfl) (go tbl_ok false ?_)
              conv => whnf
            rotate_left 1
            focus
              refine go tbl_ok false ?_
              conv => whnf
              refine loopA ?_
              refine splitA [3] (by kernel_rfl) ⟨?_, trivial⟩
              refine go tbl_ok false ?_
              conv => whnf
              refine loopA ?_
              refine preA tbl_ok false 4 rfl rfl rfl (by kernel_rfl) rfl (andL_mem (by repeat' (first | exact trivial | refine ⟨?_, ?_⟩ | (show _ ∧ _; omega) | omega))) ?_
              refine preA tbl_ok false 6 rfl rfl rfl (by kernel_rfl) rfl (andL_mem (by repeat' (first | exact trivial | refine ⟨?_, ?_⟩ | (show _ ∧ _; omega) | omega))) ?_
              refine doneA (by kernel_rfl) (go tbl_ok false ?_)
              conv => whnf
          rotate_left 2
          focus
            refine go tbl_ok false ?_
            conv => whnf
            refine loopA ?_
            refine preA tbl_ok false 4 rfl rfl rfl (by kernel_rfl) rfl (andL_mem (by repeat' (first | exact trivial | refine ⟨?_, ?_⟩ | (show _ ∧ _; omega) | omega))) ?_
            refine splitA [0] (by kernel_rfl) ⟨?_, trivial⟩
            refine go tbl_ok false ?_
            conv => whnf
            refine loopA ?_
            refine splitA [5] (by kernel_rfl) ⟨?_, trivial⟩
            refine go tbl_ok false ?_
            conv => whnf
            refine loopA ?_
            refine preA tbl_ok false 6 rfl rfl rfl (by kernel_rfl) rfl (andL_mem (by repeat' (first | exact trivial | refine ⟨?_, ?_⟩ | (show _ ∧ _; omega) | omega))) ?_
            refine doneA (by kernel_rfl) (go tbl_ok false ?_)
            conv => whnf
        all_goals exact retC tbl_ok (⟨s.graph, s.inputs, s.picks ++ [readPickV l], s.rounds⟩, _) (addC_pick c2 c c1) rfl rfl (by repeat' (first | exact trivial | exact outC_val _ _ | exact rfl | exact .inr ⟨rfl, rfl, _, _, rfl⟩ | refine ⟨?_, ?_⟩))
      · have c2 : readPickB l = false := by simpa using c2
        have hf := falls_none (s := s) c c1 c2
        refine callRH (implNumbersP l 1 hl (by decide)) hH rfl (go tbl_ok false ?_)
        conv => whnf
        refine ⟨fun g0 => ?_, fun g0 => ?_⟩ <;> conv => whnf
        · have g0 : okR l 1 = false := by simpa using g0
          repeat (first | (refine ite_f (by first | with_reducible rfl | assumption | (simp; done) | fail) ?_; conv => whnf) | (refine ite_t (by first | with_reducible rfl | assumption | (simp; done) | fail) ?_; conv => whnf) | (refine ⟨by first | omega | (show _ ∧ _; omega) | ((repeat (first | rw [ByteArray.size_append] | rw [bsz] | rw [List.size_toArray] | rw [List.length_cons] | rw [List.length_nil])) <;> omega) | ((repeat rw [Int.toNat_natCast]) <;> first | omega | (show _ ∧ _; omega)) | (simp only [ByteArray.size_append, bsz, List.size_toArray, List.length_cons, List.length_nil]; omega) | (simp only [Int.toNat_natCast]; first | omega | (show _ ∧ _; omega)) | decide, ?_⟩; conv => whnf))
          exact retC tbl_ok (s, false) (addC_no hf (fun h => by have := okR_fair h; rw [g0] at this; cases this)) rfl rfl (by repeat' (first | exact trivial | exact outC_val _ _ | exact rfl | exact .inr ⟨rfl, rfl, _, _, rfl⟩ | refine ⟨?_, ?_⟩))
        have g0 : okR l 1 = true := by simpa using g0
        have hpr := partsR_is g0
        have hnr := (okR_is g0).1
        repeat (first | (refine ite_f (by first | with_reducible rfl | assumption | (simp; done) | fail) ?_; conv => whnf) | (refine ite_t (by first | with_reducible rfl | assumption | (simp; done) | fail) ?_; conv => whnf) | (refine ⟨by first | omega | (show _ ∧ _; omega) | ((repeat (first | rw [ByteArray.size_append] | rw [bsz] | rw [List.size_toArray] | rw [List.length_cons] | rw [List.length_nil])) <;> omega) | ((repeat rw [Int.toNat_natCast]) <;> first | omega | (show _ ∧ _; omega)) | (simp only [ByteArray.size_append, bsz, List.size_toArray, List.length_cons, List.length_nil]; omega) | (simp only [Int.toNat_natCast]; first | omega | (show _ ∧ _; omega)) | decide, ?_⟩; conv => whnf))
        refine ⟨fun g1 => have g1 := bne_iff_ne.1 g1; ?_, fun g1 => have g1 := bne_eq_false_iff_eq.1 g1; ?_⟩ <;> conv => whnf
        · have g1 : (numsR l 1).length ≠ 1 := by omega
          repeat (first | (refine ite_f (by first | with_reducible rfl | assumption | (simp; done) | fail) ?_; conv => whnf) | (refine ite_t (by first | with_reducible rfl | assumption | (simp; done) | fail) ?_; conv => whnf) | (refine ⟨by first | omega | (show _ ∧ _; omega) | ((repeat (first | rw [ByteArray.size_append] | rw [bsz] | rw [List.size_toArray] | rw [List.length_cons] | rw [List.length_nil])) <;> omega) | ((repeat rw [Int.toNat_natCast]) <;> first | omega | (show _ ∧ _; omega)) | (simp only [ByteArray.size_append, bsz, List.size_toArray, List.length_cons, List.length_nil]; omega) | (simp only [Int.toNat_natCast]; first | omega | (show _ ∧ _; omega)) | decide, ?_⟩; conv => whnf))
          exact retC tbl_ok (s, false) (addC_no hf (fun h => g1 (by rw [hnr, numsL_len, h.2.1]))) rfl rfl (by repeat' (first | exact trivial | exact outC_val _ _ | exact rfl | exact .inr ⟨rfl, rfl, _, _, rfl⟩ | refine ⟨?_, ?_⟩))
        have g1 : (numsR l 1).length = 1 := by omega
        obtain ⟨p1, p2, p3, p4⟩ := okR_two g0 g1
        have hpl : (partsR l 1).length = 2 := by rw [hpr]; exact p2
        have hn0 : (numsR l 1).getD 0 default = rdN ((partsL l).getD 1 default) := by rw [p4]; rfl
        repeat (first | (refine ite_f (by first | with_reducible rfl | assumption | (simp; done) | fail) ?_; conv => whnf) | (refine ite_t (by first | with_reducible rfl | assumption | (simp; done) | fail) ?_; conv => whnf) | (refine ⟨by first | omega | (show _ ∧ _; omega) | ((repeat (first | rw [ByteArray.size_append] | rw [bsz] | rw [List.size_toArray] | rw [List.length_cons] | rw [List.length_nil])) <;> omega) | ((repeat rw [Int.toNat_natCast]) <;> first | omega | (show _ ∧ _; omega)) | (simp only [ByteArray.size_append, bsz, List.size_toArray, List.length_cons, List.length_nil]; omega) | (simp only [Int.toNat_natCast]; first | omega | (show _ ∧ _; omega)) | decide, ?_⟩; conv => whnf))
        (repeat (refine ⟨by first | omega | (show _ ∧ _; omega) | ((repeat (first | rw [ByteArray.size_append] | rw [bsz] | rw [List.size_toArray] | rw [List.length_cons] | rw [List.length_nil])) <;> omega) | ((repeat rw [Int.toNat_natCast]) <;> first | omega | (show _ ∧ _; omega)) | (simp only [ByteArray.size_append, bsz, List.size_toArray, List.length_cons, List.length_nil]; omega) | (simp only [Int.toNat_natCast]; first | omega | (show _ ∧ _; omega)) | decide, ?_⟩; conv => whnf))
        refine ⟨fun g2 => ?_, fun g2 => ?_⟩ <;> conv => whnf
        · have g2 : word0 l ≠ (⟨#[102, 97, 105, 114]⟩ : ByteArray) := fun e => by
            rw [hpr, show (partsL l).getD (Int.toNat 0) default = (⟨#[102, 97, 105, 114]⟩ : ByteArray) from e, ba_self] at g2
            cases g2
          repeat (first | (refine ite_f (by first | with_reducible rfl | assumption | (simp; done) | fail) ?_; conv => whnf) | (refine ite_t (by first | with_reducible rfl | assumption | (simp; done) | fail) ?_; conv => whnf) | (refine ⟨by first | omega | (show _ ∧ _; omega) | ((repeat (first | rw [ByteArray.size_append] | rw [bsz] | rw [List.size_toArray] | rw [List.length_cons] | rw [List.length_nil])) <;> omega) | ((repeat rw [Int.toNat_natCast]) <;> first | omega | (show _ ∧ _; omega)) | (simp only [ByteArray.size_append, bsz, List.size_toArray, List.length_cons, List.length_nil]; omega) | (simp only [Int.toNat_natCast]; first | omega | (show _ ∧ _; omega)) | decide, ?_⟩; conv => whnf))
          exact retC tbl_ok (s, false) (addC_no hf (fun h => g2 h.2.2.1)) rfl rfl (by repeat' (first | exact trivial | exact outC_val _ _ | exact rfl | exact .inr ⟨rfl, rfl, _, _, rfl⟩ | refine ⟨?_, ?_⟩))
        have g2 : word0 l = (⟨#[102, 97, 105, 114]⟩ : ByteArray) := by
          have := ba_eq (by simpa using g2 : _ = true)
          rw [hpr] at this
          exact this
        repeat (first | (refine ite_f (by first | with_reducible rfl | assumption | (simp; done) | fail) ?_; conv => whnf) | (refine ite_t (by first | with_reducible rfl | assumption | (simp; done) | fail) ?_; conv => whnf) | (refine ⟨by first | omega | (show _ ∧ _; omega) | ((repeat (first | rw [ByteArray.size_append] | rw [bsz] | rw [List.size_toArray] | rw [List.length_cons] | rw [List.length_nil])) <;> omega) | ((repeat rw [Int.toNat_natCast]) <;> first | omega | (show _ ∧ _; omega)) | (simp only [ByteArray.size_append, bsz, List.size_toArray, List.length_cons, List.length_nil]; omega) | (simp only [Int.toNat_natCast]; first | omega | (show _ ∧ _; omega)) | decide, ?_⟩; conv => whnf))
        (repeat (refine ⟨by first | omega | (show _ ∧ _; omega) | ((repeat (first | rw [ByteArray.size_append] | rw [bsz] | rw [List.size_toArray] | rw [List.length_cons] | rw [List.length_nil])) <;> omega) | ((repeat rw [Int.toNat_natCast]) <;> first | omega | (show _ ∧ _; omega)) | (simp only [ByteArray.size_append, bsz, List.size_toArray, List.length_cons, List.length_nil]; omega) | (simp only [Int.toNat_natCast]; first | omega | (show _ ∧ _; omega)) | decide, ?_⟩; conv => whnf))
        refine ⟨fun g3 => have g3 := of_decide_eq_true g3; ?_, fun g3 => have g3 := of_decide_eq_false g3; ?_⟩ <;> conv => whnf
        · have g3 : ¬ FairP l := fun h => by
            have h5 := h.2.2.2.2
            rw [← hn0] at h5
            exact absurd g3 (Int.not_lt.2 h5)
          repeat (first | (refine ite_f (by first | with_reducible rfl | assumption | (simp; done) | fail) ?_; conv => whnf) | (refine ite_t (by first | with_reducible rfl | assumption | (simp; done) | fail) ?_; conv => whnf) | (refine ⟨by first | omega | (show _ ∧ _; omega) | ((repeat (first | rw [ByteArray.size_append] | rw [bsz] | rw [List.size_toArray] | rw [List.length_cons] | rw [List.length_nil])) <;> omega) | ((repeat rw [Int.toNat_natCast]) <;> first | omega | (show _ ∧ _; omega)) | (simp only [ByteArray.size_append, bsz, List.size_toArray, List.length_cons, List.length_nil]; omega) | (simp only [Int.toNat_natCast]; first | omega | (show _ ∧ _; omega)) | decide, ?_⟩; conv => whnf))
          exact retC tbl_ok (s, false) (addC_no hf g3) rfl rfl (by repeat' (first | exact trivial | exact outC_val _ _ | exact rfl | exact .inr ⟨rfl, rfl, _, _, rfl⟩ | refine ⟨?_, ?_⟩))
        have g3 : (numsR l 1).getD 0 default ≤ 3000 := Int.not_lt.1 g3
        rw [hn0] at g3
        repeat (first | (refine ite_f (by first | with_reducible rfl | assumption | (simp; done) | fail) ?_; conv => whnf) | (refine ite_t (by first | with_reducible rfl | assumption | (simp; done) | fail) ?_; conv => whnf) | (refine ⟨by first | omega | (show _ ∧ _; omega) | ((repeat (first | rw [ByteArray.size_append] | rw [bsz] | rw [List.size_toArray] | rw [List.length_cons] | rw [List.length_nil])) <;> omega) | ((repeat rw [Int.toNat_natCast]) <;> first | omega | (show _ ∧ _; omega)) | (simp only [ByteArray.size_append, bsz, List.size_toArray, List.length_cons, List.length_nil]; omega) | (simp only [Int.toNat_natCast]; first | omega | (show _ ∧ _; omega)) | decide, ?_⟩; conv => whnf))
        (repeat (refine ⟨by first | omega | (show _ ∧ _; omega) | ((repeat (first | rw [ByteArray.size_append] | rw [bsz] | rw [List.size_toArray] | rw [List.length_cons] | rw [List.length_nil])) <;> omega) | ((repeat rw [Int.toNat_natCast]) <;> first | omega | (show _ ∧ _; omega)) | (simp only [ByteArray.size_append, bsz, List.size_toArray, List.length_cons, List.length_nil]; omega) | (simp only [Int.toNat_natCast]; first | omega | (show _ ∧ _; omega)) | decide, ?_⟩; conv => whnf))
        exact retC tbl_ok (⟨s.graph, s.inputs, s.picks, (numsR l 1).getD 0 default⟩, true) (by rw [hn0]; exact addC_yes hf ⟨p1, p2, g2, p3, g3⟩) rfl rfl (by repeat' (first | exact trivial | exact outC_val _ _ | exact rfl | exact .inr ⟨rfl, rfl, _, _, rfl⟩ | refine ⟨?_, ?_⟩))

end Go.Proofs.YtcpjpkcahnldfaaGreatDoor
