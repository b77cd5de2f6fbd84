/- Texts for the law FnExactReadScript: WRScI. No conditions. -/
import Derived.Test.YtcpjpkcahnldfaaGreatDoorWAddI
import Derived.Test.YtcpjpkcahnldfaaGreatDoorWRSc
import Derived.Test.YtcpjpkcahnldfaaGreatDoorWGraph

set_option maxRecDepth 100000
namespace Go.Proofs.YtcpjpkcahnldfaaGreatDoor
open Go.Sx
theorem okR_head {l : ByteArray} (h : HeadP l) : okR l 1 = true ∧ (numsR l 1).length = 2 := by
  obtain ⟨h1, h2, _, h4, h5⟩ := h
  have hok : okR l 1 = true := by
    rw [okR, h1, decide_eq_true (by omega : 1 ≤ (partsL l).length), numsB]
    generalize partsL l = p at h2 h4 h5
    match p, h2 with
    | [a, b, c], _ =>
      simp only [List.drop_succ_cons, List.drop_zero, List.all_cons, List.all_nil, Bool.and_true]
      rw [show rdB b = true from h4, show rdB c = true from h5]
      rfl
  refine ⟨hok, ?_⟩
  rw [(okR_is hok).1, numsL_len, h2]
theorem okR_three {l : ByteArray} (h : okR l 1 = true) (hn : (numsR l 1).length = 2) : partsB l = true ∧ (partsL l).length = 3 ∧ rdB ((partsL l).getD 1 default) = true ∧ rdB ((partsL l).getD 2 default) = true ∧ numsR l 1 = [rdN ((partsL l).getD 1 default), rdN ((partsL l).getD 2 default)] := by
  have hi := (okR_is h).1
  rw [hi] at hn ⊢
  rw [okR, Bool.and_eq_true, Bool.and_eq_true] at h
  obtain ⟨⟨h1, h2⟩, h3⟩ := h
  rw [numsL_len] at hn
  have hl : (partsL l).length = 3 := by have := of_decide_eq_true h2; omega
  rw [numsB] at h3
  rw [numsL]
  refine ⟨h1, hl, ?_⟩
  generalize partsL l = p at hl h3
  match p, hl with
  | [a, b, c], _ =>
    simp only [List.drop_succ_cons, List.drop_zero, List.all_cons, List.all_nil, Bool.and_true, Bool.and_eq_true] at h3
    exact ⟨h3.1, h3.2, rfl⟩
theorem addC_step {t : St} {l : ByteArray} {r : GScript × Bool} (c : t.1 = true) (hst : stepOk t l = addB t.2 l ∧ stepS t l = (true, addS t.2 l)) (h : AddC t.2 l r) (hr : r.2 = true) : stepOk t l = true ∧ stepS t l = (t.1, r.1) := by
  have h1 : addB t.2 l = true := by rw [← h.1]; exact hr
  exact ⟨hst.1.trans h1, by rw [hst.2, c, h.2 h1]⟩
theorem head_step {t : St} {l : ByteArray} (hst : stepOk t l = decide (HeadP l) ∧ stepS t l = (true, ⟨⟨t.2.graph.nodes, rdN ((partsL l).getD 1 default), rdN ((partsL l).getD 2 default)⟩, t.2.inputs, t.2.picks, t.2.rounds⟩)) (h : HeadP l) (hn : numsR l 1 = [rdN ((partsL l).getD 1 default), rdN ((partsL l).getD 2 default)]) : stepOk t l = true ∧ stepS t l = (true, ⟨⟨t.2.graph.nodes, (numsR l 1).getD 0 default, (numsR l 1).getD 1 default⟩, t.2.inputs, t.2.picks, t.2.rounds⟩) :=
  ⟨hst.1.trans (decide_eq_true h), by rw [hst.2, hn]; rfl⟩
set_option maxHeartbeats 2000000 in
theorem implReadScript (x : ByteArray) (hx : x.size ≤ 1048576) : MeetsT Tryz.prog Tab 6 [.one (vs x)] [.agg (readScriptR x).1.c, .one (vi (readScriptR x).2)] := by
  refine enterT tbl_ok false Tryz.func6 rfl (by decide) fun W hW => ?_
  conv => whnf
  refine ⟨fun h0 => have h0 := of_decide_eq_true h0; ?_, fun h0 => have h0 := of_decide_eq_false h0; ?_⟩ <;> conv => whnf
  · have h0 : 12000 < x.size := by omega
    refine retW tbl_ok rfl rfl ?_
    rw [readScript_big h0]
    exact (by repeat' (first | exact trivial | exact outC_val _ _ | exact rfl | exact .inr ⟨rfl, rfl, _, _, rfl⟩ | refine ⟨?_, ?_⟩))
  have h0 : ¬ 12000 < x.size := by omega
  have hlen := cutB_len x
  (repeat (refine ⟨by first | omega | (show _ ∧ _; omega) | ((repeat (first | rw [ByteArray.size_append] | rw [bsz] | rw [List.size_toArray] | rw [List.length_cons] | rw [List.length_nil])) <;> omega) | ((repeat rw [Int.toNat_natCast]) <;> first | omega | (show _ ∧ _; omega)) | (simp only [ByteArray.size_append, bsz, List.size_toArray, List.length_cons, List.length_nil]; omega) | (simp only [Int.toNat_natCast]; first | omega | (show _ ∧ _; omega)) | decide, ?_⟩; conv => whnf))
  refine callRT (splitT x hx) tabStays hW rfl (go tbl_ok false ?_)
  conv => whnf
  have hH : ∀ w, Base.rel ⟨W, fun _ => False⟩ w → Tab w := fun w hr => tabStays W w (below_of_rel hr) hW
  have hp : Pins ⟨W, fun _ => False⟩ [] := fun _ h => by cases h
  refine nilB 1 0 4 (fun i => GNode.c (([] : List GNode).getD i default)) rfl rfl ?_
  refine nilB 1 3 5 (fun i => GRecord.c (([] : List GRecord).getD i default)) rfl rfl ?_
  refine nilB 1 4 3 (fun i => GPick.c (([] : List GPick).getD i default)) rfl rfl ?_
  refine loopW tbl_ok false [] (fun j : JS => [(23, .c (vi j.k)), (5, .c (vb j.t.1))]) (fun j => [⟨1, [.own 2, .c (vi j.t.2.graph.workers), .c (vi j.t.2.graph.cap), .own 3, .own 4, .c (vi j.t.2.rounds)]⟩, ⟨0, [.c (.val (.slice none 0 0)), .c (vi 0), .c (vi 0), .c (.val (.slice none 0 0)), .c (.val (.slice none 0 0)), .c (vi 0)]⟩]) (fun j => [⟨2, sGNode j.t.2.graph.nodes⟩, ⟨3, sGRecord j.t.2.inputs⟩, ⟨4, sGPick j.t.2.picks⟩]) (fun j => j.k ≤ (cutB x).length ∧ GoodTo (cutB x) j.k ∧ j.t = stAt (cutB x) j.k) (fun j => (cutB x).length - j.k) (⟨0, st0⟩) (⟨Nat.zero_le _, fun j hj => absurd hj (Nat.not_lt_zero _), rfl⟩) ⟨by first | rfl | simp [nth, ren2, ren1, ren0], by first | rfl | simp [nth, ren2, ren1, ren0], trivial⟩ (by repeat' (first | exact trivial | exact rfl | refine ⟨?_, ?_⟩)) ⟨by first | rfl | exact (congrArg (fun l => slC _ _ l) (List.append_nil _)).symm | (show (_ : Cell) = _; simp) | simp, by first | rfl | exact (congrArg (fun l => slC _ _ l) (List.append_nil _)).symm | (show (_ : Cell) = _; simp) | simp, by first | rfl | exact (congrArg (fun l => slC _ _ l) (List.append_nil _)).symm | (show (_ : Cell) = _; simp) | simp, trivial⟩ (by first | exact trivial | exact ⟨rfl, trivial⟩) (by kernel_rfl) (fun j hj => ?_)
  conv => whnf
  obtain ⟨hk, hg, ht⟩ := hj
  refine ⟨fun hk2 => have hk2 := of_decide_eq_true hk2; ?_, fun hk2 => have hk2 := of_decide_eq_false hk2; ?_⟩ <;> conv => whnf
  · have hk2 : j.k < (cutB x).length := by omega
    have hl := lines_getD h0 hk2
    have hp0 := partsL_size ((cutB x).getD j.k default)
    have hp1 := partsL_ne ((cutB x).getD j.k default)
    have hsc : ScOk j.t.2 := by rw [ht]; exact st_ok j.k hk hg
    (repeat (refine ⟨by first | omega | (show _ ∧ _; omega) | ((repeat (first | rw [ByteArray.size_append] | rw [bsz] | rw [List.size_toArray] | rw [List.length_cons] | rw [List.length_nil])) <;> omega) | ((repeat rw [Int.toNat_natCast]) <;> first | omega | (show _ ∧ _; omega)) | (simp only [ByteArray.size_append, bsz, List.size_toArray, List.length_cons, List.length_nil]; omega) | (simp only [Int.toNat_natCast]; first | omega | (show _ ∧ _; omega)) | decide, ?_⟩; conv => whnf))
    refine callRT (implPartsOf ((cutB x).getD j.k default) hl) tabStays hW rfl (go tbl_ok false ?_)
    conv => whnf
    refine ⟨fun a => ?_, fun a => ?_⟩ <;> conv => whnf
    · repeat (first | (refine ite_f (by first | with_reducible rfl | assumption | (simp; done) | fail) ?_; conv => whnf) | (refine ite_t (by first | with_reducible rfl | assumption | (simp; done) | fail) ?_; conv => whnf) | (refine ⟨by first | omega | (show _ ∧ _; omega) | ((repeat (first | rw [ByteArray.size_append] | rw [bsz] | rw [List.size_toArray] | rw [List.length_cons] | rw [List.length_nil])) <;> omega) | ((repeat rw [Int.toNat_natCast]) <;> first | omega | (show _ ∧ _; omega)) | (simp only [ByteArray.size_append, bsz, List.size_toArray, List.length_cons, List.length_nil]; omega) | (simp only [Int.toNat_natCast]; first | omega | (show _ ∧ _; omega)) | decide, ?_⟩; conv => whnf))
      refine ⟨fun b => have b := eq_of_beq b; ?_, fun b => have b := beq_eq_false_iff_ne.1 b; ?_⟩ <;> conv => whnf
      · repeat (first | (refine ite_f (by first | with_reducible rfl | assumption | (simp; done) | fail) ?_; conv => whnf) | (refine ite_t (by first | with_reducible rfl | assumption | (simp; done) | fail) ?_; conv => whnf) | (refine ⟨by first | omega | (show _ ∧ _; omega) | ((repeat (first | rw [ByteArray.size_append] | rw [bsz] | rw [List.size_toArray] | rw [List.length_cons] | rw [List.length_nil])) <;> omega) | ((repeat rw [Int.toNat_natCast]) <;> first | omega | (show _ ∧ _; omega)) | (simp only [ByteArray.size_append, bsz, List.size_toArray, List.length_cons, List.length_nil]; omega) | (simp only [Int.toNat_natCast]; first | omega | (show _ ∧ _; omega)) | decide, ?_⟩; conv => whnf))
        have hb : BlankP ((cutB x).getD j.k default) := ⟨a, .inl (by omega)⟩
        have hgn := good_succ hg (by rw [← ht]; exact ((step_blank hb)).1)
        (repeat (refine ⟨by first | omega | (show _ ∧ _; omega) | ((repeat (first | rw [ByteArray.size_append] | rw [bsz] | rw [List.size_toArray] | rw [List.length_cons] | rw [List.length_nil])) <;> omega) | ((repeat rw [Int.toNat_natCast]) <;> first | omega | (show _ ∧ _; omega)) | (simp only [ByteArray.size_append, bsz, List.size_toArray, List.length_cons, List.length_nil]; omega) | (simp only [Int.toNat_natCast]; first | omega | (show _ ∧ _; omega)) | decide, ?_⟩; conv => whnf))
        refine loopE [] (⟨j.k + 1, j.t⟩) (⟨by show j.k + 1 ≤ _; omega, hgn, by show j.t = stAt _ (j.k + 1); rw [stAt_succ hk2, ← ht]; exact ((step_blank hb)).2.symm⟩) (by show (cutB x).length - (j.k + 1) < _; omega) ⟨rfl, rfl, trivial⟩ ⟨rfl, rfl, rfl, trivial⟩ (by repeat' (first | exact trivial | exact rfl | refine ⟨?_, ?_⟩)) (by kernel_rfl) (by first | exact trivial | exact ⟨rfl, trivial⟩) (by kernel_rfl)
      · repeat (first | (refine ite_f (by first | with_reducible rfl | assumption | (simp; done) | fail) ?_; conv => whnf) | (refine ite_t (by first | with_reducible rfl | assumption | (simp; done) | fail) ?_; conv => whnf) | (refine ⟨by first | omega | (show _ ∧ _; omega) | ((repeat (first | rw [ByteArray.size_append] | rw [bsz] | rw [List.size_toArray] | rw [List.length_cons] | rw [List.length_nil])) <;> omega) | ((repeat rw [Int.toNat_natCast]) <;> first | omega | (show _ ∧ _; omega)) | (simp only [ByteArray.size_append, bsz, List.size_toArray, List.length_cons, List.length_nil]; omega) | (simp only [Int.toNat_natCast]; first | omega | (show _ ∧ _; omega)) | decide, ?_⟩; conv => whnf))
        have hx0 := hp1 _ (getD_mem (d := default) (show 0 < (partsL ((cutB x).getD j.k default)).length by omega))
        (repeat (refine ⟨by first | omega | (show _ ∧ _; omega) | ((repeat (first | rw [ByteArray.size_append] | rw [bsz] | rw [List.size_toArray] | rw [List.length_cons] | rw [List.length_nil])) <;> omega) | ((repeat rw [Int.toNat_natCast]) <;> first | omega | (show _ ∧ _; omega)) | (simp only [ByteArray.size_append, bsz, List.size_toArray, List.length_cons, List.length_nil]; omega) | (simp only [Int.toNat_natCast]; first | omega | (show _ ∧ _; omega)) | decide, ?_⟩; conv => whnf))
        refine ⟨by exact ⟨Int.le_refl _, Int.natCast_pos.2 hx0⟩, ?_⟩
        conv => whnf
        repeat (first | (refine ite_f (by first | with_reducible rfl | assumption | (simp; done) | fail) ?_; conv => whnf) | (refine ite_t (by first | with_reducible rfl | assumption | (simp; done) | fail) ?_; conv => whnf) | (refine ⟨by first | omega | (show _ ∧ _; omega) | ((repeat (first | rw [ByteArray.size_append] | rw [bsz] | rw [List.size_toArray] | rw [List.length_cons] | rw [List.length_nil])) <;> omega) | ((repeat rw [Int.toNat_natCast]) <;> first | omega | (show _ ∧ _; omega)) | (simp only [ByteArray.size_append, bsz, List.size_toArray, List.length_cons, List.length_nil]; omega) | (simp only [Int.toNat_natCast]; first | omega | (show _ ∧ _; omega)) | decide, ?_⟩; conv => whnf))
        refine ⟨fun b2 => have b2 := eq_of_beq b2; ?_, fun b2 => have b2 := beq_eq_false_iff_ne.1 b2; ?_⟩ <;> conv => whnf
        · repeat (first | (refine ite_f (by first | with_reducible rfl | assumption | (simp; done) | fail) ?_; conv => whnf) | (refine ite_t (by first | with_reducible rfl | assumption | (simp; done) | fail) ?_; conv => whnf) | (refine ⟨by first | omega | (show _ ∧ _; omega) | ((repeat (first | rw [ByteArray.size_append] | rw [bsz] | rw [List.size_toArray] | rw [List.length_cons] | rw [List.length_nil])) <;> omega) | ((repeat rw [Int.toNat_natCast]) <;> first | omega | (show _ ∧ _; omega)) | (simp only [ByteArray.size_append, bsz, List.size_toArray, List.length_cons, List.length_nil]; omega) | (simp only [Int.toNat_natCast]; first | omega | (show _ ∧ _; omega)) | decide, ?_⟩; conv => whnf))
          have b2 : byteAt (word0 ((cutB x).getD j.k default)) 0 = 35 := UInt8.toNat_inj.1 (Int.ofNat.inj b2)
          have hb : BlankP ((cutB x).getD j.k default) := ⟨a, .inr b2⟩
          have hgn := good_succ hg (by rw [← ht]; exact ((step_blank hb)).1)
          (repeat (refine ⟨by first | omega | (show _ ∧ _; omega) | ((repeat (first | rw [ByteArray.size_append] | rw [bsz] | rw [List.size_toArray] | rw [List.length_cons] | rw [List.length_nil])) <;> omega) | ((repeat rw [Int.toNat_natCast]) <;> first | omega | (show _ ∧ _; omega)) | (simp only [ByteArray.size_append, bsz, List.size_toArray, List.length_cons, List.length_nil]; omega) | (simp only [Int.toNat_natCast]; first | omega | (show _ ∧ _; omega)) | decide, ?_⟩; conv => whnf))
          refine loopE [] (⟨j.k + 1, j.t⟩) (⟨by show j.k + 1 ≤ _; omega, hgn, by show j.t = stAt _ (j.k + 1); rw [stAt_succ hk2, ← ht]; exact ((step_blank hb)).2.symm⟩) (by show (cutB x).length - (j.k + 1) < _; omega) ⟨rfl, rfl, trivial⟩ ⟨rfl, rfl, rfl, trivial⟩ (by repeat' (first | exact trivial | exact rfl | refine ⟨?_, ?_⟩)) (by kernel_rfl) (by first | exact trivial | exact ⟨rfl, trivial⟩) (by kernel_rfl)
        · have hb : ¬ BlankP ((cutB x).getD j.k default) := fun c => c.2.elim (fun c => b (by omega)) (fun c => b2 (by show ((byteAt (word0 ((cutB x).getD j.k default)) 0).toNat : Int) = _; rw [c]; rfl))
          repeat (first | (refine ite_f (by first | with_reducible rfl | assumption | (simp; done) | fail) ?_; conv => whnf) | (refine ite_t (by first | with_reducible rfl | assumption | (simp; done) | fail) ?_; conv => whnf) | (refine ⟨by first | omega | (show _ ∧ _; omega) | ((repeat (first | rw [ByteArray.size_append] | rw [bsz] | rw [List.size_toArray] | rw [List.length_cons] | rw [List.length_nil])) <;> omega) | ((repeat rw [Int.toNat_natCast]) <;> first | omega | (show _ ∧ _; omega)) | (simp only [ByteArray.size_append, bsz, List.size_toArray, List.length_cons, List.length_nil]; omega) | (simp only [Int.toNat_natCast]; first | omega | (show _ ∧ _; omega)) | decide, ?_⟩; conv => whnf))
          refine ⟨fun c => ?_, fun c => ?_⟩ <;> conv => whnf
          · have hst := step_add hb c
            repeat (first | (refine ite_f (by first | with_reducible rfl | assumption | (simp; done) | fail) ?_; conv => whnf) | (refine ite_t (by first | with_reducible rfl | assumption | (simp; done) | fail) ?_; conv => whnf) | (refine ⟨by first | omega | (show _ ∧ _; omega) | ((repeat (first | rw [ByteArray.size_append] | rw [bsz] | rw [List.size_toArray] | rw [List.length_cons] | rw [List.length_nil])) <;> omega) | ((repeat rw [Int.toNat_natCast]) <;> first | omega | (show _ ∧ _; omega)) | (simp only [ByteArray.size_append, bsz, List.size_toArray, List.length_cons, List.length_nil]; omega) | (simp only [Int.toNat_natCast]; first | omega | (show _ ∧ _; omega)) | decide, ?_⟩; conv => whnf))
            refine callC [.agg [.own 2, .c (vi j.t.2.graph.workers), .c (vi j.t.2.graph.cap), .own 3, .own 4, .c (vi j.t.2.rounds)]] (implAdd j.t.2 ((cutB x).getD j.k default) hsc hl) hH hp (by repeat' (first | exact trivial | exact outC_val _ _ | exact rfl | exact .inr ⟨rfl, rfl, _, _, rfl⟩ | refine ⟨?_, ?_⟩)) rfl rfl (fun r hr => go tbl_ok false ?_)
            conv => whnf
            refine ⟨fun d => ?_, fun d => ?_⟩ <;> conv => whnf
            · have d : r.2 = false := by simpa using d
              repeat (first | (refine ite_f (by first | with_reducible rfl | assumption | (simp; done) | fail) ?_; conv => whnf) | (refine ite_t (by first | with_reducible rfl | assumption | (simp; done) | fail) ?_; conv => whnf) | (refine ⟨by first | omega | (show _ ∧ _; omega) | ((repeat (first | rw [ByteArray.size_append] | rw [bsz] | rw [List.size_toArray] | rw [List.length_cons] | rw [List.length_nil])) <;> omega) | ((repeat rw [Int.toNat_natCast]) <;> first | omega | (show _ ∧ _; omega)) | (simp only [ByteArray.size_append, bsz, List.size_toArray, List.length_cons, List.length_nil]; omega) | (simp only [Int.toNat_natCast]; first | omega | (show _ ∧ _; omega)) | decide, ?_⟩; conv => whnf))
              (repeat (refine ⟨by first | omega | (show _ ∧ _; omega) | ((repeat (first | rw [ByteArray.size_append] | rw [bsz] | rw [List.size_toArray] | rw [List.length_cons] | rw [List.length_nil])) <;> omega) | ((repeat rw [Int.toNat_natCast]) <;> first | omega | (show _ ∧ _; omega)) | (simp only [ByteArray.size_append, bsz, List.size_toArray, List.length_cons, List.length_nil]; omega) | (simp only [Int.toNat_natCast]; first | omega | (show _ ∧ _; omega)) | decide, ?_⟩; conv => whnf))
              refine retW tbl_ok rfl rfl ?_
              rw [readScript_bad h0 hk2 hg (by rw [← ht, hst.1, ← hr.1]; exact d)]
              exact (by repeat' (first | exact trivial | exact outC_val _ _ | exact rfl | exact .inr ⟨rfl, rfl, _, _, rfl⟩ | refine ⟨?_, ?_⟩))
            · have d : r.2 = true := by simpa using d
              repeat (first | (refine ite_f (by first | with_reducible rfl | assumption | (simp; done) | fail) ?_; conv => whnf) | (refine ite_t (by first | with_reducible rfl | assumption | (simp; done) | fail) ?_; conv => whnf) | (refine ⟨by first | omega | (show _ ∧ _; omega) | ((repeat (first | rw [ByteArray.size_append] | rw [bsz] | rw [List.size_toArray] | rw [List.length_cons] | rw [List.length_nil])) <;> omega) | ((repeat rw [Int.toNat_natCast]) <;> first | omega | (show _ ∧ _; omega)) | (simp only [ByteArray.size_append, bsz, List.size_toArray, List.length_cons, List.length_nil]; omega) | (simp only [Int.toNat_natCast]; first | omega | (show _ ∧ _; omega)) | decide, ?_⟩; conv => whnf))
              have hgn := good_succ hg (by rw [← ht]; exact ((addC_step c hst hr d)).1)
              (repeat (refine ⟨by first | omega | (show _ ∧ _; omega) | ((repeat (first | rw [ByteArray.size_append] | rw [bsz] | rw [List.size_toArray] | rw [List.length_cons] | rw [List.length_nil])) <;> omega) | ((repeat rw [Int.toNat_natCast]) <;> first | omega | (show _ ∧ _; omega)) | (simp only [ByteArray.size_append, bsz, List.size_toArray, List.length_cons, List.length_nil]; omega) | (simp only [Int.toNat_natCast]; first | omega | (show _ ∧ _; omega)) | decide, ?_⟩; conv => whnf))
              refine loopE [(2, 5), (3, 6), (4, 7)] (⟨j.k + 1, (j.t.1, r.1)⟩) (⟨by show j.k + 1 ≤ _; omega, hgn, by show (j.t.1, r.1) = stAt _ (j.k + 1); rw [stAt_succ hk2, ← ht]; exact ((addC_step c hst hr d)).2.symm⟩) (by show (cutB x).length - (j.k + 1) < _; omega) ⟨rfl, rfl, trivial⟩ ⟨rfl, rfl, rfl, trivial⟩ (by repeat' (first | exact trivial | exact rfl | refine ⟨?_, ?_⟩)) (by kernel_rfl) (by first | exact trivial | exact ⟨rfl, trivial⟩) (by kernel_rfl)
          · have c : j.t.1 = false := by simpa using c
            have hst := step_head hb c
            repeat (first | (refine ite_f (by first | with_reducible rfl | assumption | (simp; done) | fail) ?_; conv => whnf) | (refine ite_t (by first | with_reducible rfl | assumption | (simp; done) | fail) ?_; conv => whnf) | (refine ⟨by first | omega | (show _ ∧ _; omega) | ((repeat (first | rw [ByteArray.size_append] | rw [bsz] | rw [List.size_toArray] | rw [List.length_cons] | rw [List.length_nil])) <;> omega) | ((repeat rw [Int.toNat_natCast]) <;> first | omega | (show _ ∧ _; omega)) | (simp only [ByteArray.size_append, bsz, List.size_toArray, List.length_cons, List.length_nil]; omega) | (simp only [Int.toNat_natCast]; first | omega | (show _ ∧ _; omega)) | decide, ?_⟩; conv => whnf))
            refine callRT (implNumbersP ((cutB x).getD j.k default) 1 hl (by decide)) tabStays hW rfl (go tbl_ok false ?_)
            conv => whnf
            refine ⟨fun d0 => ?_, fun d0 => ?_⟩ <;> conv => whnf
            · have d0 : okR ((cutB x).getD j.k default) 1 = false := by simpa using d0
              repeat (first | (refine ite_f (by first | with_reducible rfl | assumption | (simp; done) | fail) ?_; conv => whnf) | (refine ite_t (by first | with_reducible rfl | assumption | (simp; done) | fail) ?_; conv => whnf) | (refine ⟨by first | omega | (show _ ∧ _; omega) | ((repeat (first | rw [ByteArray.size_append] | rw [bsz] | rw [List.size_toArray] | rw [List.length_cons] | rw [List.length_nil])) <;> omega) | ((repeat rw [Int.toNat_natCast]) <;> first | omega | (show _ ∧ _; omega)) | (simp only [ByteArray.size_append, bsz, List.size_toArray, List.length_cons, List.length_nil]; omega) | (simp only [Int.toNat_natCast]; first | omega | (show _ ∧ _; omega)) | decide, ?_⟩; conv => whnf))
              (repeat (refine ⟨by first | omega | (show _ ∧ _; omega) | ((repeat (first | rw [ByteArray.size_append] | rw [bsz] | rw [List.size_toArray] | rw [List.length_cons] | rw [List.length_nil])) <;> omega) | ((repeat rw [Int.toNat_natCast]) <;> first | omega | (show _ ∧ _; omega)) | (simp only [ByteArray.size_append, bsz, List.size_toArray, List.length_cons, List.length_nil]; omega) | (simp only [Int.toNat_natCast]; first | omega | (show _ ∧ _; omega)) | decide, ?_⟩; conv => whnf))
              refine retW tbl_ok rfl rfl ?_
              rw [readScript_bad h0 hk2 hg (by rw [← ht, hst.1]; exact decide_eq_false fun h => by have := (okR_head h).1; rw [d0] at this; cases this)]
              exact (by repeat' (first | exact trivial | exact outC_val _ _ | exact rfl | exact .inr ⟨rfl, rfl, _, _, rfl⟩ | refine ⟨?_, ?_⟩))
            have d0 : okR ((cutB x).getD j.k default) 1 = true := by simpa using d0
            have hpr := partsR_is d0
            repeat (first | (refine ite_f (by first | with_reducible rfl | assumption | (simp; done) | fail) ?_; conv => whnf) | (refine ite_t (by first | with_reducible rfl | assumption | (simp; done) | fail) ?_; conv => whnf) | (refine ⟨by first | omega | (show _ ∧ _; omega) | ((repeat (first | rw [ByteArray.size_append] | rw [bsz] | rw [List.size_toArray] | rw [List.length_cons] | rw [List.length_nil])) <;> omega) | ((repeat rw [Int.toNat_natCast]) <;> first | omega | (show _ ∧ _; omega)) | (simp only [ByteArray.size_append, bsz, List.size_toArray, List.length_cons, List.length_nil]; omega) | (simp only [Int.toNat_natCast]; first | omega | (show _ ∧ _; omega)) | decide, ?_⟩; conv => whnf))
            refine ⟨fun d => have d := bne_iff_ne.1 d; ?_, fun d => have d := bne_eq_false_iff_eq.1 d; ?_⟩ <;> conv => whnf
            · have d : (numsR ((cutB x).getD j.k default) 1).length ≠ 2 := by omega
              repeat (first | (refine ite_f (by first | with_reducible rfl | assumption | (simp; done) | fail) ?_; conv => whnf) | (refine ite_t (by first | with_reducible rfl | assumption | (simp; done) | fail) ?_; conv => whnf) | (refine ⟨by first | omega | (show _ ∧ _; omega) | ((repeat (first | rw [ByteArray.size_append] | rw [bsz] | rw [List.size_toArray] | rw [List.length_cons] | rw [List.length_nil])) <;> omega) | ((repeat rw [Int.toNat_natCast]) <;> first | omega | (show _ ∧ _; omega)) | (simp only [ByteArray.size_append, bsz, List.size_toArray, List.length_cons, List.length_nil]; omega) | (simp only [Int.toNat_natCast]; first | omega | (show _ ∧ _; omega)) | decide, ?_⟩; conv => whnf))
              (repeat (refine ⟨by first | omega | (show _ ∧ _; omega) | ((repeat (first | rw [ByteArray.size_append] | rw [bsz] | rw [List.size_toArray] | rw [List.length_cons] | rw [List.length_nil])) <;> omega) | ((repeat rw [Int.toNat_natCast]) <;> first | omega | (show _ ∧ _; omega)) | (simp only [ByteArray.size_append, bsz, List.size_toArray, List.length_cons, List.length_nil]; omega) | (simp only [Int.toNat_natCast]; first | omega | (show _ ∧ _; omega)) | decide, ?_⟩; conv => whnf))
              refine retW tbl_ok rfl rfl ?_
              rw [readScript_bad h0 hk2 hg (by rw [← ht, hst.1]; exact decide_eq_false fun h => d (okR_head h).2)]
              exact (by repeat' (first | exact trivial | exact outC_val _ _ | exact rfl | exact .inr ⟨rfl, rfl, _, _, rfl⟩ | refine ⟨?_, ?_⟩))
            have d : (numsR ((cutB x).getD j.k default) 1).length = 2 := by omega
            obtain ⟨p1, p2, p3, p4, p5⟩ := okR_three d0 d
            have hpl : (partsR ((cutB x).getD j.k default) 1).length = 3 := by rw [hpr]; exact p2
            repeat (first | (refine ite_f (by first | with_reducible rfl | assumption | (simp; done) | fail) ?_; conv => whnf) | (refine ite_t (by first | with_reducible rfl | assumption | (simp; done) | fail) ?_; conv => whnf) | (refine ⟨by first | omega | (show _ ∧ _; omega) | ((repeat (first | rw [ByteArray.size_append] | rw [bsz] | rw [List.size_toArray] | rw [List.length_cons] | rw [List.length_nil])) <;> omega) | ((repeat rw [Int.toNat_natCast]) <;> first | omega | (show _ ∧ _; omega)) | (simp only [ByteArray.size_append, bsz, List.size_toArray, List.length_cons, List.length_nil]; omega) | (simp only [Int.toNat_natCast]; first | omega | (show _ ∧ _; omega)) | decide, ?_⟩; conv => whnf))
            (repeat (refine ⟨by first | omega | (show _ ∧ _; omega) | ((repeat (first | rw [ByteArray.size_append] | rw [bsz] | rw [List.size_toArray] | rw [List.length_cons] | rw [List.length_nil])) <;> omega) | ((repeat rw [Int.toNat_natCast]) <;> first | omega | (show _ ∧ _; omega)) | (simp only [ByteArray.size_append, bsz, List.size_toArray, List.length_cons, List.length_nil]; omega) | (simp only [Int.toNat_natCast]; first | omega | (show _ ∧ _; omega)) | decide, ?_⟩; conv => whnf))
            refine ⟨fun g => ?_, fun g => ?_⟩ <;> conv => whnf
            · have g : word0 ((cutB x).getD j.k default) ≠ (⟨#[103, 114, 97, 112, 104]⟩ : ByteArray) := fun e => by
                rw [hpr, show (partsL ((cutB x).getD j.k default)).getD (Int.toNat 0) default = (⟨#[103, 114, 97, 112, 104]⟩ : ByteArray) from e, ba_self] at g
                cases g
              repeat (first | (refine ite_f (by first | with_reducible rfl | assumption | (simp; done) | fail) ?_; conv => whnf) | (refine ite_t (by first | with_reducible rfl | assumption | (simp; done) | fail) ?_; conv => whnf) | (refine ⟨by first | omega | (show _ ∧ _; omega) | ((repeat (first | rw [ByteArray.size_append] | rw [bsz] | rw [List.size_toArray] | rw [List.length_cons] | rw [List.length_nil])) <;> omega) | ((repeat rw [Int.toNat_natCast]) <;> first | omega | (show _ ∧ _; omega)) | (simp only [ByteArray.size_append, bsz, List.size_toArray, List.length_cons, List.length_nil]; omega) | (simp only [Int.toNat_natCast]; first | omega | (show _ ∧ _; omega)) | decide, ?_⟩; conv => whnf))
              (repeat (refine ⟨by first | omega | (show _ ∧ _; omega) | ((repeat (first | rw [ByteArray.size_append] | rw [bsz] | rw [List.size_toArray] | rw [List.length_cons] | rw [List.length_nil])) <;> omega) | ((repeat rw [Int.toNat_natCast]) <;> first | omega | (show _ ∧ _; omega)) | (simp only [ByteArray.size_append, bsz, List.size_toArray, List.length_cons, List.length_nil]; omega) | (simp only [Int.toNat_natCast]; first | omega | (show _ ∧ _; omega)) | decide, ?_⟩; conv => whnf))
              refine retW tbl_ok rfl rfl ?_
              rw [readScript_bad h0 hk2 hg (by rw [← ht, hst.1]; exact decide_eq_false fun h => g h.2.2.1)]
              exact (by repeat' (first | exact trivial | exact outC_val _ _ | exact rfl | exact .inr ⟨rfl, rfl, _, _, rfl⟩ | refine ⟨?_, ?_⟩))
            have g : word0 ((cutB x).getD j.k default) = (⟨#[103, 114, 97, 112, 104]⟩ : ByteArray) := by
              have := ba_neqf g
              rw [hpr] at this
              exact this
            repeat (first | (refine ite_f (by first | with_reducible rfl | assumption | (simp; done) | fail) ?_; conv => whnf) | (refine ite_t (by first | with_reducible rfl | assumption | (simp; done) | fail) ?_; conv => whnf) | (refine ⟨by first | omega | (show _ ∧ _; omega) | ((repeat (first | rw [ByteArray.size_append] | rw [bsz] | rw [List.size_toArray] | rw [List.length_cons] | rw [List.length_nil])) <;> omega) | ((repeat rw [Int.toNat_natCast]) <;> first | omega | (show _ ∧ _; omega)) | (simp only [ByteArray.size_append, bsz, List.size_toArray, List.length_cons, List.length_nil]; omega) | (simp only [Int.toNat_natCast]; first | omega | (show _ ∧ _; omega)) | decide, ?_⟩; conv => whnf))
            refine drawA rfl ?_
            refine preA tbl_ok false 0 rfl rfl rfl (by kernel_rfl) rfl (andL_mem (by repeat' (first | exact trivial | refine ⟨?_, ?_⟩ | (show _ ∧ _; omega) | omega))) ?_
            refine preA tbl_ok false 3 rfl rfl rfl (by kernel_rfl) rfl (andL_mem (by repeat' (first | exact trivial | refine ⟨?_, ?_⟩ | (show _ ∧ _; omega) | omega))) ?_
            refine splitA [1, 4] (by kernel_rfl) ⟨?_, ?_, trivial⟩
            focus
              refine go tbl_ok false ?_
              conv => whnf
              (repeat (refine ⟨by first | omega | (show _ ∧ _; omega) | ((repeat (first | rw [ByteArray.size_append] | rw [bsz] | rw [List.size_toArray] | rw [List.length_cons] | rw [List.length_nil])) <;> omega) | ((repeat rw [Int.toNat_natCast]) <;> first | omega | (show _ ∧ _; omega)) | (simp only [ByteArray.size_append, bsz, List.size_toArray, List.length_cons, List.length_nil]; omega) | (simp only [Int.toNat_natCast]; first | omega | (show _ ∧ _; omega)) | decide, ?_⟩; conv => whnf))
              refine loopA ?_
              refine splitA [2, 4] (by kernel_rfl) ⟨?_, ?_, trivial⟩
              focus
                refine go tbl_ok false ?_
                conv => whnf
                refine loopA ?_
                refine preA tbl_ok false 6 rfl rfl rfl (by kernel_rfl) rfl (andL_mem (by repeat' (first | exact trivial | refine ⟨?_, ?_⟩ | (show _ ∧ _; omega) | omega))) ?_
                refine preA tbl_ok false 7 rfl rfl rfl (by kernel_rfl) rfl (andL_mem (by repeat' (first | exact trivial | refine ⟨?_, ?_⟩ | (show _ ∧ _; omega) | omega))) ?_
                refine splitA [4, 8] (by kernel_rfl) ⟨?_, ?_, trivial⟩
                focus
                  refine go tbl_ok false ?_
                  conv => whnf
                  (repeat (refine ⟨by first | omega | (show _ ∧ _; omega) | ((repeat (first | rw [ByteArray.size_append] | rw [bsz] | rw [List.size_toArray] | rw [List.length_cons] | rw [List.length_nil])) <;> omega) | ((repeat rw [Int.toNat_natCast]) <;> first | omega | (show _ ∧ _; omega)) | (simp only [ByteArray.size_append, bsz, List.size_toArray, List.length_cons, List.length_nil]; omega) | (simp only [Int.toNat_natCast]; first | omega | (show _ ∧ _; omega)) | decide, ?_⟩; conv => whnf))
                  refine loopA ?_
                  refine splitA [5, 8] (by kernel_rfl) ⟨?_, ?_, trivial⟩
                  focus
                    refine go tbl_ok false ?_
                    conv => whnf
                    refine loopA ?_
                    refine splitA [8] (by kernel_rfl) ⟨?_, trivial⟩
                    refine go tbl_ok false ?_
                    conv => whnf
                    refine loopA ?_
                    refine preA tbl_ok false 9 rfl rfl rfl (by kernel_rfl) rfl (andL_mem (by repeat' (first | exact trivial | refine ⟨?_, ?_⟩ | (show _ ∧ _; omega) | omega))) ?_
                    refine preA tbl_ok false 10 rfl rfl rfl (by kernel_rfl) rfl (andL_mem (by repeat' (first | exact trivial | refine ⟨?_, ?_⟩ | (show _ ∧ _; omega) | omega))) ?_
                    refine splitA [11] (by kernel_rfl) ⟨?_, trivial⟩
                    refine go tbl_ok false ?_
                    conv => whnf
                    refine loopA ?_
                    refine doneA (by kernel_rfl) (go tbl_ok false ?_)
                    conv => whnf
                  rotate_left 1
                  focus
                    refine go tbl_ok false ?_
                    conv => whnf
                    refine loopA ?_
                    refine splitA [5] (by kernel_rfl) ⟨?_, trivial⟩
                    refine go tbl_ok false ?_
                    conv => whnf
                    refine loopA ?_
                    refine preA tbl_ok false 9 rfl rfl rfl (by kernel_rfl) rfl (andL_mem (by repeat' (first | exact trivial | refine ⟨?_, ?_⟩ | (show _ ∧ _; omega) | omega))) ?_
                    refine preA tbl_ok false 10 rfl rfl rfl (by kernel_rfl) rfl (andL_mem (by repeat' (first | exact trivial | refine ⟨?_, ?_⟩ | (show _ ∧ _; omega) | omega))) ?_
                    refine splitA [11] (by kernel_rfl) ⟨?_, trivial⟩
                    refine go tbl_ok false ?_
                    conv => whnf
                    refine loopA ?_
                    refine doneA (by kernel_rfl) (go tbl_ok false ?_)
                    conv => whnf
                rotate_left 2
                focus
                  refine go tbl_ok false ?_
                  conv => whnf
                  refine loopA ?_
                  refine splitA [4] (by kernel_rfl) ⟨?_, trivial⟩
                  refine go tbl_ok false ?_
                  conv => whnf
                  (repeat (refine ⟨by first | omega | (show _ ∧ _; omega) | ((repeat (first | rw [ByteArray.size_append] | rw [bsz] | rw [List.size_toArray] | rw [List.length_cons] | rw [List.length_nil])) <;> omega) | ((repeat rw [Int.toNat_natCast]) <;> first | omega | (show _ ∧ _; omega)) | (simp only [ByteArray.size_append, bsz, List.size_toArray, List.length_cons, List.length_nil]; omega) | (simp only [Int.toNat_natCast]; first | omega | (show _ ∧ _; omega)) | decide, ?_⟩; conv => whnf))
                  refine loopA ?_
                  refine splitA [5] (by kernel_rfl) ⟨?_, trivial⟩
                  refine go tbl_ok false ?_
                  conv => whnf
                  refine loopA ?_
                  refine preA tbl_ok false 9 rfl rfl rfl (by kernel_rfl) rfl (andL_mem (by repeat' (first | exact trivial | refine ⟨?_, ?_⟩ | (show _ ∧ _; omega) | omega))) ?_
                  refine preA tbl_ok false 10 rfl rfl rfl (by kernel_rfl) rfl (andL_mem (by repeat' (first | exact trivial | refine ⟨?_, ?_⟩ | (show _ ∧ _; omega) | omega))) ?_
                  refine splitA [11] (by kernel_rfl) ⟨?_, trivial⟩
                  refine go tbl_ok false ?_
                  conv => whnf
                  refine loopA ?_
                  refine doneA (by kernel_rfl) (go tbl_ok false ?_)
                  conv => whnf
              rotate_left 3
              focus
                refine go tbl_ok false ?_
                conv => whnf
                (repeat (refine ⟨by first | omega | (show _ ∧ _; omega) | ((repeat (first | rw [ByteArray.size_append] | rw [bsz] | rw [List.size_toArray] | rw [List.length_cons] | rw [List.length_nil])) <;> omega) | ((repeat rw [Int.toNat_natCast]) <;> first | omega | (show _ ∧ _; omega)) | (simp only [ByteArray.size_append, bsz, List.size_toArray, List.length_cons, List.length_nil]; omega) | (simp only [Int.toNat_natCast]; first | omega | (show _ ∧ _; omega)) | decide, ?_⟩; conv => whnf))
                refine loopA ?_
                refine splitA [2, 5] (by kernel_rfl) ⟨?_, ?_, trivial⟩
                focus
                  refine go tbl_ok false ?_
                  conv => whnf
                  refine loopA ?_
                  refine preA tbl_ok false 6 rfl rfl rfl (by kernel_rfl) rfl (andL_mem (by repeat' (first | exact trivial | refine ⟨?_, ?_⟩ | (show _ ∧ _; omega) | omega))) ?_
                  refine preA tbl_ok false 7 rfl rfl rfl (by kernel_rfl) rfl (andL_mem (by repeat' (first | exact trivial | refine ⟨?_, ?_⟩ | (show _ ∧ _; omega) | omega))) ?_
                  refine splitA [5, 8] (by kernel_rfl) ⟨?_, ?_, trivial⟩
                  focus
                    refine go tbl_ok false ?_
                    conv => whnf
                    refine loopA ?_
                    refine splitA [8] (by kernel_rfl) ⟨?_, trivial⟩
                    refine go tbl_ok false ?_
                    conv => whnf
                    refine loopA ?_
                    refine preA tbl_ok false 9 rfl rfl rfl (by kernel_rfl) rfl (andL_mem (by repeat' (first | exact trivial | refine ⟨?_, ?_⟩ | (show _ ∧ _; omega) | omega))) ?_
                    refine preA tbl_ok false 10 rfl rfl rfl (by kernel_rfl) rfl (andL_mem (by repeat' (first | exact trivial | refine ⟨?_, ?_⟩ | (show _ ∧ _; omega) | omega))) ?_
                    refine splitA [11] (by kernel_rfl) ⟨?_, trivial⟩
                    refine go tbl_ok false ?_
                    conv => whnf
                    refine loopA ?_
                    refine doneA (by kernel_rfl) (go tbl_ok false ?_)
                    conv => whnf
                  rotate_left 1
                  focus
                    refine go tbl_ok false ?_
                    conv => whnf
                    refine loopA ?_
                    refine splitA [5] (by kernel_rfl) ⟨?_, trivial⟩
                    refine go tbl_ok false ?_
                    conv => whnf
                    refine loopA ?_
                    refine preA tbl_ok false 9 rfl rfl rfl (by kernel_rfl) rfl (andL_mem (by repeat' (first | exact trivial | refine ⟨?_, ?_⟩ | (show _ ∧ _; omega) | omega))) ?_
                    refine preA tbl_ok false 10 rfl rfl rfl (by kernel_rfl) rfl (andL_mem (by repeat' (first | exact trivial | refine ⟨?_, ?_⟩ | (show _ ∧ _; omega) | omega))) ?_
                    refine splitA [11] (by kernel_rfl) ⟨?_, trivial⟩
                    refine go tbl_ok false ?_
                    conv => whnf
                    refine loopA ?_
                    refine doneA (by kernel_rfl) (go tbl_ok false ?_)
                    conv => whnf
                rotate_left 2
                focus
                  refine go tbl_ok false ?_
                  conv => whnf
                  refine loopA ?_
                  refine splitA [2] (by kernel_rfl) ⟨?_, trivial⟩
                  refine go tbl_ok false ?_
                  conv => whnf
                  refine loopA ?_
                  refine preA tbl_ok false 6 rfl rfl rfl (by kernel_rfl) rfl (andL_mem (by repeat' (first | exact trivial | refine ⟨?_, ?_⟩ | (show _ ∧ _; omega) | omega))) ?_
                  refine preA tbl_ok false 7 rfl rfl rfl (by kernel_rfl) rfl (andL_mem (by repeat' (first | exact trivial | refine ⟨?_, ?_⟩ | (show _ ∧ _; omega) | omega))) ?_
                  refine splitA [8] (by kernel_rfl) ⟨?_, trivial⟩
                  refine go tbl_ok false ?_
                  conv => whnf
                  refine loopA ?_
                  refine preA tbl_ok false 9 rfl rfl rfl (by kernel_rfl) rfl (andL_mem (by repeat' (first | exact trivial | refine ⟨?_, ?_⟩ | (show _ ∧ _; omega) | omega))) ?_
                  refine preA tbl_ok false 10 rfl rfl rfl (by kernel_rfl) rfl (andL_mem (by repeat' (first | exact trivial | refine ⟨?_, ?_⟩ | (show _ ∧ _; omega) | omega))) ?_
                  refine splitA [11] (by kernel_rfl) ⟨?_, trivial⟩
                  refine go tbl_ok false ?_
                  conv => whnf
                  refine loopA ?_
                  refine doneA (by kernel_rfl) (go tbl_ok false ?_)
                  conv => whnf
            rotate_left 6
            focus
              refine go tbl_ok false ?_
              conv => whnf
              (repeat (refine ⟨by first | omega | (show _ ∧ _; omega) | ((repeat (first | rw [ByteArray.size_append] | rw [bsz] | rw [List.size_toArray] | rw [List.length_cons] | rw [List.length_nil])) <;> omega) | ((repeat rw [Int.toNat_natCast]) <;> first | omega | (show _ ∧ _; omega)) | (simp only [ByteArray.size_append, bsz, List.size_toArray, List.length_cons, List.length_nil]; omega) | (simp only [Int.toNat_natCast]; first | omega | (show _ ∧ _; omega)) | decide, ?_⟩; conv => whnf))
              refine loopA ?_
              refine splitA [1, 5] (by kernel_rfl) ⟨?_, ?_, trivial⟩
              focus
                refine go tbl_ok false ?_
                conv => whnf
                (repeat (refine ⟨by first | omega | (show _ ∧ _; omega) | ((repeat (first | rw [ByteArray.size_append] | rw [bsz] | rw [List.size_toArray] | rw [List.length_cons] | rw [List.length_nil])) <;> omega) | ((repeat rw [Int.toNat_natCast]) <;> first | omega | (show _ ∧ _; omega)) | (simp only [ByteArray.size_append, bsz, List.size_toArray, List.length_cons, List.length_nil]; omega) | (simp only [Int.toNat_natCast]; first | omega | (show _ ∧ _; omega)) | decide, ?_⟩; conv => whnf))
                refine loopA ?_
                refine splitA [2, 5] (by kernel_rfl) ⟨?_, ?_, trivial⟩
                focus
                  refine go tbl_ok false ?_
                  conv => whnf
                  refine loopA ?_
                  refine preA tbl_ok false 6 rfl rfl rfl (by kernel_rfl) rfl (andL_mem (by repeat' (first | exact trivial | refine ⟨?_, ?_⟩ | (show _ ∧ _; omega) | omega))) ?_
                  refine preA tbl_ok false 7 rfl rfl rfl (by kernel_rfl) rfl (andL_mem (by repeat' (first | exact trivial | refine ⟨?_, ?_⟩ | (show _ ∧ _; omega) | omega))) ?_
                  refine splitA [5, 8] (by kernel_rfl) ⟨?_, ?_, trivial⟩
                  focus
                    refine go tbl_ok false ?_
                    conv => whnf
                    refine loopA ?_
                    refine splitA [8] (by kernel_rfl) ⟨?_, trivial⟩
                    refine go tbl_ok false ?_
                    conv => whnf
                    refine loopA ?_
                    refine preA tbl_ok false 9 rfl rfl rfl (by kernel_rfl) rfl (andL_mem (by repeat' (first | exact trivial | refine ⟨?_, ?_⟩ | (show _ ∧ _; omega) | omega))) ?_
                    refine preA tbl_ok false 10 rfl rfl rfl (by kernel_rfl) rfl (andL_mem (by repeat' (first | exact trivial | refine ⟨?_, ?_⟩ | (show _ ∧ _; omega) | omega))) ?_
                    refine splitA [11] (by kernel_rfl) ⟨?_, trivial⟩
                    refine go tbl_ok false ?_
                    conv => whnf
                    refine loopA ?_
                    refine doneA (by kernel_rfl) (go tbl_ok false ?_)
                    conv => whnf
                  rotate_left 1
                  focus
                    refine go tbl_ok false ?_
                    conv => whnf
                    refine loopA ?_
                    refine splitA [5] (by kernel_rfl) ⟨?_, trivial⟩
                    refine go tbl_ok false ?_
                    conv => whnf
                    refine loopA ?_
                    refine preA tbl_ok false 9 rfl rfl rfl (by kernel_rfl) rfl (andL_mem (by repeat' (first | exact trivial | refine ⟨?_, ?_⟩ | (show _ ∧ _; omega) | omega))) ?_
                    refine preA tbl_ok false 10 rfl rfl rfl (by kernel_rfl) rfl (andL_mem (by repeat' (first | exact trivial | refine ⟨?_, ?_⟩ | (show _ ∧ _; omega) | omega))) ?_
                    refine splitA [11] (by kernel_rfl) ⟨?_, trivial⟩
                    refine go tbl_ok false ?_
                    conv => whnf
                    refine loopA ?_
                    refine doneA (by kernel_rfl) (go tbl_ok false ?_)
                    conv => whnf
                rotate_left 2
                focus
                  refine go tbl_ok false ?_
                  conv => whnf
                  refine loopA ?_
                  refine splitA [2] (by kernel_rfl) ⟨?_, trivial⟩
                  refine go tbl_ok false ?_
                  conv => whnf
                  refine loopA ?_
                  refine preA tbl_ok false 6 rfl rfl rfl (by kernel_rfl) rfl (andL_mem (by repeat' (first | exact trivial | refine ⟨?_, ?_⟩ | (show _ ∧ _; omega) | omega))) ?_
                  refine preA tbl_ok false 7 rfl rfl rfl (by kernel_rfl) rfl (andL_mem (by repeat' (first | exact trivial | refine ⟨?_, ?_⟩ | (show _ ∧ _; omega) | omega))) ?_
                  refine splitA [8] (by kernel_rfl) ⟨?_, trivial⟩
                  refine go tbl_ok false ?_
                  conv => whnf
                  refine loopA ?_
                  refine preA tbl_ok false 9 rfl rfl rfl (by kernel_rfl) rfl (andL_mem (by repeat' (first | exact trivial | refine ⟨?_, ?_⟩ | (show _ ∧ _; omega) | omega))) ?_
                  refine preA tbl_ok false 10 rfl rfl rfl (by kernel_rfl) rfl (andL_mem (by repeat' (first | exact trivial | refine ⟨?_, ?_⟩ | (show _ ∧ _; omega) | omega))) ?_
                  refine splitA [11] (by kernel_rfl) ⟨?_, trivial⟩
                  refine go tbl_ok false ?_
                  conv => whnf
                  refine loopA ?_
                  refine doneA (by kernel_rfl) (go tbl_ok false ?_)
                  conv => whnf
              rotate_left 3
              focus
                refine go tbl_ok false ?_
                conv => whnf
                refine loopA ?_
                refine splitA [1] (by kernel_rfl) ⟨?_, trivial⟩
                refine go tbl_ok false ?_
                conv => whnf
                (repeat (refine ⟨by first | omega | (show _ ∧ _; omega) | ((repeat (first | rw [ByteArray.size_append] | rw [bsz] | rw [List.size_toArray] | rw [List.length_cons] | rw [List.length_nil])) <;> omega) | ((repeat rw [Int.toNat_natCast]) <;> first | omega | (show _ ∧ _; omega)) | (simp only [ByteArray.size_append, bsz, List.size_toArray, List.length_cons, List.length_nil]; omega) | (simp only [Int.toNat_natCast]; first | omega | (show _ ∧ _; omega)) | decide, ?_⟩; conv => whnf))
                refine loopA ?_
                refine splitA [2] (by kernel_rfl) ⟨?_, trivial⟩
                refine go tbl_ok false ?_
                conv => whnf
                refine loopA ?_
                refine preA tbl_ok false 6 rfl rfl rfl (by kernel_rfl) rfl (andL_mem (by repeat' (first | exact trivial | refine ⟨?_, ?_⟩ | (show _ ∧ _; omega) | omega))) ?_
                refine preA tbl_ok false 7 rfl rfl rfl (by kernel_rfl) rfl (andL_mem (by repeat' (first | exact trivial | refine ⟨?_, ?_⟩ | (show _ ∧ _; omega) | omega))) ?_
                refine splitA [8] (by kernel_rfl) ⟨?_, trivial⟩
                refine go tbl_ok false ?_
                conv => whnf
                refine loopA ?_
                refine preA tbl_ok false 9 rfl rfl rfl (by kernel_rfl) rfl (andL_mem (by repeat' (first | exact trivial | refine ⟨?_, ?_⟩ | (show _ ∧ _; omega) | omega))) ?_
                refine preA tbl_ok false 10 rfl rfl rfl (by kernel_rfl) rfl (andL_mem (by repeat' (first | exact trivial | refine ⟨?_, ?_⟩ | (show _ ∧ _; omega) | omega))) ?_
                refine splitA [11] (by kernel_rfl) ⟨?_, trivial⟩
                refine go tbl_ok false ?_
                conv => whnf
                refine loopA ?_
                refine doneA (by kernel_rfl) (go tbl_ok false ?_)
                conv => whnf
            all_goals
              have hgn := good_succ hg (by rw [← ht]; exact ((head_step hst ⟨p1, p2, g, p3, p4⟩ p5)).1)
              (repeat (refine ⟨by first | omega | (show _ ∧ _; omega) | ((repeat (first | rw [ByteArray.size_append] | rw [bsz] | rw [List.size_toArray] | rw [List.length_cons] | rw [List.length_nil])) <;> omega) | ((repeat rw [Int.toNat_natCast]) <;> first | omega | (show _ ∧ _; omega)) | (simp only [ByteArray.size_append, bsz, List.size_toArray, List.length_cons, List.length_nil]; omega) | (simp only [Int.toNat_natCast]; first | omega | (show _ ∧ _; omega)) | decide, ?_⟩; conv => whnf))
              refine loopE [] (⟨j.k + 1, (true, ⟨⟨j.t.2.graph.nodes, (numsR ((cutB x).getD j.k default) 1).getD 0 default, (numsR ((cutB x).getD j.k default) 1).getD 1 default⟩, j.t.2.inputs, j.t.2.picks, j.t.2.rounds⟩)⟩) (⟨by show j.k + 1 ≤ _; omega, hgn, by show (true, ⟨⟨j.t.2.graph.nodes, (numsR ((cutB x).getD j.k default) 1).getD 0 default, (numsR ((cutB x).getD j.k default) 1).getD 1 default⟩, j.t.2.inputs, j.t.2.picks, j.t.2.rounds⟩) = stAt _ (j.k + 1); rw [stAt_succ hk2, ← ht]; exact ((head_step hst ⟨p1, p2, g, p3, p4⟩ p5)).2.symm⟩) (by show (cutB x).length - (j.k + 1) < _; omega) ⟨rfl, rfl, trivial⟩ ⟨rfl, rfl, rfl, trivial⟩ (by repeat' (first | exact trivial | exact rfl | refine ⟨?_, ?_⟩)) (by kernel_rfl) (by first | exact trivial | exact ⟨rfl, trivial⟩) (by kernel_rfl)
    · have a : partsB ((cutB x).getD j.k default) = false := by simpa using a
      have hb : ¬ BlankP ((cutB x).getD j.k default) := fun c => by have := c.1; rw [a] at this; cases this
      repeat (first | (refine ite_f (by first | with_reducible rfl | assumption | (simp; done) | fail) ?_; conv => whnf) | (refine ite_t (by first | with_reducible rfl | assumption | (simp; done) | fail) ?_; conv => whnf) | (refine ⟨by first | omega | (show _ ∧ _; omega) | ((repeat (first | rw [ByteArray.size_append] | rw [bsz] | rw [List.size_toArray] | rw [List.length_cons] | rw [List.length_nil])) <;> omega) | ((repeat rw [Int.toNat_natCast]) <;> first | omega | (show _ ∧ _; omega)) | (simp only [ByteArray.size_append, bsz, List.size_toArray, List.length_cons, List.length_nil]; omega) | (simp only [Int.toNat_natCast]; first | omega | (show _ ∧ _; omega)) | decide, ?_⟩; conv => whnf))
      refine ⟨fun c => ?_, fun c => ?_⟩ <;> conv => whnf
      · have hst := step_add hb c
        repeat (first | (refine ite_f (by first | with_reducible rfl | assumption | (simp; done) | fail) ?_; conv => whnf) | (refine ite_t (by first | with_reducible rfl | assumption | (simp; done) | fail) ?_; conv => whnf) | (refine ⟨by first | omega | (show _ ∧ _; omega) | ((repeat (first | rw [ByteArray.size_append] | rw [bsz] | rw [List.size_toArray] | rw [List.length_cons] | rw [List.length_nil])) <;> omega) | ((repeat rw [Int.toNat_natCast]) <;> first | omega | (show _ ∧ _; omega)) | (simp only [ByteArray.size_append, bsz, List.size_toArray, List.length_cons, List.length_nil]; omega) | (simp only [Int.toNat_natCast]; first | omega | (show _ ∧ _; omega)) | decide, ?_⟩; conv => whnf))
        refine callC [.agg [.own 2, .c (vi j.t.2.graph.workers), .c (vi j.t.2.graph.cap), .own 3, .own 4, .c (vi j.t.2.rounds)]] (implAdd j.t.2 ((cutB x).getD j.k default) hsc hl) hH hp (by repeat' (first | exact trivial | exact outC_val _ _ | exact rfl | exact .inr ⟨rfl, rfl, _, _, rfl⟩ | refine ⟨?_, ?_⟩)) rfl rfl (fun r hr => go tbl_ok false ?_)
        conv => whnf
        refine ⟨fun d => ?_, fun d => ?_⟩ <;> conv => whnf
        · have d : r.2 = false := by simpa using d
          repeat (first | (refine ite_f (by first | with_reducible rfl | assumption | (simp; done) | fail) ?_; conv => whnf) | (refine ite_t (by first | with_reducible rfl | assumption | (simp; done) | fail) ?_; conv => whnf) | (refine ⟨by first | omega | (show _ ∧ _; omega) | ((repeat (first | rw [ByteArray.size_append] | rw [bsz] | rw [List.size_toArray] | rw [List.length_cons] | rw [List.length_nil])) <;> omega) | ((repeat rw [Int.toNat_natCast]) <;> first | omega | (show _ ∧ _; omega)) | (simp only [ByteArray.size_append, bsz, List.size_toArray, List.length_cons, List.length_nil]; omega) | (simp only [Int.toNat_natCast]; first | omega | (show _ ∧ _; omega)) | decide, ?_⟩; conv => whnf))
          (repeat (refine ⟨by first | omega | (show _ ∧ _; omega) | ((repeat (first | rw [ByteArray.size_append] | rw [bsz] | rw [List.size_toArray] | rw [List.length_cons] | rw [List.length_nil])) <;> omega) | ((repeat rw [Int.toNat_natCast]) <;> first | omega | (show _ ∧ _; omega)) | (simp only [ByteArray.size_append, bsz, List.size_toArray, List.length_cons, List.length_nil]; omega) | (simp only [Int.toNat_natCast]; first | omega | (show _ ∧ _; omega)) | decide, ?_⟩; conv => whnf))
          refine retW tbl_ok rfl rfl ?_
          rw [readScript_bad h0 hk2 hg (by rw [← ht, hst.1, ← hr.1]; exact d)]
          exact (by repeat' (first | exact trivial | exact outC_val _ _ | exact rfl | exact .inr ⟨rfl, rfl, _, _, rfl⟩ | refine ⟨?_, ?_⟩))
        · have d : r.2 = true := by simpa using d
          repeat (first | (refine ite_f (by first | with_reducible rfl | assumption | (simp; done) | fail) ?_; conv => whnf) | (refine ite_t (by first | with_reducible rfl | assumption | (simp; done) | fail) ?_; conv => whnf) | (refine ⟨by first | omega | (show _ ∧ _; omega) | ((repeat (first | rw [ByteArray.size_append] | rw [bsz] | rw [List.size_toArray] | rw [List.length_cons] | rw [List.length_nil])) <;> omega) | ((repeat rw [Int.toNat_natCast]) <;> first | omega | (show _ ∧ _; omega)) | (simp only [ByteArray.size_append, bsz, List.size_toArray, List.length_cons, List.length_nil]; omega) | (simp only [Int.toNat_natCast]; first | omega | (show _ ∧ _; omega)) | decide, ?_⟩; conv => whnf))
          have hgn := good_succ hg (by rw [← ht]; exact ((addC_step c hst hr d)).1)
          (repeat (refine ⟨by first | omega | (show _ ∧ _; omega) | ((repeat (first | rw [ByteArray.size_append] | rw [bsz] | rw [List.size_toArray] | rw [List.length_cons] | rw [List.length_nil])) <;> omega) | ((repeat rw [Int.toNat_natCast]) <;> first | omega | (show _ ∧ _; omega)) | (simp only [ByteArray.size_append, bsz, List.size_toArray, List.length_cons, List.length_nil]; omega) | (simp only [Int.toNat_natCast]; first | omega | (show _ ∧ _; omega)) | decide, ?_⟩; conv => whnf))
          refine loopE [(2, 5), (3, 6), (4, 7)] (⟨j.k + 1, (j.t.1, r.1)⟩) (⟨by show j.k + 1 ≤ _; omega, hgn, by show (j.t.1, r.1) = stAt _ (j.k + 1); rw [stAt_succ hk2, ← ht]; exact ((addC_step c hst hr d)).2.symm⟩) (by show (cutB x).length - (j.k + 1) < _; omega) ⟨rfl, rfl, trivial⟩ ⟨rfl, rfl, rfl, trivial⟩ (by repeat' (first | exact trivial | exact rfl | refine ⟨?_, ?_⟩)) (by kernel_rfl) (by first | exact trivial | exact ⟨rfl, trivial⟩) (by kernel_rfl)
      · have c : j.t.1 = false := by simpa using c
        have hst := step_head hb c
        repeat (first | (refine ite_f (by first | with_reducible rfl | assumption | (simp; done) | fail) ?_; conv => whnf) | (refine ite_t (by first | with_reducible rfl | assumption | (simp; done) | fail) ?_; conv => whnf) | (refine ⟨by first | omega | (show _ ∧ _; omega) | ((repeat (first | rw [ByteArray.size_append] | rw [bsz] | rw [List.size_toArray] | rw [List.length_cons] | rw [List.length_nil])) <;> omega) | ((repeat rw [Int.toNat_natCast]) <;> first | omega | (show _ ∧ _; omega)) | (simp only [ByteArray.size_append, bsz, List.size_toArray, List.length_cons, List.length_nil]; omega) | (simp only [Int.toNat_natCast]; first | omega | (show _ ∧ _; omega)) | decide, ?_⟩; conv => whnf))
        refine callRT (implNumbersP ((cutB x).getD j.k default) 1 hl (by decide)) tabStays hW rfl (go tbl_ok false ?_)
        conv => whnf
        refine ⟨fun d0 => ?_, fun d0 => ?_⟩ <;> conv => whnf
        · have d0 : okR ((cutB x).getD j.k default) 1 = false := by simpa using d0
          repeat (first | (refine ite_f (by first | with_reducible rfl | assumption | (simp; done) | fail) ?_; conv => whnf) | (refine ite_t (by first | with_reducible rfl | assumption | (simp; done) | fail) ?_; conv => whnf) | (refine ⟨by first | omega | (show _ ∧ _; omega) | ((repeat (first | rw [ByteArray.size_append] | rw [bsz] | rw [List.size_toArray] | rw [List.length_cons] | rw [List.length_nil])) <;> omega) | ((repeat rw [Int.toNat_natCast]) <;> first | omega | (show _ ∧ _; omega)) | (simp only [ByteArray.size_append, bsz, List.size_toArray, List.length_cons, List.length_nil]; omega) | (simp only [Int.toNat_natCast]; first | omega | (show _ ∧ _; omega)) | decide, ?_⟩; conv => whnf))
          (repeat (refine ⟨by first | omega | (show _ ∧ _; omega) | ((repeat (first | rw [ByteArray.size_append] | rw [bsz] | rw [List.size_toArray] | rw [List.length_cons] | rw [List.length_nil])) <;> omega) | ((repeat rw [Int.toNat_natCast]) <;> first | omega | (show _ ∧ _; omega)) | (simp only [ByteArray.size_append, bsz, List.size_toArray, List.length_cons, List.length_nil]; omega) | (simp only [Int.toNat_natCast]; first | omega | (show _ ∧ _; omega)) | decide, ?_⟩; conv => whnf))
          refine retW tbl_ok rfl rfl ?_
          rw [readScript_bad h0 hk2 hg (by rw [← ht, hst.1]; exact decide_eq_false fun h => by have := (okR_head h).1; rw [d0] at this; cases this)]
          exact (by repeat' (first | exact trivial | exact outC_val _ _ | exact rfl | exact .inr ⟨rfl, rfl, _, _, rfl⟩ | refine ⟨?_, ?_⟩))
        have d0 : okR ((cutB x).getD j.k default) 1 = true := by simpa using d0
        have hpr := partsR_is d0
        repeat (first | (refine ite_f (by first | with_reducible rfl | assumption | (simp; done) | fail) ?_; conv => whnf) | (refine ite_t (by first | with_reducible rfl | assumption | (simp; done) | fail) ?_; conv => whnf) | (refine ⟨by first | omega | (show _ ∧ _; omega) | ((repeat (first | rw [ByteArray.size_append] | rw [bsz] | rw [List.size_toArray] | rw [List.length_cons] | rw [List.length_nil])) <;> omega) | ((repeat rw [Int.toNat_natCast]) <;> first | omega | (show _ ∧ _; omega)) | (simp only [ByteArray.size_append, bsz, List.size_toArray, List.length_cons, List.length_nil]; omega) | (simp only [Int.toNat_natCast]; first | omega | (show _ ∧ _; omega)) | decide, ?_⟩; conv => whnf))
        refine ⟨fun d => have d := bne_iff_ne.1 d; ?_, fun d => have d := bne_eq_false_iff_eq.1 d; ?_⟩ <;> conv => whnf
        · have d : (numsR ((cutB x).getD j.k default) 1).length ≠ 2 := by omega
          repeat (first | (refine ite_f (by first | with_reducible rfl | assumption | (simp; done) | fail) ?_; conv => whnf) | (refine ite_t (by first | with_reducible rfl | assumption | (simp; done) | fail) ?_; conv => whnf) | (refine ⟨by first | omega | (show _ ∧ _; omega) | ((repeat (first | rw [ByteArray.size_append] | rw [bsz] | rw [List.size_toArray] | rw [List.length_cons] | rw [List.length_nil])) <;> omega) | ((repeat rw [Int.toNat_natCast]) <;> first | omega | (show _ ∧ _; omega)) | (simp only [ByteArray.size_append, bsz, List.size_toArray, List.length_cons, List.length_nil]; omega) | (simp only [Int.toNat_natCast]; first | omega | (show _ ∧ _; omega)) | decide, ?_⟩; conv => whnf))
          (repeat (refine ⟨by first | omega | (show _ ∧ _; omega) | ((repeat (first | rw [ByteArray.size_append] | rw [bsz] | rw [List.size_toArray] | rw [List.length_cons] | rw [List.length_nil])) <;> omega) | ((repeat rw [Int.toNat_natCast]) <;> first | omega | (show _ ∧ _; omega)) | (simp only [ByteArray.size_append, bsz, List.size_toArray, List.length_cons, List.length_nil]; omega) | (simp only [Int.toNat_natCast]; first | omega | (show _ ∧ _; omega)) | decide, ?_⟩; conv => whnf))
          refine retW tbl_ok rfl rfl ?_
          rw [readScript_bad h0 hk2 hg (by rw [← ht, hst.1]; exact decide_eq_false fun h => d (okR_head h).2)]
          exact (by repeat' (first | exact trivial | exact outC_val _ _ | exact rfl | exact .inr ⟨rfl, rfl, _, _, rfl⟩ | refine ⟨?_, ?_⟩))
        have d : (numsR ((cutB x).getD j.k default) 1).length = 2 := by omega
        obtain ⟨p1, p2, p3, p4, p5⟩ := okR_three d0 d
        have hpl : (partsR ((cutB x).getD j.k default) 1).length = 3 := by rw [hpr]; exact p2
        repeat (first | (refine ite_f (by first | with_reducible rfl | assumption | (simp; done) | fail) ?_; conv => whnf) | (refine ite_t (by first | with_reducible rfl | assumption | (simp; done) | fail) ?_; conv => whnf) | (refine ⟨by first | omega | (show _ ∧ _; omega) | ((repeat (first | rw [ByteArray.size_append] | rw [bsz] | rw [List.size_toArray] | rw [List.length_cons] | rw [List.length_nil])) <;> omega) | ((repeat rw [Int.toNat_natCast]) <;> first | omega | (show _ ∧ _; omega)) | (simp only [ByteArray.size_append, bsz, List.size_toArray, List.length_cons, List.length_nil]; omega) | (simp only [Int.toNat_natCast]; first | omega | (show _ ∧ _; omega)) | decide, ?_⟩; conv => whnf))
        (repeat (refine ⟨by first | omega | (show _ ∧ _; omega) | ((repeat (first | rw [ByteArray.size_append] | rw [bsz] | rw [List.size_toArray] | rw [List.length_cons] | rw [List.length_nil])) <;> omega) | ((repeat rw [Int.toNat_natCast]) <;> first | omega | (show _ ∧ _; omega)) | (simp only [ByteArray.size_append, bsz, List.size_toArray, List.length_cons, List.length_nil]; omega) | (simp only [Int.toNat_natCast]; first | omega | (show _ ∧ _; omega)) | decide, ?_⟩; conv => whnf))
        refine ⟨fun g => ?_, fun g => ?_⟩ <;> conv => whnf
        · have g : word0 ((cutB x).getD j.k default) ≠ (⟨#[103, 114, 97, 112, 104]⟩ : ByteArray) := fun e => by
            rw [hpr, show (partsL ((cutB x).getD j.k default)).getD (Int.toNat 0) default = (⟨#[103, 114, 97, 112, 104]⟩ : ByteArray) from e, ba_self] at g
            cases g
          repeat (first | (refine ite_f (by first | with_reducible rfl | assumption | (simp; done) | fail) ?_; conv => whnf) | (refine ite_t (by first | with_reducible rfl | assumption | (simp; done) | fail) ?_; conv => whnf) | (refine ⟨by first | omega | (show _ ∧ _; omega) | ((repeat (first | rw [ByteArray.size_append] | rw [bsz] | rw [List.size_toArray] | rw [List.length_cons] | rw [List.length_nil])) <;> omega) | ((repeat rw [Int.toNat_natCast]) <;> first | omega | (show _ ∧ _; omega)) | (simp only [ByteArray.size_append, bsz, List.size_toArray, List.length_cons, List.length_nil]; omega) | (simp only [Int.toNat_natCast]; first | omega | (show _ ∧ _; omega)) | decide, ?_⟩; conv => whnf))
          (repeat (refine ⟨by first | omega | (show _ ∧ _; omega) | ((repeat (first | rw [ByteArray.size_append] | rw [bsz] | rw [List.size_toArray] | rw [List.length_cons] | rw [List.length_nil])) <;> omega) | ((repeat rw [Int.toNat_natCast]) <;> first | omega | (show _ ∧ _; omega)) | (simp only [ByteArray.size_append, bsz, List.size_toArray, List.length_cons, List.length_nil]; omega) | (simp only [Int.toNat_natCast]; first | omega | (show _ ∧ _; omega)) | decide, ?_⟩; conv => whnf))
          refine retW tbl_ok rfl rfl ?_
          rw [readScript_bad h0 hk2 hg (by rw [← ht, hst.1]; exact decide_eq_false fun h => g h.2.2.1)]
          exact (by repeat' (first | exact trivial | exact outC_val _ _ | exact rfl | exact .inr ⟨rfl, rfl, _, _, rfl⟩ | refine ⟨?_, ?_⟩))
        have g : word0 ((cutB x).getD j.k default) = (⟨#[103, 114, 97, 112, 104]⟩ : ByteArray) := by
          have := ba_neqf g
          rw [hpr] at this
          exact this
        repeat (first | (refine ite_f (by first | with_reducible rfl | assumption | (simp; done) | fail) ?_; conv => whnf) | (refine ite_t (by first | with_reducible rfl | assumption | (simp; done) | fail) ?_; conv => whnf) | (refine ⟨by first | omega | (show _ ∧ _; omega) | ((repeat (first | rw [ByteArray.size_append] | rw [bsz] | rw [List.size_toArray] | rw [List.length_cons] | rw [List.length_nil])) <;> omega) | ((repeat rw [Int.toNat_natCast]) <;> first | omega | (show _ ∧ _; omega)) | (simp only [ByteArray.size_append, bsz, List.size_toArray, List.length_cons, List.length_nil]; omega) | (simp only [Int.toNat_natCast]; first | omega | (show _ ∧ _; omega)) | decide, ?_⟩; conv => whnf))
        refine drawA rfl ?_
        refine preA tbl_ok false 0 rfl rfl rfl (by kernel_rfl) rfl (andL_mem (by repeat' (first | exact trivial | refine ⟨?_, ?_⟩ | (show _ ∧ _; omega) | omega))) ?_
        refine preA tbl_ok false 3 rfl rfl rfl (by kernel_rfl) rfl (andL_mem (by repeat' (first | exact trivial | refine ⟨?_, ?_⟩ | (show _ ∧ _; omega) | omega))) ?_
        refine splitA [1, 4] (by kernel_rfl) ⟨?_, ?_, trivial⟩
        focus
          refine go tbl_ok false ?_
          conv => whnf
          (repeat (refine ⟨by first | omega | (show _ ∧ _; omega) | ((repeat (first | rw [ByteArray.size_append] | rw [bsz] | rw [List.size_toArray] | rw [List.length_cons] | rw [List.length_nil])) <;> omega) | ((repeat rw [Int.toNat_natCast]) <;> first | omega | (show _ ∧ _; omega)) | (simp only [ByteArray.size_append, bsz, List.size_toArray, List.length_cons, List.length_nil]; omega) | (simp only [Int.toNat_natCast]; first | omega | (show _ ∧ _; omega)) | decide, ?_⟩; conv => whnf))
          refine loopA ?_
          refine splitA [2, 4] (by kernel_rfl) ⟨?_, ?_, trivial⟩
          focus
            refine go tbl_ok false ?_
            conv => whnf
            refine loopA ?_
            refine preA tbl_ok false 6 rfl rfl rfl (by kernel_rfl) rfl (andL_mem (by repeat' (first | exact trivial | refine ⟨?_, ?_⟩ | (show _ ∧ _; omega) | omega))) ?_
            refine preA tbl_ok false 7 rfl rfl rfl (by kernel_rfl) rfl (andL_mem (by repeat' (first | exact trivial | refine ⟨?_, ?_⟩ | (show _ ∧ _; omega) | omega))) ?_
            refine splitA [4, 8] (by kernel_rfl) ⟨?_, ?_, trivial⟩
            focus
              refine go tbl_ok false ?_
              conv => whnf
              (repeat (refine ⟨by first | omega | (show _ ∧ _; omega) | ((repeat (first | rw [ByteArray.size_append] | rw [bsz] | rw [List.size_toArray] | rw [List.length_cons] | rw [List.length_nil])) <;> omega) | ((repeat rw [Int.toNat_natCast]) <;> first | omega | (show _ ∧ _; omega)) | (simp only [ByteArray.size_append, bsz, List.size_toArray, List.length_cons, List.length_nil]; omega) | (simp only [Int.toNat_natCast]; first | omega | (show _ ∧ _; omega)) | decide, ?_⟩; conv => whnf))
              refine loopA ?_
              refine splitA [5, 8] (by kernel_rfl) ⟨?_, ?_, trivial⟩
              focus
                refine go tbl_ok false ?_
                conv => whnf
                refine loopA ?_
                refine splitA [8] (by kernel_rfl) ⟨?_, trivial⟩
                refine go tbl_ok false ?_
                conv => whnf
                refine loopA ?_
                refine preA tbl_ok false 9 rfl rfl rfl (by kernel_rfl) rfl (andL_mem (by repeat' (first | exact trivial | refine ⟨?_, ?_⟩ | (show _ ∧ _; omega) | omega))) ?_
                refine preA tbl_ok false 10 rfl rfl rfl (by kernel_rfl) rfl (andL_mem (by repeat' (first | exact trivial | refine ⟨?_, ?_⟩ | (show _ ∧ _; omega) | omega))) ?_
                refine splitA [11] (by kernel_rfl) ⟨?_, trivial⟩
                refine go tbl_ok false ?_
                conv => whnf
                refine loopA ?_
                refine doneA (by kernel_rfl) (go tbl_ok false ?_)
                conv => whnf
              rotate_left 1
              focus
                refine go tbl_ok false ?_
                conv => whnf
                refine loopA ?_
                refine splitA [5] (by kernel_rfl) ⟨?_, trivial⟩
                refine go tbl_ok false ?_
                conv => whnf
                refine loopA ?_
                refine preA tbl_ok false 9 rfl rfl rfl (by kernel_rfl) rfl (andL_mem (by repeat' (first | exact trivial | refine ⟨?_, ?_⟩ | (show _ ∧ _; omega) | omega))) ?_
                refine preA tbl_ok false 10 rfl rfl rfl (by kernel_rfl) rfl (andL_mem (by repeat' (first | exact trivial | refine ⟨?_, ?_⟩ | (show _ ∧ _; omega) | omega))) ?_
                refine splitA [11] (by kernel_rfl) ⟨?_, trivial⟩
                refine go tbl_ok false ?_
                conv => whnf
                refine loopA ?_
                refine doneA (by kernel_rfl) (go tbl_ok false ?_)
                conv => whnf
            rotate_left 2
            focus
              refine go tbl_ok false ?_
              conv => whnf
              refine loopA ?_
              refine splitA [4] (by kernel_rfl) ⟨?_, trivial⟩
              refine go tbl_ok false ?_
              conv => whnf
              (repeat (refine ⟨by first | omega | (show _ ∧ _; omega) | ((repeat (first | rw [ByteArray.size_append] | rw [bsz] | rw [List.size_toArray] | rw [List.length_cons] | rw [List.length_nil])) <;> omega) | ((repeat rw [Int.toNat_natCast]) <;> first | omega | (show _ ∧ _; omega)) | (simp only [ByteArray.size_append, bsz, List.size_toArray, List.length_cons, List.length_nil]; omega) | (simp only [Int.toNat_natCast]; first | omega | (show _ ∧ _; omega)) | decide, ?_⟩; conv => whnf))
              refine loopA ?_
              refine splitA [5] (by kernel_rfl) ⟨?_, trivial⟩
              refine go tbl_ok false ?_
              conv => whnf
              refine loopA ?_
              refine preA tbl_ok false 9 rfl rfl rfl (by kernel_rfl) rfl (andL_mem (by repeat' (first | exact trivial | refine ⟨?_, ?_⟩ | (show _ ∧ _; omega) | omega))) ?_
              refine preA tbl_ok false 10 rfl rfl rfl (by kernel_rfl) rfl (andL_mem (by repeat' (first | exact trivial | refine ⟨?_, ?_⟩ | (show _ ∧ _; omega) | omega))) ?_
              refine splitA [11] (by kernel_rfl) ⟨?_, trivial⟩
              refine go tbl_ok false ?_
              conv => whnf
              refine loopA ?_
              refine doneA (by kernel_rfl) (go tbl_ok false ?_)
              conv => whnf
          rotate_left 3
          focus
            refine go tbl_ok false ?_
            conv => whnf
            (repeat (refine ⟨by first | omega | (show _ ∧ _; omega) | ((repeat (first | rw [ByteArray.size_append] | rw [bsz] | rw [List.size_toArray] | rw [List.length_cons] | rw [List.length_nil])) <;> omega) | ((repeat rw [Int.toNat_natCast]) <;> first | omega | (show _ ∧ _; omega)) | (simp only [ByteArray.size_append, bsz, List.size_toArray, List.length_cons, List.length_nil]; omega) | (simp only [Int.toNat_natCast]; first | omega | (show _ ∧ _; omega)) | decide, ?_⟩; conv => whnf))
            refine loopA ?_
            refine splitA [2, 5] (by kernel_rfl) ⟨?_, ?_, trivial⟩
            focus
              refine go tbl_ok false ?_
              conv => whnf
              refine loopA ?_
              refine preA tbl_ok false 6 rfl rfl rfl (by kernel_rfl) rfl (andL_mem (by repeat' (first | exact trivial | refine ⟨?_, ?_⟩ | (show _ ∧ _; omega) | omega))) ?_
              refine preA tbl_ok false 7 rfl rfl rfl (by kernel_rfl) rfl (andL_mem (by repeat' (first | exact trivial | refine ⟨?_, ?_⟩ | (show _ ∧ _; omega) | omega))) ?_
              refine splitA [5, 8] (by kernel_rfl) ⟨?_, ?_, trivial⟩
              focus
                refine go tbl_ok false ?_
                conv => whnf
                refine loopA ?_
                refine splitA [8] (by kernel_rfl) ⟨?_, trivial⟩
                refine go tbl_ok false ?_
                conv => whnf
                refine loopA ?_
                refine preA tbl_ok false 9 rfl rfl rfl (by kernel_rfl) rfl (andL_mem (by repeat' (first | exact trivial | refine ⟨?_, ?_⟩ | (show _ ∧ _; omega) | omega))) ?_
                refine preA tbl_ok false 10 rfl rfl rfl (by kernel_rfl) rfl (andL_mem (by repeat' (first | exact trivial | refine ⟨?_, ?_⟩ | (show _ ∧ _; omega) | omega))) ?_
                refine splitA [11] (by kernel_rfl) ⟨?_, trivial⟩
                refine go tbl_ok false ?_
                conv => whnf
                refine loopA ?_
                refine doneA (by kernel_rfl) (go tbl_ok false ?_)
                conv => whnf
              rotate_left 1
              focus
                refine go tbl_ok false ?_
                conv => whnf
                refine loopA ?_
                refine splitA [5] (by kernel_rfl) ⟨?_, trivial⟩
                refine go tbl_ok false ?_
                conv => whnf
                refine loopA ?_
                refine preA tbl_ok false 9 rfl rfl rfl (by kernel_rfl) rfl (andL_mem (by repeat' (first | exact trivial | refine ⟨?_, ?_⟩ | (show _ ∧ _; omega) | omega))) ?_
                refine preA tbl_ok false 10 rfl rfl rfl (by kernel_rfl) rfl (andL_mem (by repeat' (first | exact trivial | refine ⟨?_, ?_⟩ | (show _ ∧ _; omega) | omega))) ?_
                refine splitA [11] (by kernel_rfl) ⟨?_, trivial⟩
                refine go tbl_ok false ?_
                conv => whnf
                refine loopA ?_
                refine doneA (by kernel_rfl) (go tbl_ok false ?_)
                conv => whnf
            rotate_left 2
            focus
              refine go tbl_ok false ?_
              conv => whnf
              refine loopA ?_
              refine splitA [2] (by kernel_rfl) ⟨?_, trivial⟩
              refine go tbl_ok false ?_
              conv => whnf
              refine loopA ?_
              refine preA tbl_ok false 6 rfl rfl rfl (by kernel_rfl) rfl (andL_mem (by repeat' (first | exact trivial | refine ⟨?_, ?_⟩ | (show _ ∧ _; omega) | omega))) ?_
              refine preA tbl_ok false 7 rfl rfl rfl (by kernel_rfl) rfl (andL_mem (by repeat' (first | exact trivial | refine ⟨?_, ?_⟩ | (show _ ∧ _; omega) | omega))) ?_
              refine splitA [8] (by kernel_rfl) ⟨?_, trivial⟩
              refine go tbl_ok false ?_
              conv => whnf
              refine loopA ?_
              refine preA tbl_ok false 9 rfl rfl rfl (by kernel_rfl) rfl (andL_mem (by repeat' (first | exact trivial | refine ⟨?_, ?_⟩ | (show _ ∧ _; omega) | omega))) ?_
              refine preA tbl_ok false 10 rfl rfl rfl (by kernel_rfl) rfl (andL_mem (by repeat' (first | exact trivial | refine ⟨?_, ?_⟩ | (show _ ∧ _; omega) | omega))) ?_
              refine splitA [11] (by kernel_rfl) ⟨?_, trivial⟩
              refine go tbl_ok false ?_
              conv => whnf
              refine loopA ?_
              refine doneA (by kernel_rfl) (go tbl_ok false ?_)
              conv => whnf
        rotate_left 6
        focus
          refine go tbl_ok false ?_
          conv => whnf
          (repeat (refine ⟨by first | omega | (show _ ∧ _; omega) | ((repeat (first | rw [ByteArray.size_append] | rw [bsz] | rw [List.size_toArray] | rw [List.length_cons] | rw [List.length_nil])) <;> omega) | ((repeat rw [Int.toNat_natCast]) <;> first | omega | (show _ ∧ _; omega)) | (simp only [ByteArray.size_append, bsz, List.size_toArray, List.length_cons, List.length_nil]; omega) | (simp only [Int.toNat_natCast]; first | omega | (show _ ∧ _; omega)) | decide, ?_⟩; conv => whnf))
          refine loopA ?_
          refine splitA [1, 5] (by kernel_rfl) ⟨?_, ?_, trivial⟩
          focus
            refine go tbl_ok false ?_
            conv => whnf
            (repeat (refine ⟨by first | omega | (show _ ∧ _; omega) | ((repeat (first | rw [ByteArray.size_append] | rw [bsz] | rw [List.size_toArray] | rw [List.length_cons] | rw [List.length_nil])) <;> omega) | ((repeat rw [Int.toNat_natCast]) <;> first | omega | (show _ ∧ _; omega)) | (simp only [ByteArray.size_append, bsz, List.size_toArray, List.length_cons, List.length_nil]; omega) | (simp only [Int.toNat_natCast]; first | omega | (show _ ∧ _; omega)) | decide, ?_⟩; conv => whnf))
            refine loopA ?_
            refine splitA [2, 5] (by kernel_rfl) ⟨?_, ?_, trivial⟩
            focus
              refine go tbl_ok false ?_
              conv => whnf
              refine loopA ?_
              refine preA tbl_ok false 6 rfl rfl rfl (by kernel_rfl) rfl (andL_mem (by repeat' (first | exact trivial | refine ⟨?_, ?_⟩ | (show _ ∧ _; omega) | omega))) ?_
              refine preA tbl_ok false 7 rfl rfl rfl (by kernel_rfl) rfl (andL_mem (by repeat' (first | exact trivial | refine ⟨?_, ?_⟩ | (show _ ∧ _; omega) | omega))) ?_
              refine splitA [5, 8] (by kernel_rfl) ⟨?_, ?_, trivial⟩
              focus
                refine go tbl_ok false ?_
                conv => whnf
                refine loopA ?_
                refine splitA [8] (by kernel_rfl) ⟨?_, trivial⟩
                refine go tbl_ok false ?_
                conv => whnf
                refine loopA ?_
                refine preA tbl_ok false 9 rfl rfl rfl (by kernel_rfl) rfl (andL_mem (by repeat' (first | exact trivial | refine ⟨?_, ?_⟩ | (show _ ∧ _; omega) | omega))) ?_
                refine preA tbl_ok false 10 rfl rfl rfl (by kernel_rfl) rfl (andL_mem (by repeat' (first | exact trivial | refine ⟨?_, ?_⟩ | (show _ ∧ _; omega) | omega))) ?_
                refine splitA [11] (by kernel_rfl) ⟨?_, trivial⟩
                refine go tbl_ok false ?_
                conv => whnf
                refine loopA ?_
                refine doneA (by kernel_rfl) (go tbl_ok false ?_)
                conv => whnf
              rotate_left 1
              focus
                refine go tbl_ok false ?_
                conv => whnf
                refine loopA ?_
                refine splitA [5] (by kernel_rfl) ⟨?_, trivial⟩
                refine go tbl_ok false ?_
                conv => whnf
                refine loopA ?_
                refine preA tbl_ok false 9 rfl rfl rfl (by kernel_rfl) rfl (andL_mem (by repeat' (first | exact trivial | refine ⟨?_, ?_⟩ | (show _ ∧ _; omega) | omega))) ?_
                refine preA tbl_ok false 10 rfl rfl rfl (by kernel_rfl) rfl (andL_mem (by repeat' (first | exact trivial | refine ⟨?_, ?_⟩ | (show _ ∧ _; omega) | omega))) ?_
                refine splitA [11] (by kernel_rfl) ⟨?_, trivial⟩
                refine go tbl_ok false ?_
                conv => whnf
                refine loopA ?_
                refine doneA (by kernel_rfl) (go tbl_ok false ?_)
                conv => whnf
            rotate_left 2
            focus
              refine go tbl_ok false ?_
              conv => whnf
              refine loopA ?_
              refine splitA [2] (by kernel_rfl) ⟨?_, trivial⟩
              refine go tbl_ok false ?_
              conv => whnf
              refine loopA ?_
              refine preA tbl_ok false 6 rfl rfl rfl (by kernel_rfl) rfl (andL_mem (by repeat' (first | exact trivial | refine ⟨?_, ?_⟩ | (show _ ∧ _; omega) | omega))) ?_
              refine preA tbl_ok false 7 rfl rfl rfl (by kernel_rfl) rfl (andL_mem (by repeat' (first | exact trivial | refine ⟨?_, ?_⟩ | (show _ ∧ _; omega) | omega))) ?_
              refine splitA [8] (by kernel_rfl) ⟨?_, trivial⟩
              refine go tbl_ok false ?_
              conv => whnf
              refine loopA ?_
              refine preA tbl_ok false 9 rfl rfl rfl (by kernel_rfl) rfl (andL_mem (by repeat' (first | exact trivial | refine ⟨?_, ?_⟩ | (show _ ∧ _; omega) | omega))) ?_
              refine preA tbl_ok false 10 rfl rfl rfl (by kernel_rfl) rfl (andL_mem (by repeat' (first | exact trivial | refine ⟨?_, ?_⟩ | (show _ ∧ _; omega) | omega))) ?_
              refine splitA [11] (by kernel_rfl) ⟨?_, trivial⟩
              refine go tbl_ok false ?_
              conv => whnf
              refine loopA ?_
              refine doneA (by kernel_rfl) (go tbl_ok false ?_)
              conv => whnf
          rotate_left 3
          focus
            refine go tbl_ok false ?_
            conv => whnf
            refine loopA ?_
            refine splitA [1] (by kernel_rfl) ⟨?_, trivial⟩
            refine go tbl_ok false ?_
            conv => whnf
            (repeat (refine ⟨by first | omega | (show _ ∧ _; omega) | ((repeat (first | rw [ByteArray.size_append] | rw [bsz] | rw [List.size_toArray] | rw [List.length_cons] | rw [List.length_nil])) <;> omega) | ((repeat rw [Int.toNat_natCast]) <;> first | omega | (show _ ∧ _; omega)) | (simp only [ByteArray.size_append, bsz, List.size_toArray, List.length_cons, List.length_nil]; omega) | (simp only [Int.toNat_natCast]; first | omega | (show _ ∧ _; omega)) | decide, ?_⟩; conv => whnf))
            refine loopA ?_
            refine splitA [2] (by kernel_rfl) ⟨?_, trivial⟩
            refine go tbl_ok false ?_
            conv => whnf
            refine loopA ?_
            refine preA tbl_ok false 6 rfl rfl rfl (by kernel_rfl) rfl (andL_mem (by repeat' (first | exact trivial | refine ⟨?_, ?_⟩ | (show _ ∧ _; omega) | omega))) ?_
            refine preA tbl_ok false 7 rfl rfl rfl (by kernel_rfl) rfl (andL_mem (by repeat' (first | exact trivial | refine ⟨?_, ?_⟩ | (show _ ∧ _; omega) | omega))) ?_
            refine splitA [8] (by kernel_rfl) ⟨?_, trivial⟩
            refine go tbl_ok false ?_
            conv => whnf
            refine loopA ?_
            refine preA tbl_ok false 9 rfl rfl rfl (by kernel_rfl) rfl (andL_mem (by repeat' (first | exact trivial | refine ⟨?_, ?_⟩ | (show _ ∧ _; omega) | omega))) ?_
            refine preA tbl_ok false 10 rfl rfl rfl (by kernel_rfl) rfl (andL_mem (by repeat' (first | exact trivial | refine ⟨?_, ?_⟩ | (show _ ∧ _; omega) | omega))) ?_
            refine splitA [11] (by kernel_rfl) ⟨?_, trivial⟩
            refine go tbl_ok false ?_
            conv => whnf
            refine loopA ?_
            refine doneA (by kernel_rfl) (go tbl_ok false ?_)
            conv => whnf
        all_goals
          have hgn := good_succ hg (by rw [← ht]; exact ((head_step hst ⟨p1, p2, g, p3, p4⟩ p5)).1)
          (repeat (refine ⟨by first | omega | (show _ ∧ _; omega) | ((repeat (first | rw [ByteArray.size_append] | rw [bsz] | rw [List.size_toArray] | rw [List.length_cons] | rw [List.length_nil])) <;> omega) | ((repeat rw [Int.toNat_natCast]) <;> first | omega | (show _ ∧ _; omega)) | (simp only [ByteArray.size_append, bsz, List.size_toArray, List.length_cons, List.length_nil]; omega) | (simp only [Int.toNat_natCast]; first | omega | (show _ ∧ _; omega)) | decide, ?_⟩; conv => whnf))
          refine loopE [] (⟨j.k + 1, (true, ⟨⟨j.t.2.graph.nodes, (numsR ((cutB x).getD j.k default) 1).getD 0 default, (numsR ((cutB x).getD j.k default) 1).getD 1 default⟩, j.t.2.inputs, j.t.2.picks, j.t.2.rounds⟩)⟩) (⟨by show j.k + 1 ≤ _; omega, hgn, by show (true, ⟨⟨j.t.2.graph.nodes, (numsR ((cutB x).getD j.k default) 1).getD 0 default, (numsR ((cutB x).getD j.k default) 1).getD 1 default⟩, j.t.2.inputs, j.t.2.picks, j.t.2.rounds⟩) = stAt _ (j.k + 1); rw [stAt_succ hk2, ← ht]; exact ((head_step hst ⟨p1, p2, g, p3, p4⟩ p5)).2.symm⟩) (by show (cutB x).length - (j.k + 1) < _; omega) ⟨rfl, rfl, trivial⟩ ⟨rfl, rfl, rfl, trivial⟩ (by repeat' (first | exact trivial | exact rfl | refine ⟨?_, ?_⟩)) (by kernel_rfl) (by first | exact trivial | exact ⟨rfl, trivial⟩) (by kernel_rfl)
  · have e : j.k = (cutB x).length := by omega
    refine ⟨fun a => ?_, fun a => ?_⟩ <;> conv => whnf
    · have a : j.t.1 = false := by simpa using a
      repeat (first | (refine ite_f (by first | with_reducible rfl | assumption | (simp; done) | fail) ?_; conv => whnf) | (refine ite_t (by first | with_reducible rfl | assumption | (simp; done) | fail) ?_; conv => whnf) | (refine ⟨by first | omega | (show _ ∧ _; omega) | ((repeat (first | rw [ByteArray.size_append] | rw [bsz] | rw [List.size_toArray] | rw [List.length_cons] | rw [List.length_nil])) <;> omega) | ((repeat rw [Int.toNat_natCast]) <;> first | omega | (show _ ∧ _; omega)) | (simp only [ByteArray.size_append, bsz, List.size_toArray, List.length_cons, List.length_nil]; omega) | (simp only [Int.toNat_natCast]; first | omega | (show _ ∧ _; omega)) | decide, ?_⟩; conv => whnf))
      (repeat (refine ⟨by first | omega | (show _ ∧ _; omega) | ((repeat (first | rw [ByteArray.size_append] | rw [bsz] | rw [List.size_toArray] | rw [List.length_cons] | rw [List.length_nil])) <;> omega) | ((repeat rw [Int.toNat_natCast]) <;> first | omega | (show _ ∧ _; omega)) | (simp only [ByteArray.size_append, bsz, List.size_toArray, List.length_cons, List.length_nil]; omega) | (simp only [Int.toNat_natCast]; first | omega | (show _ ∧ _; omega)) | decide, ?_⟩; conv => whnf))
      refine retW tbl_ok rfl rfl ?_
      rw [readScript_no h0 e hg (fun c => by have := c.1; rw [← ht, a] at this; cases this)]
      exact (by repeat' (first | exact trivial | exact outC_val _ _ | exact rfl | exact .inr ⟨rfl, rfl, _, _, rfl⟩ | refine ⟨?_, ?_⟩))
    have a : j.t.1 = true := by simpa using a
    have hgw := (show ScOk j.t.2 by rw [ht]; exact st_ok j.k hk hg).w.1
    repeat (first | (refine ite_f (by first | with_reducible rfl | assumption | (simp; done) | fail) ?_; conv => whnf) | (refine ite_t (by first | with_reducible rfl | assumption | (simp; done) | fail) ?_; conv => whnf) | (refine ⟨by first | omega | (show _ ∧ _; omega) | ((repeat (first | rw [ByteArray.size_append] | rw [bsz] | rw [List.size_toArray] | rw [List.length_cons] | rw [List.length_nil])) <;> omega) | ((repeat rw [Int.toNat_natCast]) <;> first | omega | (show _ ∧ _; omega)) | (simp only [ByteArray.size_append, bsz, List.size_toArray, List.length_cons, List.length_nil]; omega) | (simp only [Int.toNat_natCast]; first | omega | (show _ ∧ _; omega)) | decide, ?_⟩; conv => whnf))
    refine callR (implGraphOk j.t.2.graph (by omega)) rfl (go tbl_ok false ?_)
    conv => whnf
    repeat (first | (refine ite_f (by first | with_reducible rfl | assumption | (simp; done) | fail) ?_; conv => whnf) | (refine ite_t (by first | with_reducible rfl | assumption | (simp; done) | fail) ?_; conv => whnf) | (refine ⟨by first | omega | (show _ ∧ _; omega) | ((repeat (first | rw [ByteArray.size_append] | rw [bsz] | rw [List.size_toArray] | rw [List.length_cons] | rw [List.length_nil])) <;> omega) | ((repeat rw [Int.toNat_natCast]) <;> first | omega | (show _ ∧ _; omega)) | (simp only [ByteArray.size_append, bsz, List.size_toArray, List.length_cons, List.length_nil]; omega) | (simp only [Int.toNat_natCast]; first | omega | (show _ ∧ _; omega)) | decide, ?_⟩; conv => whnf))
    refine ⟨fun b => ?_, fun b => ?_⟩ <;> conv => whnf
    · have b : graphOk j.t.2.graph = false := by simpa using b
      repeat (first | (refine ite_f (by first | with_reducible rfl | assumption | (simp; done) | fail) ?_; conv => whnf) | (refine ite_t (by first | with_reducible rfl | assumption | (simp; done) | fail) ?_; conv => whnf) | (refine ⟨by first | omega | (show _ ∧ _; omega) | ((repeat (first | rw [ByteArray.size_append] | rw [bsz] | rw [List.size_toArray] | rw [List.length_cons] | rw [List.length_nil])) <;> omega) | ((repeat rw [Int.toNat_natCast]) <;> first | omega | (show _ ∧ _; omega)) | (simp only [ByteArray.size_append, bsz, List.size_toArray, List.length_cons, List.length_nil]; omega) | (simp only [Int.toNat_natCast]; first | omega | (show _ ∧ _; omega)) | decide, ?_⟩; conv => whnf))
      (repeat (refine ⟨by first | omega | (show _ ∧ _; omega) | ((repeat (first | rw [ByteArray.size_append] | rw [bsz] | rw [List.size_toArray] | rw [List.length_cons] | rw [List.length_nil])) <;> omega) | ((repeat rw [Int.toNat_natCast]) <;> first | omega | (show _ ∧ _; omega)) | (simp only [ByteArray.size_append, bsz, List.size_toArray, List.length_cons, List.length_nil]; omega) | (simp only [Int.toNat_natCast]; first | omega | (show _ ∧ _; omega)) | decide, ?_⟩; conv => whnf))
      refine retW tbl_ok rfl rfl ?_
      rw [readScript_no h0 e hg (fun c => by have := c.2; rw [← ht, b] at this; cases this)]
      exact (by repeat' (first | exact trivial | exact outC_val _ _ | exact rfl | exact .inr ⟨rfl, rfl, _, _, rfl⟩ | refine ⟨?_, ?_⟩))
    · have b : graphOk j.t.2.graph = true := by simpa using b
      repeat (first | (refine ite_f (by first | with_reducible rfl | assumption | (simp; done) | fail) ?_; conv => whnf) | (refine ite_t (by first | with_reducible rfl | assumption | (simp; done) | fail) ?_; conv => whnf) | (refine ⟨by first | omega | (show _ ∧ _; omega) | ((repeat (first | rw [ByteArray.size_append] | rw [bsz] | rw [List.size_toArray] | rw [List.length_cons] | rw [List.length_nil])) <;> omega) | ((repeat rw [Int.toNat_natCast]) <;> first | omega | (show _ ∧ _; omega)) | (simp only [ByteArray.size_append, bsz, List.size_toArray, List.length_cons, List.length_nil]; omega) | (simp only [Int.toNat_natCast]; first | omega | (show _ ∧ _; omega)) | decide, ?_⟩; conv => whnf))
      have hr := readScript_yes h0 e hg (by rw [← ht]; exact ⟨a, b⟩)
      rw [← ht] at hr
      refine retW tbl_ok rfl rfl ?_
      rw [hr]
      exact (by repeat' (first | exact trivial | exact outC_val _ _ | exact rfl | exact .inr ⟨rfl, rfl, _, _, rfl⟩ | refine ⟨?_, ?_⟩))
theorem readScriptR_w (x : ByteArray) : (readScriptR x).1.w ≤ 1048576 := by
  have h0 : (default : GScript).w ≤ 1048576 := Nat.zero_le _
  unfold readScriptR
  split
  · exact h0
  split
  · exact h0
  · rename_i hbad
    dsimp only
    split
    · have hg : GoodTo (cutB x) (cutB x).length := fun j hj => by simpa using List.find?_range_eq_none.1 hbad j hj
      have := (st_ok (cutB x).length (Nat.le_refl _) hg).w.2
      show (stAt (cutB x) (cutB x).length).2.w ≤ 1048576
      omega
    · exact h0

end Go.Proofs.YtcpjpkcahnldfaaGreatDoor
