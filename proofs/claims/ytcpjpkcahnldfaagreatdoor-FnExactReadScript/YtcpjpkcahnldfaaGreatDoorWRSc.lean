/- Texts for the law FnExactReadScript: WRSc. No conditions. -/
import Derived.Test.YtcpjpkcahnldfaaGreatDoorWAdd
import Derived.Test.YtcpjpkcahnldfaaGreatDoorWGraphS

set_option maxRecDepth 100000
namespace Go.Proofs.YtcpjpkcahnldfaaGreatDoor
open Go.Sx
structure JS where
  k : Nat
  t : St
theorem lines_getD {x : ByteArray} (h : ¬ 12000 < x.size) {k : Nat} (hk : k < (cutB x).length) : ((cutB x).getD k default).size ≤ 1048576 := by
  have := cutB_size x _ (getD_mem (d := default) hk)
  omega
theorem step_blank {t : St} {l : ByteArray} (h : BlankP l) : stepOk t l = true ∧ stepS t l = t := ⟨by rw [stepOk, if_pos h], by rw [stepS, if_pos h]⟩
theorem step_add {t : St} {l : ByteArray} (h : ¬ BlankP l) (hb : t.1 = true) : stepOk t l = addB t.2 l ∧ stepS t l = (true, addS t.2 l) := ⟨by rw [stepOk, if_neg h, if_pos hb], by rw [stepS, if_neg h, if_pos hb]⟩
theorem step_head {t : St} {l : ByteArray} (h : ¬ BlankP l) (hb : t.1 = false) : stepOk t l = decide (HeadP l) ∧ stepS t l = (true, ⟨⟨t.2.graph.nodes, rdN ((partsL l).getD 1 default), rdN ((partsL l).getD 2 default)⟩, t.2.inputs, t.2.picks, t.2.rounds⟩) :=
  ⟨by rw [stepOk, if_neg h, if_neg (by rw [hb]; decide)], by rw [stepS, if_neg h, if_neg (by rw [hb]; decide)]⟩
theorem step_parts {t : St} {l : ByteArray} (h : partsB l = false) : stepOk t l = false := by
  have hb : ¬ BlankP l := fun c => by rw [BlankP, h] at c; exact absurd c.1 (by decide)
  rw [stepOk, if_neg hb]
  split
  · refine Bool.eq_false_iff.2 fun c => ?_
    have := add_parts c
    rw [h] at this
    cases this
  · exact decide_eq_false fun c => by have := c.1; rw [h] at this; cases this
theorem addR_false {s : GScript} {l : ByteArray} {r : GScript × Bool} (h : AddR s l r) (hr : r.2 = false) : addB s l = false := by
  refine Bool.eq_false_iff.2 fun c => ?_
  rw [AddR, if_pos c] at h
  rw [h] at hr
  cases hr
theorem addR_true {s : GScript} {l : ByteArray} {r : GScript × Bool} (h : AddR s l r) (hr : r.2 = true) : addB s l = true ∧ r.1 = addS s l := by
  by_cases c : addB s l = true
  · rw [AddR, if_pos c] at h
    exact ⟨c, by rw [h]⟩
  · rw [AddR, if_neg c] at h
    rw [h] at hr
    cases hr
theorem addR_step {t : St} {l : ByteArray} {r : GScript × Bool} (hst : stepOk t l = addB t.2 l ∧ stepS t l = (true, addS t.2 l)) (h : AddR t.2 l r) (hr : r.2 = true) : stepOk t l = true ∧ stepS t l = (true, r.1) := by
  obtain ⟨h1, h2⟩ := addR_true h hr
  exact ⟨hst.1.trans h1, by rw [hst.2, h2]⟩
theorem addR_stepc {t : St} {l : ByteArray} {r : GScript × Bool} (c : t.1 = true) (hst : stepOk t l = addB t.2 l ∧ stepS t l = (true, addS t.2 l)) (h : AddR t.2 l r) (hr : r.2 = true) : stepOk t l = true ∧ stepS t l = (t.1, r.1) := by
  rw [c]
  exact addR_step hst h hr
theorem ba_neqf {a b : ByteArray} (h : (!(a == b)) = false) : a = b := ba_eq (by simpa using h)
set_option maxHeartbeats 2000000 in
theorem specReadScript (x : ByteArray) (hx : x.size ≤ 1048576) : Meets Tryz.prog 5 [.one (vs x)] [.agg (readScriptR x).1.c, .one (vi (readScriptR x).2)] := by
  refine enterW tbl_ok false Tryz.func5 rfl (by decide) fun W => ?_
  conv => whnf
  refine ⟨fun h0 => have h0 := of_decide_eq_true h0; ?_, fun h0 => have h0 := of_decide_eq_false h0; ?_⟩ <;> conv => whnf
  · have h0 : 12000 < x.size := by omega
    refine retW tbl_ok rfl rfl ?_
    rw [readScript_big h0]
    exact (by repeat' (first | exact trivial | exact outC_val _ _ | exact rfl | exact .inr ⟨rfl, rfl, _, _, rfl⟩ | refine ⟨?_, ?_⟩))
  have h0 : ¬ 12000 < x.size := by omega
  have hlen := cutB_len x
  (repeat (refine ⟨by first | omega | (show _ ∧ _; omega) | ((repeat (first | rw [ByteArray.size_append] | rw [bsz] | rw [List.size_toArray] | rw [List.length_cons] | rw [List.length_nil])) <;> omega) | ((repeat rw [Int.toNat_natCast]) <;> first | omega | (show _ ∧ _; omega)) | (simp only [ByteArray.size_append, bsz, List.size_toArray, List.length_cons, List.length_nil]; omega) | (simp only [Int.toNat_natCast]; first | omega | (show _ ∧ _; omega)) | decide, ?_⟩; conv => whnf))
  refine callR (specCut x hx) rfl (go tbl_ok false ?_)
  conv => whnf
  have hH : ∀ w, Base.rel ⟨W, fun _ => False⟩ w → HT w := fun _ _ => trivial
  have hp : Pins ⟨W, fun _ => False⟩ [] := fun _ h => by cases h
  refine nilB 1 0 4 (fun i => GNode.c (([] : List GNode).getD i default)) rfl rfl ?_
  refine nilB 1 3 5 (fun i => GRecord.c (([] : List GRecord).getD i default)) rfl rfl ?_
  refine nilB 1 4 3 (fun i => GPick.c (([] : List GPick).getD i default)) rfl rfl ?_
  refine loopW tbl_ok false [] (fun j : JS => [(7, .c (vi j.k)), (5, .c (vb j.t.1))]) (fun j => [⟨1, [.own 2, .c (vi j.t.2.graph.workers), .c (vi j.t.2.graph.cap), .own 3, .own 4, .c (vi j.t.2.rounds)]⟩, ⟨0, [.c (.val (.slice none 0 0)), .c (vi 0), .c (vi 0), .c (.val (.slice none 0 0)), .c (.val (.slice none 0 0)), .c (vi 0)]⟩]) (fun j => [⟨2, sGNode j.t.2.graph.nodes⟩, ⟨3, sGRecord j.t.2.inputs⟩, ⟨4, sGPick j.t.2.picks⟩]) (fun j => j.k ≤ (cutB x).length ∧ GoodTo (cutB x) j.k ∧ j.t = stAt (cutB x) j.k) (fun j => (cutB x).length - j.k) (⟨0, st0⟩) (⟨Nat.zero_le _, fun j hj => absurd hj (Nat.not_lt_zero _), rfl⟩) ⟨by first | rfl | simp [nth, ren2, ren1, ren0], by first | rfl | simp [nth, ren2, ren1, ren0], trivial⟩ (by repeat' (first | exact trivial | exact rfl | refine ⟨?_, ?_⟩)) ⟨by first | rfl | exact (congrArg (fun l => slC _ _ l) (List.append_nil _)).symm | (show (_ : Cell) = _; simp) | simp, by first | rfl | exact (congrArg (fun l => slC _ _ l) (List.append_nil _)).symm | (show (_ : Cell) = _; simp) | simp, by first | rfl | exact (congrArg (fun l => slC _ _ l) (List.append_nil _)).symm | (show (_ : Cell) = _; simp) | simp, trivial⟩ (by first | exact trivial | exact ⟨rfl, trivial⟩) (by kernel_rfl) (fun j hj => ?_)
  conv => whnf
  obtain ⟨hk, hg, ht⟩ := hj
  refine ⟨fun hk2 => have hk2 := of_decide_eq_true hk2; ?_, fun hk2 => have hk2 := of_decide_eq_false hk2; ?_⟩ <;> conv => whnf
  · have hk2 : j.k < (cutB x).length := by omega
    have hl := lines_getD h0 hk2
    have hp0 := partsL_size ((cutB x).getD j.k default)
    have hp1 := partsL_ne ((cutB x).getD j.k default)
    have hsc : ScOk j.t.2 := by rw [ht]; exact st_ok j.k hk hg
    (repeat (refine ⟨by first | omega | (show _ ∧ _; omega) | ((repeat (first | rw [ByteArray.size_append] | rw [bsz] | rw [List.size_toArray] | rw [List.length_cons] | rw [List.length_nil])) <;> omega) | ((repeat rw [Int.toNat_natCast]) <;> first | omega | (show _ ∧ _; omega)) | (simp only [ByteArray.size_append, bsz, List.size_toArray, List.length_cons, List.length_nil]; omega) | (simp only [Int.toNat_natCast]; first | omega | (show _ ∧ _; omega)) | decide, ?_⟩; conv => whnf))
    refine callR (specPartsOf ((cutB x).getD j.k default) hl) rfl (go tbl_ok false ?_)
    conv => whnf
    refine ⟨fun a => ?_, fun a => ?_⟩ <;> conv => whnf
    · have a2 : (!partsB ((cutB x).getD j.k default)) = false := by rw [a]; rfl
      repeat (first | (refine ite_f (by first | with_reducible rfl | assumption | (simp; done) | fail) ?_; conv => whnf) | (refine ite_t (by first | with_reducible rfl | assumption | (simp; done) | fail) ?_; conv => whnf) | (refine ⟨by first | omega | (show _ ∧ _; omega) | ((repeat (first | rw [ByteArray.size_append] | rw [bsz] | rw [List.size_toArray] | rw [List.length_cons] | rw [List.length_nil])) <;> omega) | ((repeat rw [Int.toNat_natCast]) <;> first | omega | (show _ ∧ _; omega)) | (simp only [ByteArray.size_append, bsz, List.size_toArray, List.length_cons, List.length_nil]; omega) | (simp only [Int.toNat_natCast]; first | omega | (show _ ∧ _; omega)) | decide, ?_⟩; conv => whnf))
      refine ⟨fun b => have b := eq_of_beq b; ?_, fun b => have b := beq_eq_false_iff_ne.1 b; ?_⟩ <;> conv => whnf
      · repeat (first | (refine ite_f (by first | with_reducible rfl | assumption | (simp; done) | fail) ?_; conv => whnf) | (refine ite_t (by first | with_reducible rfl | assumption | (simp; done) | fail) ?_; conv => whnf) | (refine ⟨by first | omega | (show _ ∧ _; omega) | ((repeat (first | rw [ByteArray.size_append] | rw [bsz] | rw [List.size_toArray] | rw [List.length_cons] | rw [List.length_nil])) <;> omega) | ((repeat rw [Int.toNat_natCast]) <;> first | omega | (show _ ∧ _; omega)) | (simp only [ByteArray.size_append, bsz, List.size_toArray, List.length_cons, List.length_nil]; omega) | (simp only [Int.toNat_natCast]; first | omega | (show _ ∧ _; omega)) | decide, ?_⟩; conv => whnf))
        have hb : BlankP ((cutB x).getD j.k default) := ⟨a, .inl (by omega)⟩
        have hgn := good_succ hg (by rw [← ht]; exact ((step_blank hb)).1)
        (repeat (refine ⟨by first | omega | (show _ ∧ _; omega) | ((repeat (first | rw [ByteArray.size_append] | rw [bsz] | rw [List.size_toArray] | rw [List.length_cons] | rw [List.length_nil])) <;> omega) | ((repeat rw [Int.toNat_natCast]) <;> first | omega | (show _ ∧ _; omega)) | (simp only [ByteArray.size_append, bsz, List.size_toArray, List.length_cons, List.length_nil]; omega) | (simp only [Int.toNat_natCast]; first | omega | (show _ ∧ _; omega)) | decide, ?_⟩; conv => whnf))
        refine loopE [] (⟨j.k + 1, j.t⟩) (⟨by show j.k + 1 ≤ _; omega, hgn, by show j.t = stAt _ (j.k + 1); rw [stAt_succ hk2, ← ht]; exact ((step_blank hb)).2.symm⟩) (by show (cutB x).length - (j.k + 1) < _; omega) ⟨rfl, rfl, trivial⟩ ⟨rfl, rfl, rfl, trivial⟩ (by repeat' (first | exact trivial | exact rfl | refine ⟨?_, ?_⟩)) (by kernel_rfl) (by first | exact trivial | exact ⟨rfl, trivial⟩) (by kernel_rfl)
      · repeat (first | (refine ite_f (by first | with_reducible rfl | assumption | (simp; done) | fail) ?_; conv => whnf) | (refine ite_t (by first | with_reducible rfl | assumption | (simp; done) | fail) ?_; conv => whnf) | (refine ⟨by first | omega | (show _ ∧ _; omega) | ((repeat (first | rw [ByteArray.size_append] | rw [bsz] | rw [List.size_toArray] | rw [List.length_cons] | rw [List.length_nil])) <;> omega) | ((repeat rw [Int.toNat_natCast]) <;> first | omega | (show _ ∧ _; omega)) | (simp only [ByteArray.size_append, bsz, List.size_toArray, List.length_cons, List.length_nil]; omega) | (simp only [Int.toNat_natCast]; first | omega | (show _ ∧ _; omega)) | decide, ?_⟩; conv => whnf))
        have hx0 := hp1 _ (getD_mem (d := default) (show 0 < (partsL ((cutB x).getD j.k default)).length by omega))
        (repeat (refine ⟨by first | omega | (show _ ∧ _; omega) | ((repeat (first | rw [ByteArray.size_append] | rw [bsz] | rw [List.size_toArray] | rw [List.length_cons] | rw [List.length_nil])) <;> omega) | ((repeat rw [Int.toNat_natCast]) <;> first | omega | (show _ ∧ _; omega)) | (simp only [ByteArray.size_append, bsz, List.size_toArray, List.length_cons, List.length_nil]; omega) | (simp only [Int.toNat_natCast]; first | omega | (show _ ∧ _; omega)) | decide, ?_⟩; conv => whnf))
        refine ⟨by exact ⟨Int.le_refl _, Int.natCast_pos.2 hx0⟩, ?_⟩
        conv => whnf
        repeat (first | (refine ite_f (by first | with_reducible rfl | assumption | (simp; done) | fail) ?_; conv => whnf) | (refine ite_t (by first | with_reducible rfl | assumption | (simp; done) | fail) ?_; conv => whnf) | (refine ⟨by first | omega | (show _ ∧ _; omega) | ((repeat (first | rw [ByteArray.size_append] | rw [bsz] | rw [List.size_toArray] | rw [List.length_cons] | rw [List.length_nil])) <;> omega) | ((repeat rw [Int.toNat_natCast]) <;> first | omega | (show _ ∧ _; omega)) | (simp only [ByteArray.size_append, bsz, List.size_toArray, List.length_cons, List.length_nil]; omega) | (simp only [Int.toNat_natCast]; first | omega | (show _ ∧ _; omega)) | decide, ?_⟩; conv => whnf))
        refine ⟨fun b2 => have b2 := eq_of_beq b2; ?_, fun b2 => have b2 := beq_eq_false_iff_ne.1 b2; ?_⟩ <;> conv => whnf
        · repeat (first | (refine ite_f (by first | with_reducible rfl | assumption | (simp; done) | fail) ?_; conv => whnf) | (refine ite_t (by first | with_reducible rfl | assumption | (simp; done) | fail) ?_; conv => whnf) | (refine ⟨by first | omega | (show _ ∧ _; omega) | ((repeat (first | rw [ByteArray.size_append] | rw [bsz] | rw [List.size_toArray] | rw [List.length_cons] | rw [List.length_nil])) <;> omega) | ((repeat rw [Int.toNat_natCast]) <;> first | omega | (show _ ∧ _; omega)) | (simp only [ByteArray.size_append, bsz, List.size_toArray, List.length_cons, List.length_nil]; omega) | (simp only [Int.toNat_natCast]; first | omega | (show _ ∧ _; omega)) | decide, ?_⟩; conv => whnf))
          have b2 : byteAt (word0 ((cutB x).getD j.k default)) 0 = 35 := UInt8.toNat_inj.1 (Int.ofNat.inj b2)
          have hb : BlankP ((cutB x).getD j.k default) := ⟨a, .inr b2⟩
          have hgn := good_succ hg (by rw [← ht]; exact ((step_blank hb)).1)
          (repeat (refine ⟨by first | omega | (show _ ∧ _; omega) | ((repeat (first | rw [ByteArray.size_append] | rw [bsz] | rw [List.size_toArray] | rw [List.length_cons] | rw [List.length_nil])) <;> omega) | ((repeat rw [Int.toNat_natCast]) <;> first | omega | (show _ ∧ _; omega)) | (simp only [ByteArray.size_append, bsz, List.size_toArray, List.length_cons, List.length_nil]; omega) | (simp only [Int.toNat_natCast]; first | omega | (show _ ∧ _; omega)) | decide, ?_⟩; conv => whnf))
          refine loopE [] (⟨j.k + 1, j.t⟩) (⟨by show j.k + 1 ≤ _; omega, hgn, by show j.t = stAt _ (j.k + 1); rw [stAt_succ hk2, ← ht]; exact ((step_blank hb)).2.symm⟩) (by show (cutB x).length - (j.k + 1) < _; omega) ⟨rfl, rfl, trivial⟩ ⟨rfl, rfl, rfl, trivial⟩ (by repeat' (first | exact trivial | exact rfl | refine ⟨?_, ?_⟩)) (by kernel_rfl) (by first | exact trivial | exact ⟨rfl, trivial⟩) (by kernel_rfl)
        · have hb : ¬ BlankP ((cutB x).getD j.k default) := fun c => c.2.elim (fun c => b (by omega)) (fun c => b2 (by show ((byteAt (word0 ((cutB x).getD j.k default)) 0).toNat : Int) = _; rw [c]; rfl))
          repeat (first | (refine ite_f (by first | with_reducible rfl | assumption | (simp; done) | fail) ?_; conv => whnf) | (refine ite_t (by first | with_reducible rfl | assumption | (simp; done) | fail) ?_; conv => whnf) | (refine ⟨by first | omega | (show _ ∧ _; omega) | ((repeat (first | rw [ByteArray.size_append] | rw [bsz] | rw [List.size_toArray] | rw [List.length_cons] | rw [List.length_nil])) <;> omega) | ((repeat rw [Int.toNat_natCast]) <;> first | omega | (show _ ∧ _; omega)) | (simp only [ByteArray.size_append, bsz, List.size_toArray, List.length_cons, List.length_nil]; omega) | (simp only [Int.toNat_natCast]; first | omega | (show _ ∧ _; omega)) | decide, ?_⟩; conv => whnf))
          refine ⟨fun c => ?_, fun c => ?_⟩ <;> conv => whnf
          · have hst := step_add hb c
            repeat (first | (refine ite_f (by first | with_reducible rfl | assumption | (simp; done) | fail) ?_; conv => whnf) | (refine ite_t (by first | with_reducible rfl | assumption | (simp; done) | fail) ?_; conv => whnf) | (refine ⟨by first | omega | (show _ ∧ _; omega) | ((repeat (first | rw [ByteArray.size_append] | rw [bsz] | rw [List.size_toArray] | rw [List.length_cons] | rw [List.length_nil])) <;> omega) | ((repeat rw [Int.toNat_natCast]) <;> first | omega | (show _ ∧ _; omega)) | (simp only [ByteArray.size_append, bsz, List.size_toArray, List.length_cons, List.length_nil]; omega) | (simp only [Int.toNat_natCast]; first | omega | (show _ ∧ _; omega)) | decide, ?_⟩; conv => whnf))
            refine callP (specAdd j.t.2 ((cutB x).getD j.k default) hsc hl a) hH hp rfl (by repeat' (first | exact trivial | exact outC_val _ _ | exact rfl | exact .inr ⟨rfl, rfl, _, _, rfl⟩ | refine ⟨?_, ?_⟩)) rfl rfl (fun r hr => go tbl_ok false ?_)
            conv => whnf
            refine ⟨fun d => ?_, fun d => ?_⟩ <;> conv => whnf
            · have d : r.2 = false := by simpa using d
              repeat (first | (refine ite_f (by first | with_reducible rfl | assumption | (simp; done) | fail) ?_; conv => whnf) | (refine ite_t (by first | with_reducible rfl | assumption | (simp; done) | fail) ?_; conv => whnf) | (refine ⟨by first | omega | (show _ ∧ _; omega) | ((repeat (first | rw [ByteArray.size_append] | rw [bsz] | rw [List.size_toArray] | rw [List.length_cons] | rw [List.length_nil])) <;> omega) | ((repeat rw [Int.toNat_natCast]) <;> first | omega | (show _ ∧ _; omega)) | (simp only [ByteArray.size_append, bsz, List.size_toArray, List.length_cons, List.length_nil]; omega) | (simp only [Int.toNat_natCast]; first | omega | (show _ ∧ _; omega)) | decide, ?_⟩; conv => whnf))
              (repeat (refine ⟨by first | omega | (show _ ∧ _; omega) | ((repeat (first | rw [ByteArray.size_append] | rw [bsz] | rw [List.size_toArray] | rw [List.length_cons] | rw [List.length_nil])) <;> omega) | ((repeat rw [Int.toNat_natCast]) <;> first | omega | (show _ ∧ _; omega)) | (simp only [ByteArray.size_append, bsz, List.size_toArray, List.length_cons, List.length_nil]; omega) | (simp only [Int.toNat_natCast]; first | omega | (show _ ∧ _; omega)) | decide, ?_⟩; conv => whnf))
              refine retW tbl_ok rfl rfl ?_
              rw [readScript_bad h0 hk2 hg (by rw [← ht, hst.1]; exact addR_false hr d)]
              exact (by repeat' (first | exact trivial | exact outC_val _ _ | exact rfl | exact .inr ⟨rfl, rfl, _, _, rfl⟩ | refine ⟨?_, ?_⟩))
            · have d : r.2 = true := by simpa using d
              repeat (first | (refine ite_f (by first | with_reducible rfl | assumption | (simp; done) | fail) ?_; conv => whnf) | (refine ite_t (by first | with_reducible rfl | assumption | (simp; done) | fail) ?_; conv => whnf) | (refine ⟨by first | omega | (show _ ∧ _; omega) | ((repeat (first | rw [ByteArray.size_append] | rw [bsz] | rw [List.size_toArray] | rw [List.length_cons] | rw [List.length_nil])) <;> omega) | ((repeat rw [Int.toNat_natCast]) <;> first | omega | (show _ ∧ _; omega)) | (simp only [ByteArray.size_append, bsz, List.size_toArray, List.length_cons, List.length_nil]; omega) | (simp only [Int.toNat_natCast]; first | omega | (show _ ∧ _; omega)) | decide, ?_⟩; conv => whnf))
              have hgn := good_succ hg (by rw [← ht]; exact ((addR_stepc c hst hr d)).1)
              (repeat (refine ⟨by first | omega | (show _ ∧ _; omega) | ((repeat (first | rw [ByteArray.size_append] | rw [bsz] | rw [List.size_toArray] | rw [List.length_cons] | rw [List.length_nil])) <;> omega) | ((repeat rw [Int.toNat_natCast]) <;> first | omega | (show _ ∧ _; omega)) | (simp only [ByteArray.size_append, bsz, List.size_toArray, List.length_cons, List.length_nil]; omega) | (simp only [Int.toNat_natCast]; first | omega | (show _ ∧ _; omega)) | decide, ?_⟩; conv => whnf))
              refine loopE [(2, 5), (3, 6), (4, 7)] (⟨j.k + 1, (j.t.1, r.1)⟩) (⟨by show j.k + 1 ≤ _; omega, hgn, by show (j.t.1, r.1) = stAt _ (j.k + 1); rw [stAt_succ hk2, ← ht]; exact ((addR_stepc c hst hr d)).2.symm⟩) (by show (cutB x).length - (j.k + 1) < _; omega) ⟨rfl, rfl, trivial⟩ ⟨rfl, rfl, rfl, trivial⟩ (by repeat' (first | exact trivial | exact rfl | refine ⟨?_, ?_⟩)) (by kernel_rfl) (by first | exact trivial | exact ⟨rfl, trivial⟩) (by kernel_rfl)
          · have c : j.t.1 = false := by simpa using c
            have hst := step_head hb c
            repeat (first | (refine ite_f (by first | with_reducible rfl | assumption | (simp; done) | fail) ?_; conv => whnf) | (refine ite_t (by first | with_reducible rfl | assumption | (simp; done) | fail) ?_; conv => whnf) | (refine ⟨by first | omega | (show _ ∧ _; omega) | ((repeat (first | rw [ByteArray.size_append] | rw [bsz] | rw [List.size_toArray] | rw [List.length_cons] | rw [List.length_nil])) <;> omega) | ((repeat rw [Int.toNat_natCast]) <;> first | omega | (show _ ∧ _; omega)) | (simp only [ByteArray.size_append, bsz, List.size_toArray, List.length_cons, List.length_nil]; omega) | (simp only [Int.toNat_natCast]; first | omega | (show _ ∧ _; omega)) | decide, ?_⟩; conv => whnf))
            refine ⟨fun d => have d := bne_iff_ne.1 d; ?_, fun d => have d := bne_eq_false_iff_eq.1 d; ?_⟩ <;> conv => whnf
            · repeat (first | (refine ite_f (by first | with_reducible rfl | assumption | (simp; done) | fail) ?_; conv => whnf) | (refine ite_t (by first | with_reducible rfl | assumption | (simp; done) | fail) ?_; conv => whnf) | (refine ⟨by first | omega | (show _ ∧ _; omega) | ((repeat (first | rw [ByteArray.size_append] | rw [bsz] | rw [List.size_toArray] | rw [List.length_cons] | rw [List.length_nil])) <;> omega) | ((repeat rw [Int.toNat_natCast]) <;> first | omega | (show _ ∧ _; omega)) | (simp only [ByteArray.size_append, bsz, List.size_toArray, List.length_cons, List.length_nil]; omega) | (simp only [Int.toNat_natCast]; first | omega | (show _ ∧ _; omega)) | decide, ?_⟩; conv => whnf))
              (repeat (refine ⟨by first | omega | (show _ ∧ _; omega) | ((repeat (first | rw [ByteArray.size_append] | rw [bsz] | rw [List.size_toArray] | rw [List.length_cons] | rw [List.length_nil])) <;> omega) | ((repeat rw [Int.toNat_natCast]) <;> first | omega | (show _ ∧ _; omega)) | (simp only [ByteArray.size_append, bsz, List.size_toArray, List.length_cons, List.length_nil]; omega) | (simp only [Int.toNat_natCast]; first | omega | (show _ ∧ _; omega)) | decide, ?_⟩; conv => whnf))
              refine retW tbl_ok rfl rfl ?_
              rw [readScript_bad h0 hk2 hg (by rw [← ht, hst.1]; exact decide_eq_false fun h => d (by rw [h.2.1]; rfl))]
              exact (by repeat' (first | exact trivial | exact outC_val _ _ | exact rfl | exact .inr ⟨rfl, rfl, _, _, rfl⟩ | refine ⟨?_, ?_⟩))
            have d : (partsL ((cutB x).getD j.k default)).length = 3 := by omega
            have hx1 := hp0 _ (getD_mem (d := default) (show 1 < (partsL ((cutB x).getD j.k default)).length by omega))
            have hx2 := hp0 _ (getD_mem (d := default) (show 2 < (partsL ((cutB x).getD j.k default)).length by omega))
            repeat (first | (refine ite_f (by first | with_reducible rfl | assumption | (simp; done) | fail) ?_; conv => whnf) | (refine ite_t (by first | with_reducible rfl | assumption | (simp; done) | fail) ?_; conv => whnf) | (refine ⟨by first | omega | (show _ ∧ _; omega) | ((repeat (first | rw [ByteArray.size_append] | rw [bsz] | rw [List.size_toArray] | rw [List.length_cons] | rw [List.length_nil])) <;> omega) | ((repeat rw [Int.toNat_natCast]) <;> first | omega | (show _ ∧ _; omega)) | (simp only [ByteArray.size_append, bsz, List.size_toArray, List.length_cons, List.length_nil]; omega) | (simp only [Int.toNat_natCast]; first | omega | (show _ ∧ _; omega)) | decide, ?_⟩; conv => whnf))
            (repeat (refine ⟨by first | omega | (show _ ∧ _; omega) | ((repeat (first | rw [ByteArray.size_append] | rw [bsz] | rw [List.size_toArray] | rw [List.length_cons] | rw [List.length_nil])) <;> omega) | ((repeat rw [Int.toNat_natCast]) <;> first | omega | (show _ ∧ _; omega)) | (simp only [ByteArray.size_append, bsz, List.size_toArray, List.length_cons, List.length_nil]; omega) | (simp only [Int.toNat_natCast]; first | omega | (show _ ∧ _; omega)) | decide, ?_⟩; conv => whnf))
            refine ⟨fun g => ?_, fun g => ?_⟩ <;> conv => whnf
            · have g : word0 ((cutB x).getD j.k default) ≠ (⟨#[103, 114, 97, 112, 104]⟩ : ByteArray) := fun e => by
                rw [show (partsL ((cutB x).getD j.k default)).getD (Int.toNat 0) default = (⟨#[103, 114, 97, 112, 104]⟩ : ByteArray) from e, ba_self] at g
                cases g
              repeat (first | (refine ite_f (by first | with_reducible rfl | assumption | (simp; done) | fail) ?_; conv => whnf) | (refine ite_t (by first | with_reducible rfl | assumption | (simp; done) | fail) ?_; conv => whnf) | (refine ⟨by first | omega | (show _ ∧ _; omega) | ((repeat (first | rw [ByteArray.size_append] | rw [bsz] | rw [List.size_toArray] | rw [List.length_cons] | rw [List.length_nil])) <;> omega) | ((repeat rw [Int.toNat_natCast]) <;> first | omega | (show _ ∧ _; omega)) | (simp only [ByteArray.size_append, bsz, List.size_toArray, List.length_cons, List.length_nil]; omega) | (simp only [Int.toNat_natCast]; first | omega | (show _ ∧ _; omega)) | decide, ?_⟩; conv => whnf))
              (repeat (refine ⟨by first | omega | (show _ ∧ _; omega) | ((repeat (first | rw [ByteArray.size_append] | rw [bsz] | rw [List.size_toArray] | rw [List.length_cons] | rw [List.length_nil])) <;> omega) | ((repeat rw [Int.toNat_natCast]) <;> first | omega | (show _ ∧ _; omega)) | (simp only [ByteArray.size_append, bsz, List.size_toArray, List.length_cons, List.length_nil]; omega) | (simp only [Int.toNat_natCast]; first | omega | (show _ ∧ _; omega)) | decide, ?_⟩; conv => whnf))
              refine retW tbl_ok rfl rfl ?_
              rw [readScript_bad h0 hk2 hg (by rw [← ht, hst.1]; exact decide_eq_false fun h => g h.2.2.1)]
              exact (by repeat' (first | exact trivial | exact outC_val _ _ | exact rfl | exact .inr ⟨rfl, rfl, _, _, rfl⟩ | refine ⟨?_, ?_⟩))
            have g : word0 ((cutB x).getD j.k default) = (⟨#[103, 114, 97, 112, 104]⟩ : ByteArray) := ba_neqf g
            repeat (first | (refine ite_f (by first | with_reducible rfl | assumption | (simp; done) | fail) ?_; conv => whnf) | (refine ite_t (by first | with_reducible rfl | assumption | (simp; done) | fail) ?_; conv => whnf) | (refine ⟨by first | omega | (show _ ∧ _; omega) | ((repeat (first | rw [ByteArray.size_append] | rw [bsz] | rw [List.size_toArray] | rw [List.length_cons] | rw [List.length_nil])) <;> omega) | ((repeat rw [Int.toNat_natCast]) <;> first | omega | (show _ ∧ _; omega)) | (simp only [ByteArray.size_append, bsz, List.size_toArray, List.length_cons, List.length_nil]; omega) | (simp only [Int.toNat_natCast]; first | omega | (show _ ∧ _; omega)) | decide, ?_⟩; conv => whnf))
            (repeat (refine ⟨by first | omega | (show _ ∧ _; omega) | ((repeat (first | rw [ByteArray.size_append] | rw [bsz] | rw [List.size_toArray] | rw [List.length_cons] | rw [List.length_nil])) <;> omega) | ((repeat rw [Int.toNat_natCast]) <;> first | omega | (show _ ∧ _; omega)) | (simp only [ByteArray.size_append, bsz, List.size_toArray, List.length_cons, List.length_nil]; omega) | (simp only [Int.toNat_natCast]; first | omega | (show _ ∧ _; omega)) | decide, ?_⟩; conv => whnf))
            refine callR (specReadDecimal ((partsL ((cutB x).getD j.k default)).getD 1 default) (by omega)) rfl (go tbl_ok false ?_)
            conv => whnf
            (repeat (refine ⟨by first | omega | (show _ ∧ _; omega) | ((repeat (first | rw [ByteArray.size_append] | rw [bsz] | rw [List.size_toArray] | rw [List.length_cons] | rw [List.length_nil])) <;> omega) | ((repeat rw [Int.toNat_natCast]) <;> first | omega | (show _ ∧ _; omega)) | (simp only [ByteArray.size_append, bsz, List.size_toArray, List.length_cons, List.length_nil]; omega) | (simp only [Int.toNat_natCast]; first | omega | (show _ ∧ _; omega)) | decide, ?_⟩; conv => whnf))
            refine callR (specReadDecimal ((partsL ((cutB x).getD j.k default)).getD 2 default) (by omega)) rfl (go tbl_ok false ?_)
            conv => whnf
            refine ⟨fun e1 => ?_, fun e1 => ?_⟩ <;> conv => whnf
            · have e1 : rdB ((partsL ((cutB x).getD j.k default)).getD 1 default) = false := by simpa using e1
              repeat (first | (refine ite_f (by first | with_reducible rfl | assumption | (simp; done) | fail) ?_; conv => whnf) | (refine ite_t (by first | with_reducible rfl | assumption | (simp; done) | fail) ?_; conv => whnf) | (refine ⟨by first | omega | (show _ ∧ _; omega) | ((repeat (first | rw [ByteArray.size_append] | rw [bsz] | rw [List.size_toArray] | rw [List.length_cons] | rw [List.length_nil])) <;> omega) | ((repeat rw [Int.toNat_natCast]) <;> first | omega | (show _ ∧ _; omega)) | (simp only [ByteArray.size_append, bsz, List.size_toArray, List.length_cons, List.length_nil]; omega) | (simp only [Int.toNat_natCast]; first | omega | (show _ ∧ _; omega)) | decide, ?_⟩; conv => whnf))
              (repeat (refine ⟨by first | omega | (show _ ∧ _; omega) | ((repeat (first | rw [ByteArray.size_append] | rw [bsz] | rw [List.size_toArray] | rw [List.length_cons] | rw [List.length_nil])) <;> omega) | ((repeat rw [Int.toNat_natCast]) <;> first | omega | (show _ ∧ _; omega)) | (simp only [ByteArray.size_append, bsz, List.size_toArray, List.length_cons, List.length_nil]; omega) | (simp only [Int.toNat_natCast]; first | omega | (show _ ∧ _; omega)) | decide, ?_⟩; conv => whnf))
              refine retW tbl_ok rfl rfl ?_
              rw [readScript_bad h0 hk2 hg (by rw [← ht, hst.1]; exact decide_eq_false fun h => by have := h.2.2.2.1; rw [e1] at this; cases this)]
              exact (by repeat' (first | exact trivial | exact outC_val _ _ | exact rfl | exact .inr ⟨rfl, rfl, _, _, rfl⟩ | refine ⟨?_, ?_⟩))
            have e1 : rdB ((partsL ((cutB x).getD j.k default)).getD 1 default) = true := by simpa using e1
            repeat (first | (refine ite_f (by first | with_reducible rfl | assumption | (simp; done) | fail) ?_; conv => whnf) | (refine ite_t (by first | with_reducible rfl | assumption | (simp; done) | fail) ?_; conv => whnf) | (refine ⟨by first | omega | (show _ ∧ _; omega) | ((repeat (first | rw [ByteArray.size_append] | rw [bsz] | rw [List.size_toArray] | rw [List.length_cons] | rw [List.length_nil])) <;> omega) | ((repeat rw [Int.toNat_natCast]) <;> first | omega | (show _ ∧ _; omega)) | (simp only [ByteArray.size_append, bsz, List.size_toArray, List.length_cons, List.length_nil]; omega) | (simp only [Int.toNat_natCast]; first | omega | (show _ ∧ _; omega)) | decide, ?_⟩; conv => whnf))
            refine ⟨fun e2 => ?_, fun e2 => ?_⟩ <;> conv => whnf
            · have e2 : rdB ((partsL ((cutB x).getD j.k default)).getD 2 default) = false := by simpa using e2
              repeat (first | (refine ite_f (by first | with_reducible rfl | assumption | (simp; done) | fail) ?_; conv => whnf) | (refine ite_t (by first | with_reducible rfl | assumption | (simp; done) | fail) ?_; conv => whnf) | (refine ⟨by first | omega | (show _ ∧ _; omega) | ((repeat (first | rw [ByteArray.size_append] | rw [bsz] | rw [List.size_toArray] | rw [List.length_cons] | rw [List.length_nil])) <;> omega) | ((repeat rw [Int.toNat_natCast]) <;> first | omega | (show _ ∧ _; omega)) | (simp only [ByteArray.size_append, bsz, List.size_toArray, List.length_cons, List.length_nil]; omega) | (simp only [Int.toNat_natCast]; first | omega | (show _ ∧ _; omega)) | decide, ?_⟩; conv => whnf))
              (repeat (refine ⟨by first | omega | (show _ ∧ _; omega) | ((repeat (first | rw [ByteArray.size_append] | rw [bsz] | rw [List.size_toArray] | rw [List.length_cons] | rw [List.length_nil])) <;> omega) | ((repeat rw [Int.toNat_natCast]) <;> first | omega | (show _ ∧ _; omega)) | (simp only [ByteArray.size_append, bsz, List.size_toArray, List.length_cons, List.length_nil]; omega) | (simp only [Int.toNat_natCast]; first | omega | (show _ ∧ _; omega)) | decide, ?_⟩; conv => whnf))
              refine retW tbl_ok rfl rfl ?_
              rw [readScript_bad h0 hk2 hg (by rw [← ht, hst.1]; exact decide_eq_false fun h => by have := h.2.2.2.2; rw [e2] at this; cases this)]
              exact (by repeat' (first | exact trivial | exact outC_val _ _ | exact rfl | exact .inr ⟨rfl, rfl, _, _, rfl⟩ | refine ⟨?_, ?_⟩))
            have e2 : rdB ((partsL ((cutB x).getD j.k default)).getD 2 default) = true := by simpa using e2
            repeat (first | (refine ite_f (by first | with_reducible rfl | assumption | (simp; done) | fail) ?_; conv => whnf) | (refine ite_t (by first | with_reducible rfl | assumption | (simp; done) | fail) ?_; conv => whnf) | (refine ⟨by first | omega | (show _ ∧ _; omega) | ((repeat (first | rw [ByteArray.size_append] | rw [bsz] | rw [List.size_toArray] | rw [List.length_cons] | rw [List.length_nil])) <;> omega) | ((repeat rw [Int.toNat_natCast]) <;> first | omega | (show _ ∧ _; omega)) | (simp only [ByteArray.size_append, bsz, List.size_toArray, List.length_cons, List.length_nil]; omega) | (simp only [Int.toNat_natCast]; first | omega | (show _ ∧ _; omega)) | decide, ?_⟩; conv => whnf))
            have hgn := good_succ hg (by rw [← ht]; exact ((show _ ∧ _ from ⟨hst.1.trans (decide_eq_true ⟨a, d, g, e1, e2⟩), hst.2⟩)).1)
            (repeat (refine ⟨by first | omega | (show _ ∧ _; omega) | ((repeat (first | rw [ByteArray.size_append] | rw [bsz] | rw [List.size_toArray] | rw [List.length_cons] | rw [List.length_nil])) <;> omega) | ((repeat rw [Int.toNat_natCast]) <;> first | omega | (show _ ∧ _; omega)) | (simp only [ByteArray.size_append, bsz, List.size_toArray, List.length_cons, List.length_nil]; omega) | (simp only [Int.toNat_natCast]; first | omega | (show _ ∧ _; omega)) | decide, ?_⟩; conv => whnf))
            refine loopE [] (⟨j.k + 1, (true, ⟨⟨j.t.2.graph.nodes, rdN ((partsL ((cutB x).getD j.k default)).getD 1 default), rdN ((partsL ((cutB x).getD j.k default)).getD 2 default)⟩, j.t.2.inputs, j.t.2.picks, j.t.2.rounds⟩)⟩) (⟨by show j.k + 1 ≤ _; omega, hgn, by show (true, ⟨⟨j.t.2.graph.nodes, rdN ((partsL ((cutB x).getD j.k default)).getD 1 default), rdN ((partsL ((cutB x).getD j.k default)).getD 2 default)⟩, j.t.2.inputs, j.t.2.picks, j.t.2.rounds⟩) = stAt _ (j.k + 1); rw [stAt_succ hk2, ← ht]; exact ((show _ ∧ _ from ⟨hst.1.trans (decide_eq_true ⟨a, d, g, e1, e2⟩), hst.2⟩)).2.symm⟩) (by show (cutB x).length - (j.k + 1) < _; omega) ⟨rfl, rfl, trivial⟩ ⟨rfl, rfl, rfl, trivial⟩ (by repeat' (first | exact trivial | exact rfl | refine ⟨?_, ?_⟩)) (by kernel_rfl) (by first | exact trivial | exact ⟨rfl, trivial⟩) (by kernel_rfl)
    · have a : partsB ((cutB x).getD j.k default) = false := by simpa using a
      have a2 : (!partsB ((cutB x).getD j.k default)) = true := by rw [a]; rfl
      repeat (first | (refine ite_f (by first | with_reducible rfl | assumption | (simp; done) | fail) ?_; conv => whnf) | (refine ite_t (by first | with_reducible rfl | assumption | (simp; done) | fail) ?_; conv => whnf) | (refine ⟨by first | omega | (show _ ∧ _; omega) | ((repeat (first | rw [ByteArray.size_append] | rw [bsz] | rw [List.size_toArray] | rw [List.length_cons] | rw [List.length_nil])) <;> omega) | ((repeat rw [Int.toNat_natCast]) <;> first | omega | (show _ ∧ _; omega)) | (simp only [ByteArray.size_append, bsz, List.size_toArray, List.length_cons, List.length_nil]; omega) | (simp only [Int.toNat_natCast]; first | omega | (show _ ∧ _; omega)) | decide, ?_⟩; conv => whnf))
      (repeat (refine ⟨by first | omega | (show _ ∧ _; omega) | ((repeat (first | rw [ByteArray.size_append] | rw [bsz] | rw [List.size_toArray] | rw [List.length_cons] | rw [List.length_nil])) <;> omega) | ((repeat rw [Int.toNat_natCast]) <;> first | omega | (show _ ∧ _; omega)) | (simp only [ByteArray.size_append, bsz, List.size_toArray, List.length_cons, List.length_nil]; omega) | (simp only [Int.toNat_natCast]; first | omega | (show _ ∧ _; omega)) | decide, ?_⟩; conv => whnf))
      refine retW tbl_ok rfl rfl ?_
      rw [readScript_bad h0 hk2 hg (step_parts a)]
      exact (by repeat' (first | exact trivial | exact outC_val _ _ | exact rfl | exact .inr ⟨rfl, rfl, _, _, rfl⟩ | refine ⟨?_, ?_⟩))
  · have e : j.k = (cutB x).length := by omega
    refine ⟨fun a => ?_, fun a => ?_⟩ <;> conv => whnf
    · have a : j.t.1 = false := by simpa using a
      repeat (first | (refine ite_f (by first | with_reducible rfl | assumption | (simp; done) | fail) ?_; conv => whnf) | (refine ite_t (by first | with_reducible rfl | assumption | (simp; done) | fail) ?_; conv => whnf) | (refine ⟨by first | omega | (show _ ∧ _; omega) | ((repeat (first | rw [ByteArray.size_append] | rw [bsz] | rw [List.size_toArray] | rw [List.length_cons] | rw [List.length_nil])) <;> omega) | ((repeat rw [Int.toNat_natCast]) <;> first | omega | (show _ ∧ _; omega)) | (simp only [ByteArray.size_append, bsz, List.size_toArray, List.length_cons, List.length_nil]; omega) | (simp only [Int.toNat_natCast]; first | omega | (show _ ∧ _; omega)) | decide, ?_⟩; conv => whnf))
      (repeat (refine ⟨by first | omega | (show _ ∧ _; omega) | ((repeat (first | rw [ByteArray.size_append] | rw [bsz] | rw [List.size_toArray] | rw [List.length_cons] | rw [List.length_nil])) <;> omega) | ((repeat rw [Int.toNat_natCast]) <;> first | omega | (show _ ∧ _; omega)) | (simp only [ByteArray.size_append, bsz, List.size_toArray, List.length_cons, List.length_nil]; omega) | (simp only [Int.toNat_natCast]; first | omega | (show _ ∧ _; omega)) | decide, ?_⟩; conv => whnf))
      refine retW tbl_ok rfl rfl ?_
      rw [readScript_no h0 e hg (fun c => by have := c.1; rw [← ht, a] at this; cases this)]
      exact (by repeat' (first | exact trivial | exact outC_val _ _ | exact rfl | exact .inr ⟨rfl, rfl, _, _, rfl⟩ | refine ⟨?_, ?_⟩))
    have a : j.t.1 = true := by simpa using a
    have hgw := (show ScOk j.t.2 by rw [ht]; exact st_ok j.k hk hg).w.1
    repeat (first | (refine ite_f (by first | with_reducible rfl | assumption | (simp; done) | fail) ?_; conv => whnf) | (refine ite_t (by first | with_reducible rfl | assumption | (simp; done) | fail) ?_; conv => whnf) | (refine ⟨by first | omega | (show _ ∧ _; omega) | ((repeat (first | rw [ByteArray.size_append] | rw [bsz] | rw [List.size_toArray] | rw [List.length_cons] | rw [List.length_nil])) <;> omega) | ((repeat rw [Int.toNat_natCast]) <;> first | omega | (show _ ∧ _; omega)) | (simp only [ByteArray.size_append, bsz, List.size_toArray, List.length_cons, List.length_nil]; omega) | (simp only [Int.toNat_natCast]; first | omega | (show _ ∧ _; omega)) | decide, ?_⟩; conv => whnf))
    refine callR (specGraphOk j.t.2.graph (by omega)) rfl (go tbl_ok false ?_)
    conv => whnf
    repeat (first | (refine ite_f (by first | with_reducible rfl | assumption | (simp; done) | fail) ?_; conv => whnf) | (refine ite_t (by first | with_reducible rfl | assumption | (simp; done) | fail) ?_; conv => whnf) | (refine ⟨by first | omega | (show _ ∧ _; omega) | ((repeat (first | rw [ByteArray.size_append] | rw [bsz] | rw [List.size_toArray] | rw [List.length_cons] | rw [List.length_nil])) <;> omega) | ((repeat rw [Int.toNat_natCast]) <;> first | omega | (show _ ∧ _; omega)) | (simp only [ByteArray.size_append, bsz, List.size_toArray, List.length_cons, List.length_nil]; omega) | (simp only [Int.toNat_natCast]; first | omega | (show _ ∧ _; omega)) | decide, ?_⟩; conv => whnf))
    refine ⟨fun b => ?_, fun b => ?_⟩ <;> conv => whnf
    · have b : graphOk j.t.2.graph = false := by simpa using b
      repeat (first | (refine ite_f (by first | with_reducible rfl | assumption | (simp; done) | fail) ?_; conv => whnf) | (refine ite_t (by first | with_reducible rfl | assumption | (simp; done) | fail) ?_; conv => whnf) | (refine ⟨by first | omega | (show _ ∧ _; omega) | ((repeat (first | rw [ByteArray.size_append] | rw [bsz] | rw [List.size_toArray] | rw [List.length_cons] | rw [List.length_nil])) <;> omega) | ((repeat rw [Int.toNat_natCast]) <;> first | omega | (show _ ∧ _; omega)) | (simp only [ByteArray.size_append, bsz, List.size_toArray, List.length_cons, List.length_nil]; omega) | (simp only [Int.toNat_natCast]; first | omega | (show _ ∧ _; omega)) | decide, ?_⟩; conv => whnf))
      (repeat (refine ⟨by first | omega | (show _ ∧ _; omega) | ((repeat (first | rw [ByteArray.size_append] | rw [bsz] | rw [List.size_toArray] | rw [List.length_cons] | rw [List.length_nil])) <;> omega) | ((repeat rw [Int.toNat_natCast]) <;> first | omega | (show _ ∧ _; omega)) | (simp only [ByteArray.size_append, bsz, List.size_toArray, List.length_cons, List.length_nil]; omega) | (simp only [Int.toNat_natCast]; first | omega | (show _ ∧ _; omega)) | decide, ?_⟩; conv => whnf))
      refine retW tbl_ok rfl rfl ?_
      rw [readScript_no h0 e hg (fun c => by have := c.2; rw [← ht, b] at this; cases this)]
      exact (by repeat' (first | exact trivial | exact outC_val _ _ | exact rfl | exact .inr ⟨rfl, rfl, _, _, rfl⟩ | refine ⟨?_, ?_⟩))
    · have b : graphOk j.t.2.graph = true := by simpa using b
      repeat (first | (refine ite_f (by first | with_reducible rfl | assumption | (simp; done) | fail) ?_; conv => whnf) | (refine ite_t (by first | with_reducible rfl | assumption | (simp; done) | fail) ?_; conv => whnf) | (refine ⟨by first | omega | (show _ ∧ _; omega) | ((repeat (first | rw [ByteArray.size_append] | rw [bsz] | rw [List.size_toArray] | rw [List.length_cons] | rw [List.length_nil])) <;> omega) | ((repeat rw [Int.toNat_natCast]) <;> first | omega | (show _ ∧ _; omega)) | (simp only [ByteArray.size_append, bsz, List.size_toArray, List.length_cons, List.length_nil]; omega) | (simp only [Int.toNat_natCast]; first | omega | (show _ ∧ _; omega)) | decide, ?_⟩; conv => whnf))
      have hr := readScript_yes h0 e hg (by rw [← ht]; exact ⟨a, b⟩)
      rw [← ht] at hr
      refine retW tbl_ok rfl rfl ?_
      rw [hr]
      exact (by repeat' (first | exact trivial | exact outC_val _ _ | exact rfl | exact .inr ⟨rfl, rfl, _, _, rfl⟩ | refine ⟨?_, ?_⟩))

end Go.Proofs.YtcpjpkcahnldfaaGreatDoor
