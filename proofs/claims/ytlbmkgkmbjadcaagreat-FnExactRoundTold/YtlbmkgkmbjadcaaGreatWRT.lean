/- Texts for the law FnExactRoundTold: WRT. No conditions. -/
import Derived.Test.YtlbmkgkmbjadcaaGreatWTok3

set_option maxRecDepth 100000
namespace Go.Proofs.YtlbmkgkmbjadcaaGreat
open Go.Sx
theorem sumSet {α : Type} [Inhabited α] (f : α → Nat) : ∀ (l : List α) (j : Nat) (x : α), j < l.length → ((l.set j x).map f).sum + f (l.getD j default) = (l.map f).sum + f x
  | [], _, _, h => absurd h (Nat.not_lt_zero _)
  | y :: r, 0, x, _ => by simp; omega
  | y :: r, j + 1, x, h => by
    have := sumSet f r j x (by simpa using h)
    simp only [List.set_cons_succ, List.map_cons, List.sum_cons, List.getD_cons_succ]
    omega
theorem setWrkW {c : GCluster} {j : Int} {w : GWorker} (h : 0 ≤ j ∧ j < c.workers.length) : (setWrk c j w).w + (wrkAt c j).w = c.w + w.w := by
  have := sumSet GWorker.w c.workers j.toNat w (by omega)
  simp only [setWrk, GCluster.w, wS, List.length_set, wrkAt]
  omega
theorem setTokWt (c : GCluster) (e : Int) (t : GToken) : (setTok c e t).w = c.w := by simp only [GCluster.w, setTok, List.length_set]
theorem whiteW_w (w : GWorker) (e : Int) : (whiteW w e).w = w.w := by simp only [GWorker.w, whiteW, List.length_set]
theorem doneW_w (w : GWorker) (d : GDone) : (doneW w d).w = w.w + 1 := by simp only [GWorker.w, doneW, List.length_append, List.length_singleton]; omega
theorem addNewsW (c : GCluster) (l : List GNews) : (addNews c l).w = c.w + l.length := by simp only [GCluster.w, addNews, List.length_append]; omega
theorem wrk_setTok (c : GCluster) (e : Int) (t : GToken) (j : Int) : wrkAt (setTok c e t) j = wrkAt c j := rfl
theorem tokenStep_w (x : GCluster) (e : Int) : (tokenStep x e).1.w ≤ x.w + 4 := by
  unfold tokenStep
  split
  · rename_i h
    obtain ⟨hC, hE, hD, hP⟩ := h
    have hl0 : 1 ≤ x.workers.length := by have := hC.1.2.1; have := hC.1.1.2.1; omega
    have hwl4 : x.workers.length ≤ 4 := by have := hC.1.2.1; have := hC.1.1.2.1; omega
    have htl : x.tokens.length = 4 := hC.1.2.2.2
    have hTP := hC.2.2.2.1 _ (getD_mem (d := default) (show e.toNat < x.tokens.length by omega))
    have hat : 0 ≤ (tokAt x e).at_ ∧ (tokAt x e).at_ < x.workers.length := by
      have := hC.1.2.1
      have := hTP.1
      simp only [tokAt]
      omega
    dsimp only
    split
    · have := setWrkW (c := setTok x e ⟨true, (x.workers.length : Int) - 1, 0, false, (wrkAt x (tokAt x e).at_).caps.getD e.toNat default⟩) (j := (tokAt x e).at_) (w := whiteW (wrkAt x (tokAt x e).at_) e) hat
      rw [whiteW_w, wrk_setTok, setTokWt] at this
      dsimp only
      omega
    · split
      · split
        · have := setWrkW (c := setTok x e ⟨(tokAt x e).going, (tokAt x e).at_ - 1, (tokAt x e).sum + (wrkAt x (tokAt x e).at_).sums.getD e.toNat default, (tokAt x e).black || (wrkAt x (tokAt x e).at_).black.getD e.toNat default, (tokAt x e).capped || (wrkAt x (tokAt x e).at_).caps.getD e.toNat default⟩) (j := (tokAt x e).at_) (w := whiteW (wrkAt x (tokAt x e).at_) e) hat
          rw [whiteW_w, wrk_setTok, setTokWt] at this
          dsimp only
          omega
        · dsimp only; omega
      · rename_i hA
        have hz : (tokAt x e).at_ = 0 := by omega
        dsimp only
        unfold tokEnd
        split
        · have := setWrkW (c := setTok x e ⟨false, (tokAt x e).at_, (tokAt x e).sum, (tokAt x e).black, (tokAt x e).capped⟩) (j := 0) (w := doneW (wrkAt x (tokAt x e).at_) ⟨e, (tokAt x e).capped || (wrkAt x (tokAt x e).at_).caps.getD e.toNat default⟩) ⟨Int.le_refl _, by show (0 : Int) < (x.workers.length : Int); omega⟩
          rw [doneW_w, wrk_setTok, setTokWt, hz] at this
          rw [addNewsW, newsL, List.length_map, List.length_range, hz]
          have e1 : (setTok x e ⟨false, 0, (tokAt x e).sum, (tokAt x e).black, (tokAt x e).capped⟩).workers.length = x.workers.length := rfl
          omega
        · rw [setTokWt]; omega
  · dsimp only; omega

theorem got_of {c : GCluster} (h : c.ok) (l : GLink) (hl : l ∈ c.links) : l.got ≤ 9223372036854775807 := by
  have := (h.2.2.1.2 l hl).2.2.2.2.2
  exact this.2
def roundTold (x : GCluster) (e : Int) : Bool :=
  within e 0 ((x.tokens.length : Int) - 1) && ((tokAt x e).going && (((tokAt x e).at_ == 0) && (!(tokAt x e).black && ((tokenStep x e).2 && roundsDone (tokenStep x e).1 e))))
theorem told_eq {x : GCluster} {e : Int} (hE : within e 0 ((x.tokens.length : Int) - 1) = true) (hg : (tokAt x e).going = true) (ha : ((tokAt x e).at_ == 0) = true) (hb : (tokAt x e).black = false) (hk : (tokenStep x e).2 = true) : roundTold x e = roundsDone (tokenStep x e).1 e := by
  unfold roundTold
  rw [hE, hg, ha, hb, hk]
  rfl
theorem told_no1 {x : GCluster} {e : Int} (h : within e 0 ((x.tokens.length : Int) - 1) = false) : roundTold x e = false := by unfold roundTold; rw [h]; rfl
theorem told_no2 {x : GCluster} {e : Int} (h : (tokAt x e).going = false) : roundTold x e = false := by unfold roundTold; rw [h]; simp
theorem told_no3 {x : GCluster} {e : Int} (h : ((tokAt x e).at_ == 0) = false) : roundTold x e = false := by unfold roundTold; rw [h]; simp
theorem told_no4 {x : GCluster} {e : Int} (h : (tokAt x e).black = true) : roundTold x e = false := by unfold roundTold; rw [h]; simp
theorem told_no5 {x : GCluster} {e : Int} (h : (tokenStep x e).2 = false) : roundTold x e = false := by unfold roundTold; rw [h]; simp
theorem specRoundTold (x : GCluster) (e : Int) (h : x.w ≤ 8000000) : Meets Tryz.prog 32 [.agg x.c, .one (vi e)] [.one (vb (roundTold x e))] := by
  have htw := tokenStep_w x e
  have htl := GCluster.tokens_le h
  refine enterW tbl_ok false Tryz.func32 rfl (by decide) fun W => ?_
  conv => whnf
  (repeat (refine ⟨by first | omega | (show _ ∧ _; omega) | ((repeat (first | rw [ByteArray.size_append] | rw [bsz] | rw [List.size_toArray] | rw [List.length_cons] | rw [List.length_nil])) <;> omega) | ((repeat rw [Int.toNat_natCast]) <;> first | omega | (show _ ∧ _; omega)) | (simp only [ByteArray.size_append, bsz, List.size_toArray, List.length_cons, List.length_nil]; omega) | (simp only [Int.toNat_natCast]; first | omega | (show _ ∧ _; omega)) | decide, ?_⟩; conv => whnf))
  refine callR (specIn e 0 ((x.tokens.length : Int) - 1)) rfl (go tbl_ok false ?_)
  conv => whnf
  refine ⟨fun hE => ?_, fun hE => ?_⟩ <;> conv => whnf
  · have hE : within e 0 ((x.tokens.length : Int) - 1) = false := by simpa using hE
    repeat (first | (refine ite_f (by first | with_reducible rfl | assumption | (simp; done) | fail) ?_; conv => whnf) | (refine ite_t (by first | with_reducible rfl | assumption | (simp; done) | fail) ?_; conv => whnf) | (refine ⟨by first | omega | (show _ ∧ _; omega) | ((repeat (first | rw [ByteArray.size_append] | rw [bsz] | rw [List.size_toArray] | rw [List.length_cons] | rw [List.length_nil])) <;> omega) | ((repeat rw [Int.toNat_natCast]) <;> first | omega | (show _ ∧ _; omega)) | (simp only [ByteArray.size_append, bsz, List.size_toArray, List.length_cons, List.length_nil]; omega) | (simp only [Int.toNat_natCast]; first | omega | (show _ ∧ _; omega)) | decide, ?_⟩; conv => whnf))
    refine retW tbl_ok rfl rfl ?_
    rw [told_no1 hE]
    exact (by repeat' (first | exact trivial | exact outC_val _ _ | exact rfl | exact .inr ⟨rfl, rfl, _, _, rfl⟩ | refine ⟨?_, ?_⟩))
  have hE : within e 0 ((x.tokens.length : Int) - 1) = true := by simpa using hE
  have hEr := Go.Sx.within_iff.1 hE
  repeat (first | (refine ite_f (by first | with_reducible rfl | assumption | (simp; done) | fail) ?_; conv => whnf) | (refine ite_t (by first | with_reducible rfl | assumption | (simp; done) | fail) ?_; conv => whnf) | (refine ⟨by first | omega | (show _ ∧ _; omega) | ((repeat (first | rw [ByteArray.size_append] | rw [bsz] | rw [List.size_toArray] | rw [List.length_cons] | rw [List.length_nil])) <;> omega) | ((repeat rw [Int.toNat_natCast]) <;> first | omega | (show _ ∧ _; omega)) | (simp only [ByteArray.size_append, bsz, List.size_toArray, List.length_cons, List.length_nil]; omega) | (simp only [Int.toNat_natCast]; first | omega | (show _ ∧ _; omega)) | decide, ?_⟩; conv => whnf))
  (repeat (refine ⟨by first | omega | (show _ ∧ _; omega) | ((repeat (first | rw [ByteArray.size_append] | rw [bsz] | rw [List.size_toArray] | rw [List.length_cons] | rw [List.length_nil])) <;> omega) | ((repeat rw [Int.toNat_natCast]) <;> first | omega | (show _ ∧ _; omega)) | (simp only [ByteArray.size_append, bsz, List.size_toArray, List.length_cons, List.length_nil]; omega) | (simp only [Int.toNat_natCast]; first | omega | (show _ ∧ _; omega)) | decide, ?_⟩; conv => whnf))
  refine callW (specTokenStep x e (by omega)) rfl (go tbl_ok false ?_)
  conv => whnf
  refine ⟨fun hg => ?_, fun hg => ?_⟩ <;> conv => whnf
  · have hg : (tokAt x e).going = true := hg
    repeat (first | (refine ite_f (by first | with_reducible rfl | assumption | (simp; done) | fail) ?_; conv => whnf) | (refine ite_t (by first | with_reducible rfl | assumption | (simp; done) | fail) ?_; conv => whnf) | (refine ⟨by first | omega | (show _ ∧ _; omega) | ((repeat (first | rw [ByteArray.size_append] | rw [bsz] | rw [List.size_toArray] | rw [List.length_cons] | rw [List.length_nil])) <;> omega) | ((repeat rw [Int.toNat_natCast]) <;> first | omega | (show _ ∧ _; omega)) | (simp only [ByteArray.size_append, bsz, List.size_toArray, List.length_cons, List.length_nil]; omega) | (simp only [Int.toNat_natCast]; first | omega | (show _ ∧ _; omega)) | decide, ?_⟩; conv => whnf))
    refine ⟨fun ha => ?_, fun ha => ?_⟩ <;> conv => whnf
    · have ha : ((tokAt x e).at_ == 0) = true := ha
      repeat (first | (refine ite_f (by first | with_reducible rfl | assumption | (simp; done) | fail) ?_; conv => whnf) | (refine ite_t (by first | with_reducible rfl | assumption | (simp; done) | fail) ?_; conv => whnf) | (refine ⟨by first | omega | (show _ ∧ _; omega) | ((repeat (first | rw [ByteArray.size_append] | rw [bsz] | rw [List.size_toArray] | rw [List.length_cons] | rw [List.length_nil])) <;> omega) | ((repeat rw [Int.toNat_natCast]) <;> first | omega | (show _ ∧ _; omega)) | (simp only [ByteArray.size_append, bsz, List.size_toArray, List.length_cons, List.length_nil]; omega) | (simp only [Int.toNat_natCast]; first | omega | (show _ ∧ _; omega)) | decide, ?_⟩; conv => whnf))
      refine ⟨fun hb => ?_, fun hb => ?_⟩ <;> conv => whnf
      · have hb : (tokAt x e).black = false := by simpa [tokAt] using hb
        repeat (first | (refine ite_f (by first | with_reducible rfl | assumption | (simp; done) | fail) ?_; conv => whnf) | (refine ite_t (by first | with_reducible rfl | assumption | (simp; done) | fail) ?_; conv => whnf) | (refine ⟨by first | omega | (show _ ∧ _; omega) | ((repeat (first | rw [ByteArray.size_append] | rw [bsz] | rw [List.size_toArray] | rw [List.length_cons] | rw [List.length_nil])) <;> omega) | ((repeat rw [Int.toNat_natCast]) <;> first | omega | (show _ ∧ _; omega)) | (simp only [ByteArray.size_append, bsz, List.size_toArray, List.length_cons, List.length_nil]; omega) | (simp only [Int.toNat_natCast]; first | omega | (show _ ∧ _; omega)) | decide, ?_⟩; conv => whnf))
        refine ⟨fun hk => ?_, fun hk => ?_⟩ <;> conv => whnf
        · have hk : (tokenStep x e).2 = true := hk
          repeat (first | (refine ite_f (by first | with_reducible rfl | assumption | (simp; done) | fail) ?_; conv => whnf) | (refine ite_t (by first | with_reducible rfl | assumption | (simp; done) | fail) ?_; conv => whnf) | (refine ⟨by first | omega | (show _ ∧ _; omega) | ((repeat (first | rw [ByteArray.size_append] | rw [bsz] | rw [List.size_toArray] | rw [List.length_cons] | rw [List.length_nil])) <;> omega) | ((repeat rw [Int.toNat_natCast]) <;> first | omega | (show _ ∧ _; omega)) | (simp only [ByteArray.size_append, bsz, List.size_toArray, List.length_cons, List.length_nil]; omega) | (simp only [Int.toNat_natCast]; first | omega | (show _ ∧ _; omega)) | decide, ?_⟩; conv => whnf))
          refine callR (specRoundsDone (tokenStep x e).1 e (by omega)) rfl (go tbl_ok false ?_)
          conv => whnf
          repeat (first | (refine ite_f (by first | with_reducible rfl | assumption | (simp; done) | fail) ?_; conv => whnf) | (refine ite_t (by first | with_reducible rfl | assumption | (simp; done) | fail) ?_; conv => whnf) | (refine ⟨by first | omega | (show _ ∧ _; omega) | ((repeat (first | rw [ByteArray.size_append] | rw [bsz] | rw [List.size_toArray] | rw [List.length_cons] | rw [List.length_nil])) <;> omega) | ((repeat rw [Int.toNat_natCast]) <;> first | omega | (show _ ∧ _; omega)) | (simp only [ByteArray.size_append, bsz, List.size_toArray, List.length_cons, List.length_nil]; omega) | (simp only [Int.toNat_natCast]; first | omega | (show _ ∧ _; omega)) | decide, ?_⟩; conv => whnf))
          refine retW tbl_ok rfl rfl ?_
          rw [told_eq hE hg ha hb hk]
          exact (by repeat' (first | exact trivial | exact outC_val _ _ | exact rfl | exact .inr ⟨rfl, rfl, _, _, rfl⟩ | refine ⟨?_, ?_⟩))
        · have hk : (tokenStep x e).2 = false := hk
          repeat (first | (refine ite_f (by first | with_reducible rfl | assumption | (simp; done) | fail) ?_; conv => whnf) | (refine ite_t (by first | with_reducible rfl | assumption | (simp; done) | fail) ?_; conv => whnf) | (refine ⟨by first | omega | (show _ ∧ _; omega) | ((repeat (first | rw [ByteArray.size_append] | rw [bsz] | rw [List.size_toArray] | rw [List.length_cons] | rw [List.length_nil])) <;> omega) | ((repeat rw [Int.toNat_natCast]) <;> first | omega | (show _ ∧ _; omega)) | (simp only [ByteArray.size_append, bsz, List.size_toArray, List.length_cons, List.length_nil]; omega) | (simp only [Int.toNat_natCast]; first | omega | (show _ ∧ _; omega)) | decide, ?_⟩; conv => whnf))
          refine retW tbl_ok rfl rfl ?_
          rw [told_no5 hk]
          exact (by repeat' (first | exact trivial | exact outC_val _ _ | exact rfl | exact .inr ⟨rfl, rfl, _, _, rfl⟩ | refine ⟨?_, ?_⟩))
      · have hb : (tokAt x e).black = true := by simpa [tokAt] using hb
        repeat (first | (refine ite_f (by first | with_reducible rfl | assumption | (simp; done) | fail) ?_; conv => whnf) | (refine ite_t (by first | with_reducible rfl | assumption | (simp; done) | fail) ?_; conv => whnf) | (refine ⟨by first | omega | (show _ ∧ _; omega) | ((repeat (first | rw [ByteArray.size_append] | rw [bsz] | rw [List.size_toArray] | rw [List.length_cons] | rw [List.length_nil])) <;> omega) | ((repeat rw [Int.toNat_natCast]) <;> first | omega | (show _ ∧ _; omega)) | (simp only [ByteArray.size_append, bsz, List.size_toArray, List.length_cons, List.length_nil]; omega) | (simp only [Int.toNat_natCast]; first | omega | (show _ ∧ _; omega)) | decide, ?_⟩; conv => whnf))
        refine retW tbl_ok rfl rfl ?_
        rw [told_no4 hb]
        exact (by repeat' (first | exact trivial | exact outC_val _ _ | exact rfl | exact .inr ⟨rfl, rfl, _, _, rfl⟩ | refine ⟨?_, ?_⟩))
    · have ha : ((tokAt x e).at_ == 0) = false := ha
      repeat (first | (refine ite_f (by first | with_reducible rfl | assumption | (simp; done) | fail) ?_; conv => whnf) | (refine ite_t (by first | with_reducible rfl | assumption | (simp; done) | fail) ?_; conv => whnf) | (refine ⟨by first | omega | (show _ ∧ _; omega) | ((repeat (first | rw [ByteArray.size_append] | rw [bsz] | rw [List.size_toArray] | rw [List.length_cons] | rw [List.length_nil])) <;> omega) | ((repeat rw [Int.toNat_natCast]) <;> first | omega | (show _ ∧ _; omega)) | (simp only [ByteArray.size_append, bsz, List.size_toArray, List.length_cons, List.length_nil]; omega) | (simp only [Int.toNat_natCast]; first | omega | (show _ ∧ _; omega)) | decide, ?_⟩; conv => whnf))
      refine retW tbl_ok rfl rfl ?_
      rw [told_no3 ha]
      exact (by repeat' (first | exact trivial | exact outC_val _ _ | exact rfl | exact .inr ⟨rfl, rfl, _, _, rfl⟩ | refine ⟨?_, ?_⟩))
  · have hg : (tokAt x e).going = false := hg
    repeat (first | (refine ite_f (by first | with_reducible rfl | assumption | (simp; done) | fail) ?_; conv => whnf) | (refine ite_t (by first | with_reducible rfl | assumption | (simp; done) | fail) ?_; conv => whnf) | (refine ⟨by first | omega | (show _ ∧ _; omega) | ((repeat (first | rw [ByteArray.size_append] | rw [bsz] | rw [List.size_toArray] | rw [List.length_cons] | rw [List.length_nil])) <;> omega) | ((repeat rw [Int.toNat_natCast]) <;> first | omega | (show _ ∧ _; omega)) | (simp only [ByteArray.size_append, bsz, List.size_toArray, List.length_cons, List.length_nil]; omega) | (simp only [Int.toNat_natCast]; first | omega | (show _ ∧ _; omega)) | decide, ?_⟩; conv => whnf))
    refine retW tbl_ok rfl rfl ?_
    rw [told_no2 hg]
    exact (by repeat' (first | exact trivial | exact outC_val _ _ | exact rfl | exact .inr ⟨rfl, rfl, _, _, rfl⟩ | refine ⟨?_, ?_⟩))
theorem implRoundTold (x : GCluster) (e : Int) (h : x.w ≤ 8000000) (hgo : GotR x) : Meets Tryz.prog 34 [.agg x.c, .one (vi e)] [.one (vb (roundTold x e))] := by
  have htw := tokenStep_w x e
  have htl := GCluster.tokens_le h
  refine enterW tbl_ok false Tryz.func34 rfl (by decide) fun W => ?_
  conv => whnf
  (repeat (refine ⟨by first | omega | (show _ ∧ _; omega) | ((repeat (first | rw [ByteArray.size_append] | rw [bsz] | rw [List.size_toArray] | rw [List.length_cons] | rw [List.length_nil])) <;> omega) | ((repeat rw [Int.toNat_natCast]) <;> first | omega | (show _ ∧ _; omega)) | (simp only [ByteArray.size_append, bsz, List.size_toArray, List.length_cons, List.length_nil]; omega) | (simp only [Int.toNat_natCast]; first | omega | (show _ ∧ _; omega)) | decide, ?_⟩; conv => whnf))
  refine callR (implIn e 0 ((x.tokens.length : Int) - 1)) rfl (go tbl_ok false ?_)
  conv => whnf
  refine ⟨fun hE => ?_, fun hE => ?_⟩ <;> conv => whnf
  · have hE : within e 0 ((x.tokens.length : Int) - 1) = false := by simpa using hE
    repeat (first | (refine ite_f (by first | with_reducible rfl | assumption | (simp; done) | fail) ?_; conv => whnf) | (refine ite_t (by first | with_reducible rfl | assumption | (simp; done) | fail) ?_; conv => whnf) | (refine ⟨by first | omega | (show _ ∧ _; omega) | ((repeat (first | rw [ByteArray.size_append] | rw [bsz] | rw [List.size_toArray] | rw [List.length_cons] | rw [List.length_nil])) <;> omega) | ((repeat rw [Int.toNat_natCast]) <;> first | omega | (show _ ∧ _; omega)) | (simp only [ByteArray.size_append, bsz, List.size_toArray, List.length_cons, List.length_nil]; omega) | (simp only [Int.toNat_natCast]; first | omega | (show _ ∧ _; omega)) | decide, ?_⟩; conv => whnf))
    refine retW tbl_ok rfl rfl ?_
    rw [told_no1 hE]
    exact (by repeat' (first | exact trivial | exact outC_val _ _ | exact rfl | exact .inr ⟨rfl, rfl, _, _, rfl⟩ | refine ⟨?_, ?_⟩))
  have hE : within e 0 ((x.tokens.length : Int) - 1) = true := by simpa using hE
  have hEr := Go.Sx.within_iff.1 hE
  repeat (first | (refine ite_f (by first | with_reducible rfl | assumption | (simp; done) | fail) ?_; conv => whnf) | (refine ite_t (by first | with_reducible rfl | assumption | (simp; done) | fail) ?_; conv => whnf) | (refine ⟨by first | omega | (show _ ∧ _; omega) | ((repeat (first | rw [ByteArray.size_append] | rw [bsz] | rw [List.size_toArray] | rw [List.length_cons] | rw [List.length_nil])) <;> omega) | ((repeat rw [Int.toNat_natCast]) <;> first | omega | (show _ ∧ _; omega)) | (simp only [ByteArray.size_append, bsz, List.size_toArray, List.length_cons, List.length_nil]; omega) | (simp only [Int.toNat_natCast]; first | omega | (show _ ∧ _; omega)) | decide, ?_⟩; conv => whnf))
  (repeat (refine ⟨by first | omega | (show _ ∧ _; omega) | ((repeat (first | rw [ByteArray.size_append] | rw [bsz] | rw [List.size_toArray] | rw [List.length_cons] | rw [List.length_nil])) <;> omega) | ((repeat rw [Int.toNat_natCast]) <;> first | omega | (show _ ∧ _; omega)) | (simp only [ByteArray.size_append, bsz, List.size_toArray, List.length_cons, List.length_nil]; omega) | (simp only [Int.toNat_natCast]; first | omega | (show _ ∧ _; omega)) | decide, ?_⟩; conv => whnf))
  refine ⟨fun hg => ?_, fun hg => ?_⟩ <;> conv => whnf
  · have hg : (tokAt x e).going = false := by simpa [tokAt] using hg
    repeat (first | (refine ite_f (by first | with_reducible rfl | assumption | (simp; done) | fail) ?_; conv => whnf) | (refine ite_t (by first | with_reducible rfl | assumption | (simp; done) | fail) ?_; conv => whnf) | (refine ⟨by first | omega | (show _ ∧ _; omega) | ((repeat (first | rw [ByteArray.size_append] | rw [bsz] | rw [List.size_toArray] | rw [List.length_cons] | rw [List.length_nil])) <;> omega) | ((repeat rw [Int.toNat_natCast]) <;> first | omega | (show _ ∧ _; omega)) | (simp only [ByteArray.size_append, bsz, List.size_toArray, List.length_cons, List.length_nil]; omega) | (simp only [Int.toNat_natCast]; first | omega | (show _ ∧ _; omega)) | decide, ?_⟩; conv => whnf))
    refine retW tbl_ok rfl rfl ?_
    rw [told_no2 hg]
    exact (by repeat' (first | exact trivial | exact outC_val _ _ | exact rfl | exact .inr ⟨rfl, rfl, _, _, rfl⟩ | refine ⟨?_, ?_⟩))
  have hg : (tokAt x e).going = true := by simpa [tokAt] using hg
  repeat (first | (refine ite_f (by first | with_reducible rfl | assumption | (simp; done) | fail) ?_; conv => whnf) | (refine ite_t (by first | with_reducible rfl | assumption | (simp; done) | fail) ?_; conv => whnf) | (refine ⟨by first | omega | (show _ ∧ _; omega) | ((repeat (first | rw [ByteArray.size_append] | rw [bsz] | rw [List.size_toArray] | rw [List.length_cons] | rw [List.length_nil])) <;> omega) | ((repeat rw [Int.toNat_natCast]) <;> first | omega | (show _ ∧ _; omega)) | (simp only [ByteArray.size_append, bsz, List.size_toArray, List.length_cons, List.length_nil]; omega) | (simp only [Int.toNat_natCast]; first | omega | (show _ ∧ _; omega)) | decide, ?_⟩; conv => whnf))
  refine ⟨fun ha => ?_, fun ha => ?_⟩ <;> conv => whnf
  · have ha : ((tokAt x e).at_ == 0) = false := by simpa [tokAt] using ha
    repeat (first | (refine ite_f (by first | with_reducible rfl | assumption | (simp; done) | fail) ?_; conv => whnf) | (refine ite_t (by first | with_reducible rfl | assumption | (simp; done) | fail) ?_; conv => whnf) | (refine ⟨by first | omega | (show _ ∧ _; omega) | ((repeat (first | rw [ByteArray.size_append] | rw [bsz] | rw [List.size_toArray] | rw [List.length_cons] | rw [List.length_nil])) <;> omega) | ((repeat rw [Int.toNat_natCast]) <;> first | omega | (show _ ∧ _; omega)) | (simp only [ByteArray.size_append, bsz, List.size_toArray, List.length_cons, List.length_nil]; omega) | (simp only [Int.toNat_natCast]; first | omega | (show _ ∧ _; omega)) | decide, ?_⟩; conv => whnf))
    refine retW tbl_ok rfl rfl ?_
    rw [told_no3 ha]
    exact (by repeat' (first | exact trivial | exact outC_val _ _ | exact rfl | exact .inr ⟨rfl, rfl, _, _, rfl⟩ | refine ⟨?_, ?_⟩))
  have ha : ((tokAt x e).at_ == 0) = true := by simpa [tokAt] using ha
  repeat (first | (refine ite_f (by first | with_reducible rfl | assumption | (simp; done) | fail) ?_; conv => whnf) | (refine ite_t (by first | with_reducible rfl | assumption | (simp; done) | fail) ?_; conv => whnf) | (refine ⟨by first | omega | (show _ ∧ _; omega) | ((repeat (first | rw [ByteArray.size_append] | rw [bsz] | rw [List.size_toArray] | rw [List.length_cons] | rw [List.length_nil])) <;> omega) | ((repeat rw [Int.toNat_natCast]) <;> first | omega | (show _ ∧ _; omega)) | (simp only [ByteArray.size_append, bsz, List.size_toArray, List.length_cons, List.length_nil]; omega) | (simp only [Int.toNat_natCast]; first | omega | (show _ ∧ _; omega)) | decide, ?_⟩; conv => whnf))
  refine ⟨fun hb => ?_, fun hb => ?_⟩ <;> conv => whnf
  · have hb : (tokAt x e).black = true := hb
    repeat (first | (refine ite_f (by first | with_reducible rfl | assumption | (simp; done) | fail) ?_; conv => whnf) | (refine ite_t (by first | with_reducible rfl | assumption | (simp; done) | fail) ?_; conv => whnf) | (refine ⟨by first | omega | (show _ ∧ _; omega) | ((repeat (first | rw [ByteArray.size_append] | rw [bsz] | rw [List.size_toArray] | rw [List.length_cons] | rw [List.length_nil])) <;> omega) | ((repeat rw [Int.toNat_natCast]) <;> first | omega | (show _ ∧ _; omega)) | (simp only [ByteArray.size_append, bsz, List.size_toArray, List.length_cons, List.length_nil]; omega) | (simp only [Int.toNat_natCast]; first | omega | (show _ ∧ _; omega)) | decide, ?_⟩; conv => whnf))
    refine retW tbl_ok rfl rfl ?_
    rw [told_no4 hb]
    exact (by repeat' (first | exact trivial | exact outC_val _ _ | exact rfl | exact .inr ⟨rfl, rfl, _, _, rfl⟩ | refine ⟨?_, ?_⟩))
  have hb : (tokAt x e).black = false := hb
  repeat (first | (refine ite_f (by first | with_reducible rfl | assumption | (simp; done) | fail) ?_; conv => whnf) | (refine ite_t (by first | with_reducible rfl | assumption | (simp; done) | fail) ?_; conv => whnf) | (refine ⟨by first | omega | (show _ ∧ _; omega) | ((repeat (first | rw [ByteArray.size_append] | rw [bsz] | rw [List.size_toArray] | rw [List.length_cons] | rw [List.length_nil])) <;> omega) | ((repeat rw [Int.toNat_natCast]) <;> first | omega | (show _ ∧ _; omega)) | (simp only [ByteArray.size_append, bsz, List.size_toArray, List.length_cons, List.length_nil]; omega) | (simp only [Int.toNat_natCast]; first | omega | (show _ ∧ _; omega)) | decide, ?_⟩; conv => whnf))
  refine callW (implTokenStep x e (by omega) hgo) rfl (go tbl_ok false ?_)
  conv => whnf
  refine ⟨fun hk => ?_, fun hk => ?_⟩ <;> conv => whnf
  · have hk : (tokenStep x e).2 = true := hk
    repeat (first | (refine ite_f (by first | with_reducible rfl | assumption | (simp; done) | fail) ?_; conv => whnf) | (refine ite_t (by first | with_reducible rfl | assumption | (simp; done) | fail) ?_; conv => whnf) | (refine ⟨by first | omega | (show _ ∧ _; omega) | ((repeat (first | rw [ByteArray.size_append] | rw [bsz] | rw [List.size_toArray] | rw [List.length_cons] | rw [List.length_nil])) <;> omega) | ((repeat rw [Int.toNat_natCast]) <;> first | omega | (show _ ∧ _; omega)) | (simp only [ByteArray.size_append, bsz, List.size_toArray, List.length_cons, List.length_nil]; omega) | (simp only [Int.toNat_natCast]; first | omega | (show _ ∧ _; omega)) | decide, ?_⟩; conv => whnf))
    refine callR (implRoundsDone (tokenStep x e).1 e (by omega)) rfl (go tbl_ok false ?_)
    conv => whnf
    repeat (first | (refine ite_f (by first | with_reducible rfl | assumption | (simp; done) | fail) ?_; conv => whnf) | (refine ite_t (by first | with_reducible rfl | assumption | (simp; done) | fail) ?_; conv => whnf) | (refine ⟨by first | omega | (show _ ∧ _; omega) | ((repeat (first | rw [ByteArray.size_append] | rw [bsz] | rw [List.size_toArray] | rw [List.length_cons] | rw [List.length_nil])) <;> omega) | ((repeat rw [Int.toNat_natCast]) <;> first | omega | (show _ ∧ _; omega)) | (simp only [ByteArray.size_append, bsz, List.size_toArray, List.length_cons, List.length_nil]; omega) | (simp only [Int.toNat_natCast]; first | omega | (show _ ∧ _; omega)) | decide, ?_⟩; conv => whnf))
    refine retW tbl_ok rfl rfl ?_
    rw [told_eq hE hg ha hb hk]
    exact (by repeat' (first | exact trivial | exact outC_val _ _ | exact rfl | exact .inr ⟨rfl, rfl, _, _, rfl⟩ | refine ⟨?_, ?_⟩))
  have hk : (tokenStep x e).2 = false := hk
  repeat (first | (refine ite_f (by first | with_reducible rfl | assumption | (simp; done) | fail) ?_; conv => whnf) | (refine ite_t (by first | with_reducible rfl | assumption | (simp; done) | fail) ?_; conv => whnf) | (refine ⟨by first | omega | (show _ ∧ _; omega) | ((repeat (first | rw [ByteArray.size_append] | rw [bsz] | rw [List.size_toArray] | rw [List.length_cons] | rw [List.length_nil])) <;> omega) | ((repeat rw [Int.toNat_natCast]) <;> first | omega | (show _ ∧ _; omega)) | (simp only [ByteArray.size_append, bsz, List.size_toArray, List.length_cons, List.length_nil]; omega) | (simp only [Int.toNat_natCast]; first | omega | (show _ ∧ _; omega)) | decide, ?_⟩; conv => whnf))
  refine retW tbl_ok rfl rfl ?_
  rw [told_no5 hk]
  exact (by repeat' (first | exact trivial | exact outC_val _ _ | exact rfl | exact .inr ⟨rfl, rfl, _, _, rfl⟩ | refine ⟨?_, ?_⟩))

end Go.Proofs.YtlbmkgkmbjadcaaGreat
