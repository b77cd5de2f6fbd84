/- Texts for the law FnExactClusterLines: WCmp. No conditions. -/
import Derived.Test.YteonkhnmlolfgaaGreatDoorWRec

set_option maxRecDepth 100000
namespace Go.Proofs.YteonkhnmlolfgaaGreatDoor
open Go.Sx
def cmpI (a b : Int) : Int := if a < b then -1 else if a > b then 1 else 0
def lexI : List Int → List Int → Int
  | a :: x, b :: y => if cmpI a b = 0 then lexI x y else cmpI a b
  | _, _ => 0
theorem lexI_drop {a b : List Int} {k : Nat} (h : k < a.length) (hl : a.length = b.length) : lexI (a.drop k) (b.drop k) = if cmpI (a.getD k default) (b.getD k default) = 0 then lexI (a.drop (k + 1)) (b.drop (k + 1)) else cmpI (a.getD k default) (b.getD k default) := by
  have h2 : k < b.length := by omega
  rw [List.drop_eq_getElem_cons h, List.drop_eq_getElem_cons h2, lexI, List.getD, List.getD, List.getElem?_eq_getElem h, List.getElem?_eq_getElem h2]
  rfl
theorem lexI_end {a b : List Int} {k : Nat} (h : ¬ k < a.length) : lexI (a.drop k) (b.drop k) = 0 := by
  rw [List.drop_of_length_le (by omega)]
  rfl
theorem implNaN (n : Int) : Meets Tryz.prog 141 [.one (vi n)] [.one (vb false)] := by
  refine enterW tbl_ok false Tryz.func141 rfl (by decide) fun W => ?_
  conv => whnf
  exact retW tbl_ok rfl rfl ⟨congrArg vb (by simp), trivial⟩
theorem implCmpInt (a b : Int) : Meets Tryz.prog 134 [.one (vi a), .one (vi b)] [.one (vi (cmpI a b))] := by
  refine enterW tbl_ok false Tryz.func134 rfl (by decide) fun W => ?_
  conv => whnf
  refine callR (implNaN a) rfl (go tbl_ok false ?_)
  conv => whnf
  refine callR (implNaN b) rfl (go tbl_ok false ?_)
  conv => whnf
  refine ite_f (by first | with_reducible rfl | assumption | (simp only [decide_eq_false_iff_not]; omega) | simp) ?_
  conv => whnf
  refine ite_f (by first | with_reducible rfl | assumption | (simp only [decide_eq_false_iff_not]; omega) | simp) ?_
  conv => whnf
  refine ⟨fun h => have h := of_decide_eq_true h; ?_, fun h => have h := of_decide_eq_false h; ?_⟩ <;> conv => whnf
  · exact retW tbl_ok rfl rfl ⟨congrArg vi (by rw [cmpI, if_pos h]), trivial⟩
  · refine ⟨fun h2 => have h2 := of_decide_eq_true h2; ?_, fun h2 => have h2 := of_decide_eq_false h2; ?_⟩ <;> conv => whnf
    · exact retW tbl_ok rfl rfl ⟨congrArg vi (by rw [cmpI, if_neg h, if_pos h2]), trivial⟩
    · exact retW tbl_ok rfl rfl ⟨congrArg vi (by rw [cmpI, if_neg h, if_neg h2]), trivial⟩
theorem specOrder (a b : Int) : Meets Tryz.prog 115 [.one (vi a), .one (vi b)] [.one (vi (cmpI a b))] := by
  refine enterW tbl_ok false Tryz.func115 rfl (by decide) fun W => ?_
  conv => whnf
  refine ⟨fun h => have h := of_decide_eq_true h; ?_, fun h => have h := of_decide_eq_false h; ?_⟩ <;> conv => whnf
  · exact retW tbl_ok rfl rfl ⟨congrArg vi (by rw [cmpI, if_pos h]), trivial⟩
  · refine ⟨fun h2 => have h2 := of_decide_eq_true h2; ?_, fun h2 => have h2 := of_decide_eq_false h2; ?_⟩ <;> conv => whnf
    · exact retW tbl_ok rfl rfl ⟨congrArg vi (by rw [cmpI, if_neg h, if_pos h2]), trivial⟩
    · exact retW tbl_ok rfl rfl ⟨congrArg vi (by rw [cmpI, if_neg h, if_neg h2]), trivial⟩
theorem implCompare (a b : List Int) (hl : a.length = b.length) (ha : a.length ≤ 16777216) : Meets Tryz.prog 126 [.one (sInt a), .one (sInt b)] [.one (vi (lexI a b))] := by
  refine enterW tbl_ok false Tryz.func126 rfl (by decide) fun W => ?_
  conv => whnf
  refine loopW tbl_ok false [] (fun k : Nat => [(11, .c (vi k))]) (fun k => []) (fun k => [])
    (fun k => k ≤ a.length ∧ lexI (a.drop k) (b.drop k) = lexI a b) (fun k => a.length - k) 0 ⟨Nat.zero_le _, by first | rfl | assumption | simp⟩ ⟨by first | rfl | simp [nth, ren2, ren1, ren0], trivial⟩ trivial trivial (by first | exact trivial | exact ⟨rfl, trivial⟩ | repeat' (first | exact trivial | exact rfl | refine ⟨?_, ?_⟩)) (by kernel_rfl) (fun k hk => ?_)
  obtain ⟨hk, he⟩ := hk
  conv => whnf
  refine ⟨fun h => have h := of_decide_eq_true h; ?_, fun h => have h := of_decide_eq_false h; ?_⟩ <;> conv => whnf
  · have h : k < a.length := by omega
    rw [lexI_drop h hl] at he
    (repeat (refine need1 ?_; conv => whnf))
    refine ⟨fun h2 => have h2 := of_decide_eq_true h2; ?_, fun h2 => have h2 := of_decide_eq_false h2; ?_⟩ <;> conv => whnf
    · omega
    (repeat (refine need1 ?_; conv => whnf))
    refine callR (implCmpInt (a.getD k default) (b.getD k default)) rfl (go tbl_ok false ?_)
    conv => whnf
    refine ⟨fun h3 => have h3 := bne_iff_ne.1 h3; ?_, fun h3 => have h3 := bne_eq_false_iff_eq.1 h3; ?_⟩ <;> conv => whnf
    · rw [if_neg h3] at he
      exact retW tbl_ok rfl rfl ⟨congrArg vi he.symm, trivial⟩
    · rw [if_pos h3] at he
      (repeat (refine need1 ?_; conv => whnf))
      refine loopE [] (k + 1) ⟨by omega, he⟩ (by omega) ⟨rfl, trivial⟩ trivial trivial (by kernel_rfl) (by first | exact trivial | exact ⟨rfl, trivial⟩ | repeat' (first | exact trivial | exact rfl | refine ⟨?_, ?_⟩)) (by kernel_rfl)
  · rw [lexI_end (by omega)] at he
    refine ⟨fun h4 => have h4 := of_decide_eq_true h4; ?_, fun h4 => have h4 := of_decide_eq_false h4; ?_⟩ <;> conv => whnf
    · omega
    · exact retW tbl_ok rfl rfl ⟨congrArg vi he.symm, trivial⟩
theorem implOrderOf (a b : List Int) (hl : a.length = b.length) (ha : a.length ≤ 16777216) : Meets Tryz.prog 118 [.one (sInt a), .one (sInt b)] [.one (vi (lexI a b))] := by
  refine enterW tbl_ok false Tryz.func118 rfl (by decide) fun W => ?_
  conv => whnf
  refine callR (implCompare a b hl ha) rfl (go tbl_ok false ?_)
  conv => whnf
  exact retW tbl_ok rfl rfl ⟨rfl, trivial⟩
def cellL (x : GCell) : List Int := [x.epoch, x.op, x.key, x.val]
def cellCmp (a b : GCell) : Int := lexI (cellL a) (cellL b)
theorem implCellOrder (a b : GCell) : Meets Tryz.prog 106 [.agg a.c, .agg b.c] [.one (vi (cellCmp a b))] := by
  refine enterW tbl_ok false Tryz.func106 rfl (by decide) fun W => ?_
  conv => whnf
  refine castC 2 (sInt (cellL a)) rfl (cast_rows rfl (by repeat' (first | exact trivial | exact rfl | refine ⟨?_, ?_⟩))) ?_
  refine castC 3 (sInt (cellL b)) rfl (cast_rows rfl (by repeat' (first | exact trivial | exact rfl | refine ⟨?_, ?_⟩))) ?_
  refine callR (implOrderOf (cellL a) (cellL b) rfl (by simp [cellL])) rfl (go tbl_ok false ?_)
  conv => whnf
  exact retW tbl_ok rfl rfl ⟨rfl, trivial⟩
def cmpL (a b : GCell) : List Int := [cmpI a.epoch b.epoch, cmpI a.op b.op, cmpI a.key b.key, cmpI a.val b.val]
theorem lexI_first : ∀ (l m : List Int) (k : Nat), (∀ i, i < k → cmpI (l.getD i default) (m.getD i default) = 0) → l.length = m.length → k < l.length → cmpI (l.getD k default) (m.getD k default) ≠ 0 → lexI l m = cmpI (l.getD k default) (m.getD k default)
  | [], _, _, _, _, h, _ => by simp at h
  | _ :: _, [], _, _, h, _, _ => by simp at h
  | a :: x, b :: y, 0, _, _, _, h => by rw [lexI, if_neg (show ¬ cmpI a b = 0 from h)]; rfl
  | a :: x, b :: y, k + 1, h0, hl, hk, h => by
    have := h0 0 (by omega)
    rw [lexI, if_pos (show cmpI a b = 0 from this)]
    exact lexI_first x y k (fun i hi => h0 (i + 1) (by omega)) (by simpa using hl) (by simpa using hk) h
theorem lexI_zero : ∀ (l m : List Int), (∀ i, i < l.length → cmpI (l.getD i default) (m.getD i default) = 0) → l.length = m.length → lexI l m = 0
  | [], _, _, _ => by rw [lexI]; simp
  | _ :: _, [], _, h => by simp at h
  | a :: x, b :: y, h0, hl => by
    have := h0 0 (by simp)
    rw [lexI, if_pos (show cmpI a b = 0 from this)]
    exact lexI_zero x y (fun i hi => h0 (i + 1) (by simpa using hi)) (by simpa using hl)
theorem specCellOrder (a b : GCell) : Meets Tryz.prog 100 [.agg a.c, .agg b.c] [.one (vi (cellCmp a b))] := by
  refine enterW tbl_ok false Tryz.func100 rfl (by decide) fun W => ?_
  conv => whnf
  repeat' (first | (refine auf ?_; conv => whnf) | (refine aut ?_; conv => whnf) | (refine ⟨fun h => ?_, fun h => ?_⟩ <;> conv => whnf) | (refine callR (specOrder _ _) rfl (go tbl_ok false ?_); conv => whnf) | (refine needF ?_; conv => whnf) | (refine drawI 1 rfl [0, 1, 2, 3, 5, 6, 7, 8, 10, 11, 12, 13, 15, 16, 17, 18, 4, 9, 14, 19, 20, 21] (by kernel_rfl) (go tbl_ok false ?_); conv => whnf) | fail)
  refine castW 2 (sInt (cmpL a b)) rfl (cast_rows rfl (by repeat' (first | exact trivial | exact rfl | refine ⟨?_, ?_⟩))) ?_
  refine loopW tbl_ok false [] (fun k : Nat => [(6, .c (vi k))]) (fun k => []) (fun k => [⟨2, sInt (cmpL a b)⟩])
    (fun k => k ≤ 4 ∧ ∀ i, i < k → (cmpL a b).getD i default = 0) (fun k => 4 - k) 0 ⟨Nat.zero_le _, by first | rfl | assumption | simp⟩ ⟨by first | rfl | simp [nth, ren2, ren1, ren0], trivial⟩ trivial ⟨by first | rfl | exact (congrArg (fun l => slC _ _ l) (List.append_nil _)).symm | (show (_ : Cell) = _; simp) | simp, trivial⟩ (by first | exact trivial | exact ⟨rfl, trivial⟩ | repeat' (first | exact trivial | exact rfl | refine ⟨?_, ?_⟩)) (by kernel_rfl) (fun k hk => ?_)
  obtain ⟨hk, he⟩ := hk
  conv => whnf
  refine ⟨fun h => have h := of_decide_eq_true h; ?_, fun h => have h := of_decide_eq_false h; ?_⟩ <;> conv => whnf
  · have h : k < 4 := by omega
    have hk : (cmpL a b).length = 4 := rfl
    have hq : ∀ i, i < 4 → (cmpL a b).getD i default = cmpI ((cellL a).getD i default) ((cellL b).getD i default) := fun i hi => by
      match i, hi with
      | 0, _ => rfl
      | 1, _ => rfl
      | 2, _ => rfl
      | 3, _ => rfl
    (repeat (refine need1 ?_; conv => whnf))
    refine ⟨fun h3 => have h3 := bne_iff_ne.1 h3; ?_, fun h3 => have h3 := bne_eq_false_iff_eq.1 h3; ?_⟩ <;> conv => whnf
    · (repeat (refine need1 ?_; conv => whnf))
      exact retW tbl_ok rfl rfl ⟨congrArg vi ((lexI_first _ _ k (fun i hi => (hq i (by omega)).symm.trans (he i hi)) rfl h (by rw [← hq k h]; exact h3)).trans (hq k h).symm), trivial⟩
    · (repeat (refine need1 ?_; conv => whnf))
      refine loopE [] (k + 1) ⟨by omega, fun i hi => (Nat.lt_succ_iff_lt_or_eq.1 hi).elim (fun h4 => he i h4) (fun h4 => h4 ▸ h3)⟩ (by omega) ⟨rfl, trivial⟩ ⟨rfl, trivial⟩ trivial (by kernel_rfl) (by first | exact trivial | exact ⟨rfl, trivial⟩ | repeat' (first | exact trivial | exact rfl | refine ⟨?_, ?_⟩)) (by kernel_rfl)
  · have hq : ∀ i, i < 4 → (cmpL a b).getD i default = cmpI ((cellL a).getD i default) ((cellL b).getD i default) := fun i hi => by
      match i, hi with
      | 0, _ => rfl
      | 1, _ => rfl
      | 2, _ => rfl
      | 3, _ => rfl
    exact retW tbl_ok rfl rfl ⟨congrArg vi (lexI_zero (cellL a) (cellL b) (fun i hi => (hq i hi).symm.trans (he i (by have : i < 4 := hi; omega))) rfl), trivial⟩

end Go.Proofs.YteonkhnmlolfgaaGreatDoor
