/- Texts for the law FnLinesBack: WWords. No conditions. -/
import Derived.Test.YtcpjpkcahnldfaaGreatDoorWIn

set_option maxRecDepth 100000
namespace Go.Proofs.YtcpjpkcahnldfaaGreatDoor
open Go.Sx
def kindName (k : Int) : ByteArray := if 1 ≤ k ∧ k ≤ 8 then ([(⟨#[105, 110]⟩ : ByteArray), (⟨#[97, 100, 100]⟩ : ByteArray), (⟨#[107, 101, 101, 112]⟩ : ByteArray), (⟨#[109, 111, 118, 101]⟩ : ByteArray), (⟨#[109, 105, 110]⟩ : ByteArray), (⟨#[110, 101, 119]⟩ : ByteArray), (⟨#[98, 97, 99, 107]⟩ : ByteArray), (⟨#[111, 117, 116]⟩ : ByteArray)] : List ByteArray).getD (k.toNat - 1) default else (⟨#[63]⟩ : ByteArray)
theorem kindName_size (k : Int) : (kindName k).size ≤ 4 := by
  by_cases h : 1 ≤ k ∧ k ≤ 8
  · have : k = 1 ∨ k = 2 ∨ k = 3 ∨ k = 4 ∨ k = 5 ∨ k = 6 ∨ k = 7 ∨ k = 8 := by omega
    rcases this with rfl | rfl | rfl | rfl | rfl | rfl | rfl | rfl <;> decide
  · rw [kindName, if_neg h]; decide

theorem specKindName (k : Int) : Meets Tryz.prog 68 [.one (vi k)] [.one (vs (kindName k))] := by
  by_cases hk : 1 ≤ k ∧ k ≤ 8
  · have : k = 1 ∨ k = 2 ∨ k = 3 ∨ k = 4 ∨ k = 5 ∨ k = 6 ∨ k = 7 ∨ k = 8 := by omega
    rcases this with rfl | rfl | rfl | rfl | rfl | rfl | rfl | rfl
    all_goals
      refine enterW tbl_ok false Tryz.func68 rfl (by decide) fun W => ?_
      conv => whnf
      repeat' (first | (refine ite_f (by first | with_reducible rfl | assumption) ?_; conv => whnf) | (refine ite_t (by first | with_reducible rfl | assumption) ?_; conv => whnf) | (refine ⟨fun h => ?_, fun h => ?_⟩ <;> conv => whnf) | (refine callR (specIn _ _ _) rfl (go tbl_ok false ?_); conv => whnf) | (refine ⟨by first | omega | (show _ ∧ _; omega) | ((repeat (first | rw [ByteArray.size_append] | rw [bsz] | rw [List.size_toArray] | rw [List.length_cons] | rw [List.length_nil])) <;> omega) | ((repeat rw [Int.toNat_natCast]) <;> first | omega | (show _ ∧ _; omega)) | (simp only [ByteArray.size_append, bsz, List.size_toArray, List.length_cons, List.length_nil]; omega) | (simp only [Int.toNat_natCast]; first | omega | (show _ ∧ _; omega)) | decide, ?_⟩; conv => whnf) | fail)
      all_goals first | exact absurd h (by decide) | exact retW tbl_ok rfl rfl ⟨rfl, trivial⟩
  · refine enterW tbl_ok false Tryz.func68 rfl (by decide) fun W => ?_
    conv => whnf
    have hw := Go.Sx.within_f.2 hk
    refine callR (specIn k 1 8) rfl (go tbl_ok false ?_)
    conv => whnf
    rw [hw]
    refine ite_t (by first | with_reducible rfl | assumption | (simp only [decide_eq_true_eq]; omega) | simp) ?_
    conv => whnf
    exact retW tbl_ok rfl rfl ⟨congrArg vs (by rw [kindName, if_neg hk]), trivial⟩
theorem implKindName (k : Int) : Meets Tryz.prog 55 [.one (vi k)] [.one (vs (kindName k))] := by
  by_cases hk : 1 ≤ k ∧ k ≤ 8
  · have : k = 1 ∨ k = 2 ∨ k = 3 ∨ k = 4 ∨ k = 5 ∨ k = 6 ∨ k = 7 ∨ k = 8 := by omega
    rcases this with rfl | rfl | rfl | rfl | rfl | rfl | rfl | rfl
    all_goals
      refine enterW tbl_ok false Tryz.func55 rfl (by decide) fun W => ?_
      conv => whnf
      repeat' (first | (refine ite_f (by first | with_reducible rfl | assumption) ?_; conv => whnf) | (refine ite_t (by first | with_reducible rfl | assumption) ?_; conv => whnf) | (refine ⟨fun h => ?_, fun h => ?_⟩ <;> conv => whnf) | (refine callR (implIn _ _ _) rfl (go tbl_ok false ?_); conv => whnf) | (refine ⟨by first | omega | (show _ ∧ _; omega) | ((repeat (first | rw [ByteArray.size_append] | rw [bsz] | rw [List.size_toArray] | rw [List.length_cons] | rw [List.length_nil])) <;> omega) | ((repeat rw [Int.toNat_natCast]) <;> first | omega | (show _ ∧ _; omega)) | (simp only [ByteArray.size_append, bsz, List.size_toArray, List.length_cons, List.length_nil]; omega) | (simp only [Int.toNat_natCast]; first | omega | (show _ ∧ _; omega)) | decide, ?_⟩; conv => whnf) | fail)
      all_goals first | exact absurd h (by decide) | exact retW tbl_ok rfl rfl ⟨rfl, trivial⟩
  · refine enterW tbl_ok false Tryz.func55 rfl (by decide) fun W => ?_
    conv => whnf
    have hw := Go.Sx.within_f.2 hk
    refine callR (implIn k 1 8) rfl (go tbl_ok false ?_)
    conv => whnf
    rw [hw]
    refine ite_t (by first | with_reducible rfl | assumption | (simp only [decide_eq_true_eq]; omega) | simp) ?_
    conv => whnf
    exact retW tbl_ok rfl rfl ⟨congrArg vs (by rw [kindName, if_neg hk]), trivial⟩

def outsT (s : ByteArray) (l : List Int) : ByteArray := l.foldl (fun s n => s ++ (⟨#[32]⟩ : ByteArray) ++ dec n) s
theorem outsT_take (s : ByteArray) (l : List Int) (k : Nat) (h : k < l.length) : outsT s (l.take (k + 1)) = outsT s (l.take k) ++ (⟨#[32]⟩ : ByteArray) ++ dec (l.getD k default) := foldl_take _ _ _ _ h
theorem outsT_size (s : ByteArray) (l : List Int) (ho : ∀ n ∈ l, inR .i64 n) (k : Nat) (hk : k ≤ l.length) : (outsT s (l.take k)).size ≤ s.size + 22 * k := by
  induction k with
  | zero => simp [outsT]
  | succ k ih =>
    have hd := dec_size (ho _ (getD_mem (d := default) (show k < l.length by omega)))
    rw [outsT_take s l k (by omega), ByteArray.size_append, ByteArray.size_append]
    have := ih (by omega)
    have h1 : ((⟨#[32]⟩ : ByteArray)).size = 1 := rfl
    omega
def nodeText (x : GNode) : ByteArray := outsT (kindName x.kind ++ (⟨#[32]⟩ : ByteArray) ++ dec x.a ++ (⟨#[32]⟩ : ByteArray) ++ dec x.b) x.outs
theorem nodeText0_size (x : GNode) (ox : x.ok) : (kindName x.kind ++ (⟨#[32]⟩ : ByteArray) ++ dec x.a ++ (⟨#[32]⟩ : ByteArray) ++ dec x.b).size ≤ 48 := by
  have h1 := kindName_size x.kind
  have h2 := dec_size ox.2.1
  have h3 := dec_size ox.2.2.1
  simp only [ByteArray.size_append, bsz, List.size_toArray, List.length_cons, List.length_nil]
  omega
theorem nodeText_size (x : GNode) (ox : x.ok) (hx : x.w ≤ 1048576) : (nodeText x).size ≤ 23068720 := by
  have h0 := nodeText0_size x ox
  have hl : x.outs.length ≤ 1048576 := hx
  have h1 := outsT_size (kindName x.kind ++ (⟨#[32]⟩ : ByteArray) ++ dec x.a ++ (⟨#[32]⟩ : ByteArray) ++ dec x.b) x.outs ox.2.2.2.2 x.outs.length (Nat.le_refl _)
  rw [List.take_length] at h1
  unfold nodeText
  omega

theorem specNodeText (x : GNode) (ox : x.ok) (hx : x.w ≤ 1048576) : Meets Tryz.prog 72 [.agg x.c] [.one (vs (nodeText x))] := by
  have hl : x.outs.length ≤ 1048576 := hx
  have h0 := nodeText0_size x ox
  have h1 := kindName_size x.kind
  have h2 := dec_size ox.2.1
  have h3 := dec_size ox.2.2.1
  refine enterW tbl_ok false Tryz.func72 rfl (by decide) fun W => ?_
  conv => whnf
  repeat' (first | (refine ite_f (by first | with_reducible rfl | assumption) ?_; conv => whnf) | (refine ite_t (by first | with_reducible rfl | assumption) ?_; conv => whnf) | (refine ⟨fun h => ?_, fun h => ?_⟩ <;> conv => whnf) | (refine callR (specKindName x.kind) rfl (go tbl_ok false ?_); conv => whnf) | (refine callR (specDecimal x.a ox.2.1) rfl (go tbl_ok false ?_); conv => whnf) | (refine callR (specDecimal x.b ox.2.2.1) rfl (go tbl_ok false ?_); conv => whnf) | (refine ⟨by first | omega | (show _ ∧ _; omega) | ((repeat (first | rw [ByteArray.size_append] | rw [bsz] | rw [List.size_toArray] | rw [List.length_cons] | rw [List.length_nil])) <;> omega) | ((repeat rw [Int.toNat_natCast]) <;> first | omega | (show _ ∧ _; omega)) | (simp only [ByteArray.size_append, bsz, List.size_toArray, List.length_cons, List.length_nil]; omega) | (simp only [Int.toNat_natCast]; first | omega | (show _ ∧ _; omega)) | decide | (simp only [beq_iff_eq, beq_eq_false_iff_ne, bne_iff_ne, bne_eq_false_iff_eq, Bool.not_eq_true', Bool.not_eq_false', Go.Sx.within_iff, Go.Sx.within_f, decide_eq_true_eq, decide_eq_false_iff_not, ne_eq, Int.not_lt, Int.not_le, ge_iff_le, gt_iff_lt, Int.toNat_zero, Int.toNat_one, Int.toNat_natCast] at * <;> first | omega | (show _ ∧ _; omega)), ?_⟩; conv => whnf) | (refine drawI 1 rfl [0, 1, 4, 5, 9, 10, 2, 3, 6, 7, 8, 11, 12, 13] (by kernel_rfl) (go tbl_ok false ?_); conv => whnf) | fail)
  refine loopW tbl_ok false [] (fun k : Nat => [(3, .c (vs (outsT (kindName x.kind ++ (⟨#[32]⟩ : ByteArray) ++ dec x.a ++ (⟨#[32]⟩ : ByteArray) ++ dec x.b) (x.outs.take k)))), (4, .c (vi k))]) (fun k => [⟨0, [.c (vi x.kind), .c (vi x.a), .c (vi x.b), .c (sInt x.outs)]⟩]) (fun k => [])
    (fun k => k ≤ x.outs.length) (fun k => x.outs.length - k) 0 (Nat.zero_le _) ⟨by first | rfl | simp [nth, ren2, ren1, ren0], by first | rfl | simp [nth, ren2, ren1, ren0], trivial⟩ (by repeat' (first | exact trivial | exact rfl | refine ⟨?_, ?_⟩)) trivial trivial (by kernel_rfl) (fun k hk => ?_)
  conv => whnf
  refine ⟨fun h' => have h' := of_decide_eq_true h'; ?_, fun h' => have h' := of_decide_eq_false h'; ?_⟩ <;> conv => whnf
  · have h' : k < x.outs.length := by omega
    have hk := ox.2.2.2.2 _ (getD_mem (d := default) h')
    have hd := dec_size hk
    have hs := outsT_size (kindName x.kind ++ (⟨#[32]⟩ : ByteArray) ++ dec x.a ++ (⟨#[32]⟩ : ByteArray) ++ dec x.b) x.outs ox.2.2.2.2 k (by omega)
    repeat' (first | (refine ite_f (by first | with_reducible rfl | assumption) ?_; conv => whnf) | (refine ite_t (by first | with_reducible rfl | assumption) ?_; conv => whnf) | (refine ⟨fun h => ?_, fun h => ?_⟩ <;> conv => whnf) | (refine callR (specDecimal (x.outs.getD k default) hk) rfl (go tbl_ok false ?_); conv => whnf) | (refine ⟨by first | omega | (show _ ∧ _; omega) | ((repeat (first | rw [ByteArray.size_append] | rw [bsz] | rw [List.size_toArray] | rw [List.length_cons] | rw [List.length_nil])) <;> omega) | ((repeat rw [Int.toNat_natCast]) <;> first | omega | (show _ ∧ _; omega)) | (simp only [ByteArray.size_append, bsz, List.size_toArray, List.length_cons, List.length_nil]; omega) | (simp only [Int.toNat_natCast]; first | omega | (show _ ∧ _; omega)) | decide | (simp only [beq_iff_eq, beq_eq_false_iff_ne, bne_iff_ne, bne_eq_false_iff_eq, Bool.not_eq_true', Bool.not_eq_false', Go.Sx.within_iff, Go.Sx.within_f, decide_eq_true_eq, decide_eq_false_iff_not, ne_eq, Int.not_lt, Int.not_le, ge_iff_le, gt_iff_lt, Int.toNat_zero, Int.toNat_one, Int.toNat_natCast] at * <;> first | omega | (show _ ∧ _; omega)), ?_⟩; conv => whnf) | (refine drawI 1 rfl [0, 1, 4, 5, 9, 10, 2, 3, 6, 7, 8, 11, 12, 13] (by kernel_rfl) (go tbl_ok false ?_); conv => whnf) | fail)
    refine loopE [] (k + 1) (by omega) (by omega) ⟨congrArg (fun z => AV.c (vs z)) (outsT_take _ _ k h').symm, rfl, trivial⟩ trivial (by repeat' (first | exact trivial | exact rfl | refine ⟨?_, ?_⟩)) (by kernel_rfl) trivial (by kernel_rfl)
  · have e : k = x.outs.length := by omega
    exact retW tbl_ok rfl rfl ⟨congrArg vs (by rw [e, List.take_length]; rfl), trivial⟩
theorem implNodeText (x : GNode) (ox : x.ok) (hx : x.w ≤ 1048576) : MeetsT Tryz.prog Tab 54 [.agg x.c] [.one (vs (nodeText x))] := by
  have hl : x.outs.length ≤ 1048576 := hx
  have h0 := nodeText0_size x ox
  have h1 := kindName_size x.kind
  have h2 := dec_size ox.2.1
  have h3 := dec_size ox.2.2.1
  refine enterT tbl_ok false Tryz.func54 rfl (by decide) fun W hW => ?_
  conv => whnf
  repeat' (first | (refine ite_f (by first | with_reducible rfl | assumption) ?_; conv => whnf) | (refine ite_t (by first | with_reducible rfl | assumption) ?_; conv => whnf) | (refine ⟨fun h => ?_, fun h => ?_⟩ <;> conv => whnf) | (refine callR (implKindName x.kind) rfl (go tbl_ok false ?_); conv => whnf) | (refine callRT (implDecimal x.a ox.2.1) tabStays hW rfl (go tbl_ok false ?_); conv => whnf) | (refine callRT (implDecimal x.b ox.2.2.1) tabStays hW rfl (go tbl_ok false ?_); conv => whnf) | (refine ⟨by first | omega | (show _ ∧ _; omega) | ((repeat (first | rw [ByteArray.size_append] | rw [bsz] | rw [List.size_toArray] | rw [List.length_cons] | rw [List.length_nil])) <;> omega) | ((repeat rw [Int.toNat_natCast]) <;> first | omega | (show _ ∧ _; omega)) | (simp only [ByteArray.size_append, bsz, List.size_toArray, List.length_cons, List.length_nil]; omega) | (simp only [Int.toNat_natCast]; first | omega | (show _ ∧ _; omega)) | decide | (simp only [beq_iff_eq, beq_eq_false_iff_ne, bne_iff_ne, bne_eq_false_iff_eq, Bool.not_eq_true', Bool.not_eq_false', Go.Sx.within_iff, Go.Sx.within_f, decide_eq_true_eq, decide_eq_false_iff_not, ne_eq, Int.not_lt, Int.not_le, ge_iff_le, gt_iff_lt, Int.toNat_zero, Int.toNat_one, Int.toNat_natCast] at * <;> first | omega | (show _ ∧ _; omega)), ?_⟩; conv => whnf) | (refine drawI 1 rfl [0, 1, 4, 5, 9, 10, 2, 3, 6, 7, 8, 11, 12, 13] (by kernel_rfl) (go tbl_ok false ?_); conv => whnf) | fail)
  refine loopW tbl_ok false [] (fun k : Nat => [(3, .c (vs (outsT (kindName x.kind ++ (⟨#[32]⟩ : ByteArray) ++ dec x.a ++ (⟨#[32]⟩ : ByteArray) ++ dec x.b) (x.outs.take k)))), (22, .c (vi k))]) (fun k => [⟨0, [.c (vi x.kind), .c (vi x.a), .c (vi x.b), .c (sInt x.outs)]⟩]) (fun k => [])
    (fun k => k ≤ x.outs.length) (fun k => x.outs.length - k) 0 (Nat.zero_le _) ⟨by first | rfl | simp [nth, ren2, ren1, ren0], by first | rfl | simp [nth, ren2, ren1, ren0], trivial⟩ (by repeat' (first | exact trivial | exact rfl | refine ⟨?_, ?_⟩)) trivial trivial (by kernel_rfl) (fun k hk => ?_)
  conv => whnf
  refine ⟨fun h' => have h' := of_decide_eq_true h'; ?_, fun h' => have h' := of_decide_eq_false h'; ?_⟩ <;> conv => whnf
  · have h' : k < x.outs.length := by omega
    have hk := ox.2.2.2.2 _ (getD_mem (d := default) h')
    have hd := dec_size hk
    have hs := outsT_size (kindName x.kind ++ (⟨#[32]⟩ : ByteArray) ++ dec x.a ++ (⟨#[32]⟩ : ByteArray) ++ dec x.b) x.outs ox.2.2.2.2 k (by omega)
    repeat' (first | (refine ite_f (by first | with_reducible rfl | assumption) ?_; conv => whnf) | (refine ite_t (by first | with_reducible rfl | assumption) ?_; conv => whnf) | (refine ⟨fun h => ?_, fun h => ?_⟩ <;> conv => whnf) | (refine callRT (implDecimal (x.outs.getD k default) hk) tabStays hW rfl (go tbl_ok false ?_); conv => whnf) | (refine ⟨by first | omega | (show _ ∧ _; omega) | ((repeat (first | rw [ByteArray.size_append] | rw [bsz] | rw [List.size_toArray] | rw [List.length_cons] | rw [List.length_nil])) <;> omega) | ((repeat rw [Int.toNat_natCast]) <;> first | omega | (show _ ∧ _; omega)) | (simp only [ByteArray.size_append, bsz, List.size_toArray, List.length_cons, List.length_nil]; omega) | (simp only [Int.toNat_natCast]; first | omega | (show _ ∧ _; omega)) | decide | (simp only [beq_iff_eq, beq_eq_false_iff_ne, bne_iff_ne, bne_eq_false_iff_eq, Bool.not_eq_true', Bool.not_eq_false', Go.Sx.within_iff, Go.Sx.within_f, decide_eq_true_eq, decide_eq_false_iff_not, ne_eq, Int.not_lt, Int.not_le, ge_iff_le, gt_iff_lt, Int.toNat_zero, Int.toNat_one, Int.toNat_natCast] at * <;> first | omega | (show _ ∧ _; omega)), ?_⟩; conv => whnf) | (refine drawI 1 rfl [0, 1, 4, 5, 9, 10, 2, 3, 6, 7, 8, 11, 12, 13] (by kernel_rfl) (go tbl_ok false ?_); conv => whnf) | fail)
    refine loopE [] (k + 1) (by omega) (by omega) ⟨congrArg (fun z => AV.c (vs z)) (by rw [outsT_take _ _ k h']; exact ByteArray.append_assoc.symm), rfl, trivial⟩ trivial (by repeat' (first | exact trivial | exact rfl | refine ⟨?_, ?_⟩)) (by kernel_rfl) trivial (by kernel_rfl)
  · have e : k = x.outs.length := by omega
    exact retW tbl_ok rfl rfl ⟨congrArg vs (by rw [e, List.take_length]; rfl), trivial⟩

end Go.Proofs.YtcpjpkcahnldfaaGreatDoor
