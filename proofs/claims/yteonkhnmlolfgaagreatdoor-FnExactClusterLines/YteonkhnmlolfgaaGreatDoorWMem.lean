/- Texts for the law FnExactClusterLines: WMem. No conditions. -/
import Derived.Test.YteonkhnmlolfgaaGreatDoorWMemM

set_option maxRecDepth 100000
namespace Go.Proofs.YteonkhnmlolfgaaGreatDoor
open Go.Sx
theorem specHasCell (l : List GCell) (x : GCell) (hl : l.length ≤ 16777216) : Meets Tryz.prog 99 [.one (sGCell l), .agg x.c] [.one (vb (hasCell l x))] := by
  refine enterW tbl_ok false Tryz.func99 rfl (by decide) fun W => ?_
  conv => whnf
  refine loopW tbl_ok false [] (fun k : Nat => [(5, .c (vi k))]) (fun k => [⟨0, [.c (vi x.op), .c (vi x.epoch), .c (vi x.key), .c (vi x.val)]⟩]) (fun k => [])
    (fun k => k ≤ l.length ∧ (l.take k).any (fun y => decide (y = x)) = false) (fun k => l.length - k) 0 ⟨Nat.zero_le _, by first | rfl | assumption | simp⟩ ⟨by first | rfl | simp [nth, ren2, ren1, ren0], trivial⟩ (by repeat' (first | exact trivial | exact rfl | refine ⟨?_, ?_⟩)) trivial (by first | exact trivial | exact ⟨rfl, trivial⟩ | repeat' (first | exact trivial | exact rfl | refine ⟨?_, ?_⟩)) (by kernel_rfl) (fun k hk => ?_)
  obtain ⟨hk, he⟩ := hk
  conv => whnf
  refine ⟨fun h => have h := of_decide_eq_true h; ?_, fun h => have h := of_decide_eq_false h; ?_⟩ <;> conv => whnf
  · have h : k < l.length := by omega
    (repeat (refine need1 ?_; conv => whnf))
    first | (refine drawI 4 rfl [0, 1, 2, 3, 4, 5] (by kernel_rfl) (go tbl_ok false ?_); conv => whnf)
    (repeat (refine need1 ?_; conv => whnf))
    refine ⟨fun hc => ?_, fun hc => ?_⟩ <;> conv => whnf
    · have hc : decide (l.getD k default = x) = true := by rw [← GCell.eqv]; exact hc
      exact retW tbl_ok rfl rfl ⟨congrArg vb (show hasCell l x = true from List.any_eq_true.2 ⟨_, getD_mem h, hc⟩), trivial⟩
    · have hc : decide (l.getD k default = x) = false := by rw [← GCell.eqv]; exact hc
      (repeat (refine need1 ?_; conv => whnf))
      refine loopE [] (k + 1) ⟨by omega, any_take_false he h hc⟩ (by omega) ⟨rfl, trivial⟩ trivial (by repeat' (first | exact trivial | exact rfl | refine ⟨?_, ?_⟩)) (by kernel_rfl) (by first | exact trivial | exact ⟨rfl, trivial⟩ | repeat' (first | exact trivial | exact rfl | refine ⟨?_, ?_⟩)) (by kernel_rfl)
  · exact retW tbl_ok rfl rfl ⟨congrArg vb (show hasCell l x = false by rw [hasCell, ← take_all l k (by omega)]; exact he), trivial⟩
theorem implIndexCell (l : List GCell) (x : GCell) (hl : l.length ≤ 16777216) : Meets Tryz.prog 125 [.one (sGCell l), .agg x.c] [.one (vi (findI (fun y => decide (y = x)) l))] := by
  refine enterW tbl_ok false Tryz.func125 rfl (by decide) fun W => ?_
  conv => whnf
  refine loopW tbl_ok false [5, 9, 10, 11, 12, 13, 14, 15, 16, 17, 18] (fun k : Nat => [(8, .c (vi k))]) (fun k => [⟨0, [.c (vi x.op), .c (vi x.epoch), .c (vi x.key), .c (vi x.val)]⟩]) (fun k => [])
    (fun k => k ≤ l.length ∧ (l.take k).any (fun y => decide (y = x)) = false) (fun k => l.length - k) 0 ⟨Nat.zero_le _, by first | rfl | assumption | simp⟩ ⟨by first | rfl | simp [nth, ren2, ren1, ren0], trivial⟩ (by repeat' (first | exact trivial | exact rfl | refine ⟨?_, ?_⟩)) trivial (by first | exact trivial | exact ⟨rfl, trivial⟩ | repeat' (first | exact trivial | exact rfl | refine ⟨?_, ?_⟩)) (by kernel_rfl) (fun k hk => ?_)
  obtain ⟨hk, he⟩ := hk
  conv => whnf
  refine ⟨fun h => have h := of_decide_eq_true h; ?_, fun h => have h := of_decide_eq_false h; ?_⟩ <;> conv => whnf
  · have h : k < l.length := by omega
    (repeat (refine need1 ?_; conv => whnf))
    first | (refine drawI 4 rfl [0, 1, 2, 3, 4, 5] (by kernel_rfl) (go tbl_ok false ?_); conv => whnf)
    (repeat (refine need1 ?_; conv => whnf))
    refine ⟨fun hc => ?_, fun hc => ?_⟩ <;> conv => whnf
    · have hc : decide (l.getD k default = x) = true := by rw [← decide_eq_decide.2 (eq_comm (a := x)), ← GCell.eqv]; exact hc
      exact retW tbl_ok rfl rfl ⟨congrArg vi (findI_of _ l k he h hc), trivial⟩
    · have hc : decide (l.getD k default = x) = false := by rw [← decide_eq_decide.2 (eq_comm (a := x)), ← GCell.eqv]; exact hc
      (repeat (refine need1 ?_; conv => whnf))
      refine loopE [] (k + 1) ⟨by omega, any_take_false he h hc⟩ (by omega) ⟨rfl, trivial⟩ trivial (by repeat' (first | exact trivial | exact rfl | refine ⟨?_, ?_⟩)) (by kernel_rfl) (by first | exact trivial | exact ⟨rfl, trivial⟩ | repeat' (first | exact trivial | exact rfl | refine ⟨?_, ?_⟩)) (by kernel_rfl)
  · exact retW tbl_ok rfl rfl ⟨congrArg vi (findI_none _ l (by rw [← take_all l k (by omega)]; exact he)), trivial⟩
theorem implContainsCell (l : List GCell) (x : GCell) (hl : l.length ≤ 16777216) : Meets Tryz.prog 117 [.one (sGCell l), .agg x.c] [.one (vb (hasCell l x))] := by
  refine enterW tbl_ok false Tryz.func117 rfl (by decide) fun W => ?_
  conv => whnf
  refine callR (implIndexCell l x hl) rfl (go tbl_ok false ?_)
  conv => whnf
  exact retW tbl_ok rfl rfl ⟨congrArg vb (findI_any _ l).symm, trivial⟩
theorem implHasCell (l : List GCell) (x : GCell) (hl : l.length ≤ 16777216) : Meets Tryz.prog 105 [.one (sGCell l), .agg x.c] [.one (vb (hasCell l x))] := by
  refine enterW tbl_ok false Tryz.func105 rfl (by decide) fun W => ?_
  conv => whnf
  refine callR (implContainsCell l x hl) rfl (go tbl_ok false ?_)
  conv => whnf
  exact retW tbl_ok rfl rfl ⟨rfl, trivial⟩

theorem findN_step {α : Type} [Inhabited α] (p : α → Bool) : ∀ (xs : List α) (k : Nat), k < xs.length → (∀ i, i < k → p (xs.getD i default) = false) → p (xs.getD k default) = true → findN p xs = k
  | [], _, h, _, _ => absurd h (Nat.not_lt_zero _)
  | x :: r, 0, _, _, hp => by
    have : p x = true := hp
    simp [findN, this]
  | x :: r, k + 1, h, hb, hp => by
    have h0 : p x = false := hb 0 (by omega)
    have := findN_step p r k (by simpa using h) (fun i hi => hb (i + 1) (by omega)) hp
    simp [findN, h0, this]
theorem findN_end {α : Type} [Inhabited α] (p : α → Bool) : ∀ (xs : List α), (∀ i, i < xs.length → p (xs.getD i default) = false) → findN p xs = xs.length
  | [], _ => rfl
  | x :: r, hb => by
    have h0 : p x = false := hb 0 (by simp)
    have := findN_end p r (fun i hi => hb (i + 1) (by simpa using hi))
    simp [findN, h0, this]
def ltX (x y : GCell) : Bool := !decide (cellCmp y x < 0)
theorem putAt_eq {l : List GCell} {x : GCell} {k : Nat} (h : k < l.length) (hb : ∀ i, i < k → ltX x (l.getD i default) = false) (hk : ltX x (l.getD k default) = true) : putAt l x = k := findN_step _ l k h hb hk
theorem putAt_end {l : List GCell} {x : GCell} (hb : ∀ i, i < l.length → ltX x (l.getD i default) = false) : putAt l x = l.length := findN_end _ l hb
theorem putAt_le (l : List GCell) (x : GCell) : putAt l x ≤ l.length := by
  have : ∀ (p : GCell → Bool) (m : List GCell), findN p m ≤ m.length := by
    intro p m
    induction m with
    | nil => simp [findN]
    | cons y r ih => simp only [findN]; split <;> simp <;> omega
  exact this _ l
theorem sub_take0 {α : Type} [Inhabited α] {es : Nat} {e : α → List Cell} {xs : List α} {k : Nat} (h : k ≤ xs.length) : SubOk xs.length es (fun i => e (xs.getD i default)) 0 (k : Int) (slC es e (xs.take k)) := by
  have := slC_sub (es := es) (e := e) (xs := xs) (l := 0) (h := (k : Int)) (Int.le_refl _) (by omega) (by omega)
  simpa using this
theorem sub_drop {α : Type} [Inhabited α] {es : Nat} {e : α → List Cell} {xs : List α} {k : Nat} (h : k ≤ xs.length) : SubOk xs.length es (fun i => e (xs.getD i default)) (k : Int) (xs.length : Int) (slC es e (xs.drop k)) := by
  have := slC_sub (es := es) (e := e) (xs := xs) (l := (k : Int)) (h := (xs.length : Int)) (by omega) (by omega) (by omega)
  rwa [show (xs.drop (k : Int).toNat).take ((xs.length : Int) - (k : Int)).toNat = xs.drop k by rw [Int.toNat_natCast]; exact List.take_of_length_le (by simp)] at this
theorem slC_mid (l : List GCell) (x : GCell) (k : Nat) : AppOk (l.take k ++ [x]).length (l.drop k).length 4 (fun i => GCell.c ((l.take k ++ [x]).getD i default)) (fun i => GCell.c ((l.drop k).getD i default)) (sGCell (l.take k ++ x :: l.drop k)) := by
  rw [show l.take k ++ x :: l.drop k = (l.take k ++ [x]) ++ l.drop k by simp]
  exact slC_app 4 GCell.c _ _
set_option maxHeartbeats 1000000 in
theorem specPutCell (l : List GCell) (x : GCell) (hl : l.length ≤ 16000000) : Meets Tryz.prog 81 [.one (sGCell l), .agg x.c] [.one (sGCell (putCell l x))] := by
  refine enterW tbl_ok false Tryz.func81 rfl (by decide) fun W => ?_
  conv => whnf
  refine callR (specHasCell l x (by omega)) rfl (go tbl_ok false ?_)
  conv => whnf
  refine ⟨fun hc => ?_, fun hc => ?_⟩ <;> conv => whnf
  · refine appW tbl_ok rfl rfl rfl rfl rfl rfl rfl rfl rfl rfl rfl (sGCell l) (nil_app) (fun _ => flat_cells l) (by omega) (go tbl_ok false ?_)
    conv => whnf
    refine retW tbl_ok rfl rfl ⟨?_, trivial⟩
    rw [putCell, if_pos hc]
    rfl
  · refine loopW tbl_ok false [] (fun k : Nat => [(5, .c (vi k))]) (fun k => [⟨0, [.c (vi x.op), .c (vi x.epoch), .c (vi x.key), .c (vi x.val)]⟩]) (fun k => [])
      (fun k => k ≤ l.length ∧ ∀ i, i < k → ltX x (l.getD i default) = false) (fun k => l.length - k) 0 ⟨Nat.zero_le _, by first | rfl | assumption | simp⟩ ⟨by first | rfl | simp [nth, ren2, ren1, ren0], trivial⟩ (by repeat' (first | exact trivial | exact rfl | refine ⟨?_, ?_⟩)) trivial (by first | exact trivial | exact ⟨rfl, trivial⟩ | repeat' (first | exact trivial | exact rfl | refine ⟨?_, ?_⟩)) (by kernel_rfl) (fun k hk => ?_)
    obtain ⟨hk, he⟩ := hk
    conv => whnf
    first | (refine drawI 4 rfl [0, 1, 2, 3, 4, 5, 6, 7, 8, 9, 10, 11, 12] (by kernel_rfl) (go tbl_ok false ?_); conv => whnf) | (refine drawI 6 rfl [1, 2, 3, 5, 0, 4, 6, 7, 8] (by kernel_rfl) (go tbl_ok false ?_); conv => whnf)
    refine ⟨fun h => have h := of_decide_eq_true h; ?_, fun h => have h := of_decide_eq_false h; ?_⟩ <;> conv => whnf
    · have h : k < l.length := by omega
      repeat (first | (refine skf ?_; conv => whnf) | (refine skt ?_; conv => whnf) | (refine need1 ?_; conv => whnf))
      refine callR (specCellOrder (l.getD k default) x) rfl (go tbl_ok false ?_)
      conv => whnf
      repeat (first | (refine skf ?_; conv => whnf) | (refine skt ?_; conv => whnf) | (refine need1 ?_; conv => whnf))
      refine ⟨fun h2 => have h2 := of_decide_eq_true h2; ?_, fun h2 => have h2 := of_decide_eq_false h2; ?_⟩ <;> conv => whnf
      · (repeat (refine need1 ?_; conv => whnf))
        refine loopE [] (k + 1) ⟨by omega, fun i hi => (Nat.lt_succ_iff_lt_or_eq.1 hi).elim (fun h4 => he i h4) (fun h4 => by subst h4; simp only [ltX, Bool.not_eq_false', decide_eq_true_eq]; exact h2)⟩ (by omega) ⟨rfl, trivial⟩ trivial (by repeat' (first | exact trivial | exact rfl | refine ⟨?_, ?_⟩)) (by kernel_rfl) (by first | exact trivial | exact ⟨rfl, trivial⟩ | repeat' (first | exact trivial | exact rfl | refine ⟨?_, ?_⟩)) (by kernel_rfl)
      · refine drawF rfl ?_
        refine preF tbl_ok false 1 rfl rfl (by kernel_rfl) rfl (andL_mem (by repeat' (first | exact trivial | refine ⟨?_, ?_⟩ | (show _ ∧ _; omega) | omega))) ?_
        refine preF tbl_ok false 2 rfl rfl (by kernel_rfl) rfl (andL_mem (by repeat' (first | exact trivial | refine ⟨?_, ?_⟩ | (show _ ∧ _; omega) | omega))) ?_
        refine readF (s' := ?_) 3 rfl (by kernel_rfl) ?_ ?_
        rotate_left
        refine go tbl_ok false ?_
        conv => whnf
        refine sliceW tbl_ok rfl rfl rfl rfl rfl rfl rfl (l := 0) (h := (k : Int)) rfl rfl ⟨by omega, by omega, by omega⟩ (sGCell (l.take k)) (sub_take0 (by omega)) (go tbl_ok false ?_)
        conv => whnf
        exact endF
        refine restF [4, 5, 6, 7, 8] [⟨0, 28, .emp 4⟩] (by kernel_rfl) ?_
        refine stepF2 (s1 := ?_) (s2 := ?_) tbl_ok [4, 5, 6, 7, 8] 4 5 [5, 6, 7, 8] [4, 6, 7, 8] rfl rfl (by kernel_rfl) (by repeat' (first | exact trivial | exact ⟨_, rfl, rfl, by assumption⟩ | exact ⟨_, rfl, rfl, huo _ (by simp)⟩ | exact ⟨_, rfl, rfl, fun v hv => huo v (by simp only [List.mem_cons, List.not_mem_nil, or_false] at hv ⊢; rcases hv with h | h | h <;> simp [h])⟩ | refine ⟨?_, ?_⟩)) (by decide) (by decide) ?_ ?_ ?_ ?_
        rotate_left 2
        refine go tbl_ok false ?_
        conv => whnf
        refine appW tbl_ok rfl rfl rfl rfl rfl rfl rfl rfl rfl rfl rfl (sGCell (l.take k)) (nil_app) (fun _ => flat_cells _) (by (have := List.length_take_le k l); omega) (go tbl_ok false ?_)
        conv => whnf
        exact endF
        refine stepF (s' := ?_) tbl_ok rfl (by kernel_rfl) (by repeat' (first | exact trivial | exact ⟨_, rfl, rfl, by assumption⟩ | exact ⟨_, rfl, rfl, huo _ (by simp)⟩ | exact ⟨_, rfl, rfl, fun v hv => huo v (by simp only [List.mem_cons, List.not_mem_nil, or_false] at hv ⊢; rcases hv with h | h | h <;> simp [h])⟩ | refine ⟨?_, ?_⟩)) ?_ ?_
        rotate_left
        refine go tbl_ok false ?_
        conv => whnf
        (repeat (refine need1 ?_; conv => whnf))
        exact endF
        refine stepF (s' := ?_) tbl_ok rfl (by kernel_rfl) (by repeat' (first | exact trivial | exact ⟨_, rfl, rfl, by assumption⟩ | exact ⟨_, rfl, rfl, huo _ (by simp)⟩ | exact ⟨_, rfl, rfl, fun v hv => huo v (by simp only [List.mem_cons, List.not_mem_nil, or_false] at hv ⊢; rcases hv with h | h | h <;> simp [h])⟩ | refine ⟨?_, ?_⟩)) ?_ ?_
        rotate_left
        refine go tbl_ok false ?_
        conv => whnf
        (repeat (refine need1 ?_; conv => whnf))
        exact endF
        refine stepF (s' := ?_) tbl_ok rfl (by kernel_rfl) (by repeat' (first | exact trivial | exact ⟨_, rfl, rfl, by assumption⟩ | exact ⟨_, rfl, rfl, huo _ (by simp)⟩ | exact ⟨_, rfl, rfl, fun v hv => huo v (by simp only [List.mem_cons, List.not_mem_nil, or_false] at hv ⊢; rcases hv with h | h | h <;> simp [h])⟩ | refine ⟨?_, ?_⟩)) ?_ ?_
        rotate_left
        refine go tbl_ok false ?_
        conv => whnf
        refine appW tbl_ok rfl rfl rfl rfl rfl rfl rfl rfl rfl rfl rfl (sGCell (l.take k ++ [x])) (slC_snoc rfl) (by intro h; cases h) (by (have := List.length_take_le k l); omega) (go tbl_ok false ?_)
        conv => whnf
        exact endF
        refine stepF (s' := ?_) tbl_ok rfl (by kernel_rfl) (by repeat' (first | exact trivial | exact ⟨_, rfl, rfl, by assumption⟩ | exact ⟨_, rfl, rfl, huo _ (by simp)⟩ | exact ⟨_, rfl, rfl, fun v hv => huo v (by simp only [List.mem_cons, List.not_mem_nil, or_false] at hv ⊢; rcases hv with h | h | h <;> simp [h])⟩ | refine ⟨?_, ?_⟩)) ?_ ?_
        rotate_left
        refine go tbl_ok false ?_
        conv => whnf
        (repeat (refine need1 ?_; conv => whnf))
        exact endF
        refine nilF tbl_ok (by kernel_rfl) (by repeat' (first | exact trivial | exact ⟨_, rfl, rfl, by assumption⟩ | exact ⟨_, rfl, rfl, huo _ (by simp)⟩ | exact ⟨_, rfl, rfl, fun v hv => huo v (by simp only [List.mem_cons, List.not_mem_nil, or_false] at hv ⊢; rcases hv with h | h | h <;> simp [h])⟩ | refine ⟨?_, ?_⟩)) (GW.out (go tbl_ok false ?_))
        conv => whnf
        rotate_left 1
        refine go tbl_ok false ?_
        conv => whnf
        (repeat (refine need1 ?_; conv => whnf))
        exact endF
        refine stepF2 (s1 := ?_) (s2 := ?_) tbl_ok [4, 6, 7, 8] 4 6 [6, 7, 8] [4, 7, 8] rfl rfl (by kernel_rfl) (by repeat' (first | exact trivial | exact ⟨_, rfl, rfl, by assumption⟩ | exact ⟨_, rfl, rfl, huo _ (by simp)⟩ | exact ⟨_, rfl, rfl, fun v hv => huo v (by simp only [List.mem_cons, List.not_mem_nil, or_false] at hv ⊢; rcases hv with h | h | h <;> simp [h])⟩ | refine ⟨?_, ?_⟩)) (by decide) (by decide) ?_ ?_ ?_ ?_
        rotate_left 2
        refine go tbl_ok false ?_
        conv => whnf
        refine appW tbl_ok rfl rfl rfl rfl rfl rfl rfl rfl rfl rfl rfl (sGCell (l.take k)) (nil_app) (fun _ => flat_cells _) (by (have := List.length_take_le k l); omega) (go tbl_ok false ?_)
        conv => whnf
        exact endF
        refine stepF (s' := ?_) tbl_ok rfl (by kernel_rfl) (by repeat' (first | exact trivial | exact ⟨_, rfl, rfl, by assumption⟩ | exact ⟨_, rfl, rfl, huo _ (by simp)⟩ | exact ⟨_, rfl, rfl, fun v hv => huo v (by simp only [List.mem_cons, List.not_mem_nil, or_false] at hv ⊢; rcases hv with h | h | h <;> simp [h])⟩ | refine ⟨?_, ?_⟩)) ?_ ?_
        rotate_left
        refine go tbl_ok false ?_
        conv => whnf
        (repeat (refine need1 ?_; conv => whnf))
        exact endF
        refine stepF (s' := ?_) tbl_ok rfl (by kernel_rfl) (by repeat' (first | exact trivial | exact ⟨_, rfl, rfl, by assumption⟩ | exact ⟨_, rfl, rfl, huo _ (by simp)⟩ | exact ⟨_, rfl, rfl, fun v hv => huo v (by simp only [List.mem_cons, List.not_mem_nil, or_false] at hv ⊢; rcases hv with h | h | h <;> simp [h])⟩ | refine ⟨?_, ?_⟩)) ?_ ?_
        rotate_left
        refine go tbl_ok false ?_
        conv => whnf
        refine appW tbl_ok rfl rfl rfl rfl rfl rfl rfl rfl rfl rfl rfl (sGCell (l.take k ++ [x])) (slC_snoc rfl) (by intro h; cases h) (by (have := List.length_take_le k l); omega) (go tbl_ok false ?_)
        conv => whnf
        exact endF
        refine stepF (s' := ?_) tbl_ok rfl (by kernel_rfl) (by repeat' (first | exact trivial | exact ⟨_, rfl, rfl, by assumption⟩ | exact ⟨_, rfl, rfl, huo _ (by simp)⟩ | exact ⟨_, rfl, rfl, fun v hv => huo v (by simp only [List.mem_cons, List.not_mem_nil, or_false] at hv ⊢; rcases hv with h | h | h <;> simp [h])⟩ | refine ⟨?_, ?_⟩)) ?_ ?_
        rotate_left
        refine go tbl_ok false ?_
        conv => whnf
        (repeat (refine need1 ?_; conv => whnf))
        exact endF
        refine nilF tbl_ok (by kernel_rfl) (by repeat' (first | exact trivial | exact ⟨_, rfl, rfl, by assumption⟩ | exact ⟨_, rfl, rfl, huo _ (by simp)⟩ | exact ⟨_, rfl, rfl, fun v hv => huo v (by simp only [List.mem_cons, List.not_mem_nil, or_false] at hv ⊢; rcases hv with h | h | h <;> simp [h])⟩ | refine ⟨?_, ?_⟩)) (GW.out (go tbl_ok false ?_))
        conv => whnf
        rotate_left 1
        refine go tbl_ok false ?_
        conv => whnf
        (repeat (refine need1 ?_; conv => whnf))
        exact endF
        refine stepF (s' := ?_) tbl_ok rfl (by kernel_rfl) (by repeat' (first | exact trivial | exact ⟨_, rfl, rfl, by assumption⟩ | exact ⟨_, rfl, rfl, huo _ (by simp)⟩ | exact ⟨_, rfl, rfl, fun v hv => huo v (by simp only [List.mem_cons, List.not_mem_nil, or_false] at hv ⊢; rcases hv with h | h | h <;> simp [h])⟩ | refine ⟨?_, ?_⟩)) ?_ ?_
        rotate_left
        refine go tbl_ok false ?_
        conv => whnf
        refine appW tbl_ok rfl rfl rfl rfl rfl rfl rfl rfl rfl rfl rfl (sGCell (l.take k)) (nil_app) (fun _ => flat_cells _) (by (have := List.length_take_le k l); omega) (go tbl_ok false ?_)
        conv => whnf
        exact endF
        refine stepF (s' := ?_) tbl_ok rfl (by kernel_rfl) (by repeat' (first | exact trivial | exact ⟨_, rfl, rfl, by assumption⟩ | exact ⟨_, rfl, rfl, huo _ (by simp)⟩ | exact ⟨_, rfl, rfl, fun v hv => huo v (by simp only [List.mem_cons, List.not_mem_nil, or_false] at hv ⊢; rcases hv with h | h | h <;> simp [h])⟩ | refine ⟨?_, ?_⟩)) ?_ ?_
        rotate_left
        refine go tbl_ok false ?_
        conv => whnf
        refine appW tbl_ok rfl rfl rfl rfl rfl rfl rfl rfl rfl rfl rfl (sGCell (l.take k ++ [x])) (slC_snoc rfl) (by intro h; cases h) (by (have := List.length_take_le k l); omega) (go tbl_ok false ?_)
        conv => whnf
        exact endF
        refine stepF (s' := ?_) tbl_ok rfl (by kernel_rfl) (by repeat' (first | exact trivial | exact ⟨_, rfl, rfl, by assumption⟩ | exact ⟨_, rfl, rfl, huo _ (by simp)⟩ | exact ⟨_, rfl, rfl, fun v hv => huo v (by simp only [List.mem_cons, List.not_mem_nil, or_false] at hv ⊢; rcases hv with h | h | h <;> simp [h])⟩ | refine ⟨?_, ?_⟩)) ?_ ?_
        rotate_left
        refine go tbl_ok false ?_
        conv => whnf
        (repeat (refine need1 ?_; conv => whnf))
        exact endF
        refine nilF tbl_ok (by kernel_rfl) (by repeat' (first | exact trivial | exact ⟨_, rfl, rfl, by assumption⟩ | exact ⟨_, rfl, rfl, huo _ (by simp)⟩ | exact ⟨_, rfl, rfl, fun v hv => huo v (by simp only [List.mem_cons, List.not_mem_nil, or_false] at hv ⊢; rcases hv with h | h | h <;> simp [h])⟩ | refine ⟨?_, ?_⟩)) (GW.out (go tbl_ok false ?_))
        conv => whnf
        all_goals
          refine sliceW tbl_ok rfl rfl rfl rfl rfl rfl rfl (l := (k : Int)) (h := (l.length : Int)) rfl rfl ⟨by omega, by omega, by omega⟩ (sGCell (l.drop k)) (sub_drop (by omega)) (go tbl_ok false ?_)
          conv => whnf
          refine appW tbl_ok rfl rfl rfl rfl rfl rfl rfl rfl rfl rfl rfl (sGCell (l.take k ++ x :: l.drop k)) (slC_mid l x k) (fun _ => flat_cells _) (by (have := List.length_take_le k l; have := List.length_drop (i := k) (l := l); simp only [List.length_append, List.length_singleton]; omega)) (go tbl_ok false ?_)
          conv => whnf
          refine retW tbl_ok rfl rfl ⟨?_, trivial⟩
          rw [putCell, if_neg (by rw [hc]; decide), putAt_eq h he (by simp only [ltX, Bool.not_eq_true', decide_eq_false_iff_not]; exact h2)]
          rfl
    · repeat (first | (refine skf ?_; conv => whnf) | (refine skt ?_; conv => whnf) | (refine need1 ?_; conv => whnf))
      refine drawF rfl ?_
      refine preF tbl_ok false 1 rfl rfl (by kernel_rfl) rfl (andL_mem (by repeat' (first | exact trivial | refine ⟨?_, ?_⟩ | (show _ ∧ _; omega) | omega))) ?_
      refine preF tbl_ok false 2 rfl rfl (by kernel_rfl) rfl (andL_mem (by repeat' (first | exact trivial | refine ⟨?_, ?_⟩ | (show _ ∧ _; omega) | omega))) ?_
      refine readF (s' := ?_) 3 rfl (by kernel_rfl) ?_ ?_
      rotate_left
      refine go tbl_ok false ?_
      conv => whnf
      refine sliceW tbl_ok rfl rfl rfl rfl rfl rfl rfl (l := 0) (h := (k : Int)) rfl rfl ⟨by omega, by omega, by omega⟩ (sGCell (l.take k)) (sub_take0 (by omega)) (go tbl_ok false ?_)
      conv => whnf
      exact endF
      refine restF [4, 5, 6, 7, 8] [⟨0, 28, .emp 4⟩] (by kernel_rfl) ?_
      refine stepF2 (s1 := ?_) (s2 := ?_) tbl_ok [4, 5, 6, 7, 8] 4 5 [5, 6, 7, 8] [4, 6, 7, 8] rfl rfl (by kernel_rfl) (by repeat' (first | exact trivial | exact ⟨_, rfl, rfl, by assumption⟩ | exact ⟨_, rfl, rfl, huo _ (by simp)⟩ | exact ⟨_, rfl, rfl, fun v hv => huo v (by simp only [List.mem_cons, List.not_mem_nil, or_false] at hv ⊢; rcases hv with h | h | h <;> simp [h])⟩ | refine ⟨?_, ?_⟩)) (by decide) (by decide) ?_ ?_ ?_ ?_
      rotate_left 2
      refine go tbl_ok false ?_
      conv => whnf
      refine appW tbl_ok rfl rfl rfl rfl rfl rfl rfl rfl rfl rfl rfl (sGCell (l.take k)) (nil_app) (fun _ => flat_cells _) (by (have := List.length_take_le k l); omega) (go tbl_ok false ?_)
      conv => whnf
      exact endF
      refine stepF (s' := ?_) tbl_ok rfl (by kernel_rfl) (by repeat' (first | exact trivial | exact ⟨_, rfl, rfl, by assumption⟩ | exact ⟨_, rfl, rfl, huo _ (by simp)⟩ | exact ⟨_, rfl, rfl, fun v hv => huo v (by simp only [List.mem_cons, List.not_mem_nil, or_false] at hv ⊢; rcases hv with h | h | h <;> simp [h])⟩ | refine ⟨?_, ?_⟩)) ?_ ?_
      rotate_left
      refine go tbl_ok false ?_
      conv => whnf
      (repeat (refine need1 ?_; conv => whnf))
      exact endF
      refine stepF (s' := ?_) tbl_ok rfl (by kernel_rfl) (by repeat' (first | exact trivial | exact ⟨_, rfl, rfl, by assumption⟩ | exact ⟨_, rfl, rfl, huo _ (by simp)⟩ | exact ⟨_, rfl, rfl, fun v hv => huo v (by simp only [List.mem_cons, List.not_mem_nil, or_false] at hv ⊢; rcases hv with h | h | h <;> simp [h])⟩ | refine ⟨?_, ?_⟩)) ?_ ?_
      rotate_left
      refine go tbl_ok false ?_
      conv => whnf
      (repeat (refine need1 ?_; conv => whnf))
      exact endF
      refine stepF (s' := ?_) tbl_ok rfl (by kernel_rfl) (by repeat' (first | exact trivial | exact ⟨_, rfl, rfl, by assumption⟩ | exact ⟨_, rfl, rfl, huo _ (by simp)⟩ | exact ⟨_, rfl, rfl, fun v hv => huo v (by simp only [List.mem_cons, List.not_mem_nil, or_false] at hv ⊢; rcases hv with h | h | h <;> simp [h])⟩ | refine ⟨?_, ?_⟩)) ?_ ?_
      rotate_left
      refine go tbl_ok false ?_
      conv => whnf
      refine appW tbl_ok rfl rfl rfl rfl rfl rfl rfl rfl rfl rfl rfl (sGCell (l.take k ++ [x])) (slC_snoc rfl) (by intro h; cases h) (by (have := List.length_take_le k l); omega) (go tbl_ok false ?_)
      conv => whnf
      exact endF
      refine stepF (s' := ?_) tbl_ok rfl (by kernel_rfl) (by repeat' (first | exact trivial | exact ⟨_, rfl, rfl, by assumption⟩ | exact ⟨_, rfl, rfl, huo _ (by simp)⟩ | exact ⟨_, rfl, rfl, fun v hv => huo v (by simp only [List.mem_cons, List.not_mem_nil, or_false] at hv ⊢; rcases hv with h | h | h <;> simp [h])⟩ | refine ⟨?_, ?_⟩)) ?_ ?_
      rotate_left
      refine go tbl_ok false ?_
      conv => whnf
      (repeat (refine need1 ?_; conv => whnf))
      exact endF
      refine nilF tbl_ok (by kernel_rfl) (by repeat' (first | exact trivial | exact ⟨_, rfl, rfl, by assumption⟩ | exact ⟨_, rfl, rfl, huo _ (by simp)⟩ | exact ⟨_, rfl, rfl, fun v hv => huo v (by simp only [List.mem_cons, List.not_mem_nil, or_false] at hv ⊢; rcases hv with h | h | h <;> simp [h])⟩ | refine ⟨?_, ?_⟩)) (GW.out (go tbl_ok false ?_))
      conv => whnf
      rotate_left 1
      refine go tbl_ok false ?_
      conv => whnf
      (repeat (refine need1 ?_; conv => whnf))
      exact endF
      refine stepF2 (s1 := ?_) (s2 := ?_) tbl_ok [4, 6, 7, 8] 4 6 [6, 7, 8] [4, 7, 8] rfl rfl (by kernel_rfl) (by repeat' (first | exact trivial | exact ⟨_, rfl, rfl, by assumption⟩ | exact ⟨_, rfl, rfl, huo _ (by simp)⟩ | exact ⟨_, rfl, rfl, fun v hv => huo v (by simp only [List.mem_cons, List.not_mem_nil, or_false] at hv ⊢; rcases hv with h | h | h <;> simp [h])⟩ | refine ⟨?_, ?_⟩)) (by decide) (by decide) ?_ ?_ ?_ ?_
      rotate_left 2
      refine go tbl_ok false ?_
      conv => whnf
      refine appW tbl_ok rfl rfl rfl rfl rfl rfl rfl rfl rfl rfl rfl (sGCell (l.take k)) (nil_app) (fun _ => flat_cells _) (by (have := List.length_take_le k l); omega) (go tbl_ok false ?_)
      conv => whnf
      exact endF
      refine stepF (s' := ?_) tbl_ok rfl (by kernel_rfl) (by repeat' (first | exact trivial | exact ⟨_, rfl, rfl, by assumption⟩ | exact ⟨_, rfl, rfl, huo _ (by simp)⟩ | exact ⟨_, rfl, rfl, fun v hv => huo v (by simp only [List.mem_cons, List.not_mem_nil, or_false] at hv ⊢; rcases hv with h | h | h <;> simp [h])⟩ | refine ⟨?_, ?_⟩)) ?_ ?_
      rotate_left
      refine go tbl_ok false ?_
      conv => whnf
      (repeat (refine need1 ?_; conv => whnf))
      exact endF
      refine stepF (s' := ?_) tbl_ok rfl (by kernel_rfl) (by repeat' (first | exact trivial | exact ⟨_, rfl, rfl, by assumption⟩ | exact ⟨_, rfl, rfl, huo _ (by simp)⟩ | exact ⟨_, rfl, rfl, fun v hv => huo v (by simp only [List.mem_cons, List.not_mem_nil, or_false] at hv ⊢; rcases hv with h | h | h <;> simp [h])⟩ | refine ⟨?_, ?_⟩)) ?_ ?_
      rotate_left
      refine go tbl_ok false ?_
      conv => whnf
      refine appW tbl_ok rfl rfl rfl rfl rfl rfl rfl rfl rfl rfl rfl (sGCell (l.take k ++ [x])) (slC_snoc rfl) (by intro h; cases h) (by (have := List.length_take_le k l); omega) (go tbl_ok false ?_)
      conv => whnf
      exact endF
      refine stepF (s' := ?_) tbl_ok rfl (by kernel_rfl) (by repeat' (first | exact trivial | exact ⟨_, rfl, rfl, by assumption⟩ | exact ⟨_, rfl, rfl, huo _ (by simp)⟩ | exact ⟨_, rfl, rfl, fun v hv => huo v (by simp only [List.mem_cons, List.not_mem_nil, or_false] at hv ⊢; rcases hv with h | h | h <;> simp [h])⟩ | refine ⟨?_, ?_⟩)) ?_ ?_
      rotate_left
      refine go tbl_ok false ?_
      conv => whnf
      (repeat (refine need1 ?_; conv => whnf))
      exact endF
      refine nilF tbl_ok (by kernel_rfl) (by repeat' (first | exact trivial | exact ⟨_, rfl, rfl, by assumption⟩ | exact ⟨_, rfl, rfl, huo _ (by simp)⟩ | exact ⟨_, rfl, rfl, fun v hv => huo v (by simp only [List.mem_cons, List.not_mem_nil, or_false] at hv ⊢; rcases hv with h | h | h <;> simp [h])⟩ | refine ⟨?_, ?_⟩)) (GW.out (go tbl_ok false ?_))
      conv => whnf
      rotate_left 1
      refine go tbl_ok false ?_
      conv => whnf
      (repeat (refine need1 ?_; conv => whnf))
      exact endF
      refine stepF (s' := ?_) tbl_ok rfl (by kernel_rfl) (by repeat' (first | exact trivial | exact ⟨_, rfl, rfl, by assumption⟩ | exact ⟨_, rfl, rfl, huo _ (by simp)⟩ | exact ⟨_, rfl, rfl, fun v hv => huo v (by simp only [List.mem_cons, List.not_mem_nil, or_false] at hv ⊢; rcases hv with h | h | h <;> simp [h])⟩ | refine ⟨?_, ?_⟩)) ?_ ?_
      rotate_left
      refine go tbl_ok false ?_
      conv => whnf
      refine appW tbl_ok rfl rfl rfl rfl rfl rfl rfl rfl rfl rfl rfl (sGCell (l.take k)) (nil_app) (fun _ => flat_cells _) (by (have := List.length_take_le k l); omega) (go tbl_ok false ?_)
      conv => whnf
      exact endF
      refine stepF (s' := ?_) tbl_ok rfl (by kernel_rfl) (by repeat' (first | exact trivial | exact ⟨_, rfl, rfl, by assumption⟩ | exact ⟨_, rfl, rfl, huo _ (by simp)⟩ | exact ⟨_, rfl, rfl, fun v hv => huo v (by simp only [List.mem_cons, List.not_mem_nil, or_false] at hv ⊢; rcases hv with h | h | h <;> simp [h])⟩ | refine ⟨?_, ?_⟩)) ?_ ?_
      rotate_left
      refine go tbl_ok false ?_
      conv => whnf
      refine appW tbl_ok rfl rfl rfl rfl rfl rfl rfl rfl rfl rfl rfl (sGCell (l.take k ++ [x])) (slC_snoc rfl) (by intro h; cases h) (by (have := List.length_take_le k l); omega) (go tbl_ok false ?_)
      conv => whnf
      exact endF
      refine stepF (s' := ?_) tbl_ok rfl (by kernel_rfl) (by repeat' (first | exact trivial | exact ⟨_, rfl, rfl, by assumption⟩ | exact ⟨_, rfl, rfl, huo _ (by simp)⟩ | exact ⟨_, rfl, rfl, fun v hv => huo v (by simp only [List.mem_cons, List.not_mem_nil, or_false] at hv ⊢; rcases hv with h | h | h <;> simp [h])⟩ | refine ⟨?_, ?_⟩)) ?_ ?_
      rotate_left
      refine go tbl_ok false ?_
      conv => whnf
      (repeat (refine need1 ?_; conv => whnf))
      exact endF
      refine nilF tbl_ok (by kernel_rfl) (by repeat' (first | exact trivial | exact ⟨_, rfl, rfl, by assumption⟩ | exact ⟨_, rfl, rfl, huo _ (by simp)⟩ | exact ⟨_, rfl, rfl, fun v hv => huo v (by simp only [List.mem_cons, List.not_mem_nil, or_false] at hv ⊢; rcases hv with h | h | h <;> simp [h])⟩ | refine ⟨?_, ?_⟩)) (GW.out (go tbl_ok false ?_))
      conv => whnf
      all_goals
        refine sliceW tbl_ok rfl rfl rfl rfl rfl rfl rfl (l := (k : Int)) (h := (l.length : Int)) rfl rfl ⟨by omega, by omega, by omega⟩ (sGCell (l.drop k)) (sub_drop (by omega)) (go tbl_ok false ?_)
        conv => whnf
        refine appW tbl_ok rfl rfl rfl rfl rfl rfl rfl rfl rfl rfl rfl (sGCell (l.take k ++ x :: l.drop k)) (slC_mid l x k) (fun _ => flat_cells _) (by (have := List.length_take_le k l; have := List.length_drop (i := k) (l := l); simp only [List.length_append, List.length_singleton]; omega)) (go tbl_ok false ?_)
        conv => whnf
        refine retW tbl_ok rfl rfl ⟨?_, trivial⟩
        rw [putCell, if_neg (by rw [hc]; decide), (show putAt l x = k by rw [putAt_end (fun i hi => he i (by omega))]; omega)]
        rfl

end Go.Proofs.YteonkhnmlolfgaaGreatDoor
