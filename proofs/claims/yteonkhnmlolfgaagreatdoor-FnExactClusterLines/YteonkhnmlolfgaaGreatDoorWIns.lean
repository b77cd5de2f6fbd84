/- Texts for the law FnExactClusterLines: WIns. No conditions. -/
import Derived.Test.YteonkhnmlolfgaaGreatDoorEng5
import Derived.Test.YteonkhnmlolfgaaGreatDoorWRec

set_option maxRecDepth 100000
namespace Go.Proofs.YteonkhnmlolfgaaGreatDoor
open Go.Sx
def insL {α : Type} (l : List α) (k : Nat) (x : α) : List α := l.take k ++ x :: l.drop k
theorem flatCell (l : List GCell) (n : Nat) : FlatRows n fun i => GCell.c (l.getD i default) := by
  intro i hi c hc
  simp only [GCell.c, List.mem_cons, List.not_mem_nil, or_false] at hc
  rcases hc with rfl | rfl | rfl | rfl <;> exact ⟨_, rfl⟩
theorem rowsAV_take {α : Type} [Inhabited α] (e : α → List Cell) (l : List α) {k : Nat} (hk : k ≤ l.length) : rowsAV k (fun i => e (l.getD i default)) = tAV e (l.take k) := by
  rw [← tAV_rows, List.length_take, Nat.min_eq_left hk]
  unfold rowsAV
  simp only [List.flatMap_def]
  congr 1
  apply List.map_congr_left
  intro i hi
  have hi := List.mem_range.1 hi
  rw [show (l.take k).getD i default = l.getD i default by simp [List.getD, List.getElem?_take, hi]]
theorem split0 {α : Type} [Inhabited α] (e : α → List Cell) (l : List α) {k : Nat} (hk : k ≤ l.length) (pre post : List AV) : pre ++ tAV e l ++ post = pre ++ rowsAV k (fun i => e (l.getD i default)) ++ (tAV e (l.drop k) ++ post) := by
  rw [rowsAV_take e l hk, List.append_assoc, List.append_assoc, ← List.append_assoc (tAV e (l.take k)), ← tAV_app, List.take_append_drop]
def grown (l : List GCell) (k : Nat) : List GCell := l.take k ++ List.replicate (l.length + 1 - k) default
theorem grown_len {l : List GCell} {k : Nat} (hk : k ≤ l.length) : (grown l k).length = l.length + 1 := by
  rw [grown, List.length_append, List.length_take, List.length_replicate]
  omega
theorem grown_lo {l : List GCell} {k i : Nat} (hk : k ≤ l.length) (hi : i < k) : (grown l k).getD i default = l.getD i default := by
  unfold grown
  simp only [List.getD]
  rw [List.getElem?_append_left (by rw [List.length_take]; omega), List.getElem?_take, if_pos hi]
theorem grown_hi {l : List GCell} {k i : Nat} (hk : k ≤ l.length) (hi : k ≤ i) : (grown l k).getD i default = default := by
  unfold grown
  simp only [List.getD]
  rw [List.getElem?_append_right (by rw [List.length_take]; omega), List.getElem?_replicate]
  split <;> rfl
theorem grown_split {l : List GCell} {k : Nat} (hk : k < l.length) (pre post : List AV) : pre ++ tAV GCell.c (grown l k) ++ post = (pre ++ tAV GCell.c (l.take k)) ++ tAV GCell.c [(default : GCell)] ++ (tAV GCell.c (List.replicate (l.length - k) (default : GCell)) ++ post) := by
  rw [grown, show l.length + 1 - k = (l.length - k) + 1 by omega, List.replicate_succ, show (default : GCell) :: List.replicate (l.length - k) default = [default] ++ List.replicate (l.length - k) default from rfl, tAV_app, tAV_app]
  simp only [List.append_assoc]
theorem insL_len {l : List GCell} {k : Nat} {x : GCell} (hk : k ≤ l.length) : (insL l k x).length = l.length + 1 := by
  rw [insL, List.length_append, List.length_cons, List.length_take, List.length_drop]
  omega
theorem tAV4 (l : List GCell) : (tAV GCell.c l).length = l.length * 4 := tAV_len (es := 4) (fun _ => rfl) l
theorem ins_join (l : List GCell) (k : Nat) (x : GCell) (pre post : List AV) : pre ++ tAV GCell.c (insL l k x) ++ post = (pre ++ tAV GCell.c (l.take k) ++ tAV GCell.c [x]) ++ tAV GCell.c (l.drop k) ++ post := by
  rw [insL, show x :: l.drop k = [x] ++ l.drop k from rfl, tAV_app, tAV_app]
  simp only [List.append_assoc]
set_option maxHeartbeats 4000000 in
theorem implInsert (l : List GCell) (k : Nat) (x : GCell) (hk : k ≤ l.length) (hl : l.length ≤ 16777216) : MeetsC Tryz.prog (fun _ => True) 107 [] [.one (sGCell l), .one (vi k), .one (sGCell [x])] [] (fun _ : Unit => True) (fun _ => [.one (sGCell (insL l k x))]) := by
  refine enterC tbl_ok false Tryz.func107 rfl (by decide) fun B hH hp => ?_
  conv => whnf
  refine sliceAny tbl_ok rfl rfl rfl rfl rfl rfl rfl (l := (k : Int)) rfl ⟨by omega, by show (k : Int) ≤ (l.length : Int); omega⟩ (go tbl_ok false ?_)
  conv => whnf
  repeat (first | (refine skf ?_; conv => whnf) | (refine skt ?_; conv => whnf) | (refine need1 ?_; conv => whnf))
  refine ⟨fun he => ?_, fun he => ?_⟩ <;> conv => whnf
  · have he : (k : Int) = l.length := eq_of_beq he
    obtain rfl : k = l.length := by omega
    rw [show insL l l.length x = l ++ [x] by unfold insL; rw [List.take_length, List.drop_length]]
    refine appW tbl_ok rfl rfl rfl rfl rfl rfl rfl rfl rfl rfl rfl (sGCell (l ++ [x])) (slC_snoc rfl) (by intro h; cases h) (by show l.length + 1 ≤ _; omega) (go tbl_ok false ?_)
    conv => whnf
    exact retC tbl_ok () trivial rfl rfl (by repeat' (first | exact trivial | exact outC_val _ _ | exact rfl | exact .inr ⟨rfl, rfl, _, _, rfl⟩ | refine ⟨?_, ?_⟩))
  · have he : (k : Int) ≠ l.length := beq_eq_false_iff_ne.1 he
    have hkl : k < l.length := by omega
    refine ⟨by (have : (([x].length : Nat) : Int) = 1 := rfl; rw [this]; show _ ∧ _; omega), ?_⟩
    conv => whnf
    refine unpackT 0 4 GCell.c l rfl (by omega) (flatCell l _) (fun b off cap pre post p1 p2 p3 p4 => ?_)
    refine nameSlot 0 0 rfl rfl ?_
    refine nameSlot 29 0 rfl rfl ?_
    refine capV tbl_ok rfl rfl rfl rfl rfl (goS tbl_ok false ?_)
    conv => whnf
    refine ⟨fun hc => ?_, fun hc => ?_⟩ <;> conv => whnf
    · have hc : cap < l.length + 1 := by
        have := of_decide_eq_true hc
        have e1 : (([x].length : Nat) : Int) = 1 := rfl
        omega
      have hcl : cap = l.length := by omega
      refine sliceV tbl_ok rfl rfl rfl rfl rfl rfl (l := 0) (h := (k : Int)) rfl rfl ⟨by omega, by omega, by omega, fun h => by (try cases h) , by omega⟩ (off * 4) k cap (by simp) (by simp) (by simp) (goS tbl_ok false ?_)
      conv => whnf
      refine ⟨by (have e1 : (([x].length : Nat) : Int) = 1 := rfl; rw [e1]; show _ ∧ _; omega), ?_⟩
      conv => whnf
      refine ⟨by (have e1 : (([x].length : Nat) : Int) = 1 := rfl; rw [e1]; show _ ∧ _; omega), ?_⟩
      conv => whnf
      rw [show ((l.length : Int) + (([x].length : Nat) : Int)) - (k : Int) = ((l.length + 1 - k : Nat) : Int) by have e1 : (([x].length : Nat) : Int) = 1 := rfl; omega]
      refine appZ (kb := 2) (k := l.length + 1 - k) (row := fun i => GCell.c (l.getD i default)) tbl_ok rfl rfl rfl rfl rfl rfl rfl rfl rfl rfl rfl rfl pre (tAV GCell.c (l.drop k) ++ post) (by exact split0 GCell.c l hk pre post) (by exact p1) rfl (by decide) (by exact fun _ _ => rfl) (by exact flatCell l _) (by omega) (by omega) (by omega) rfl (fun i => GCell.c ((grown l k).getD i default)) (fun i hi => by rw [grown_lo hk hi]) (fun i hi _ => by rw [grown_hi hk hi]; rfl) (goS tbl_ok false ?_)
      conv => whnf
      rw [show (Cell.sl (k + (l.length + 1 - k)) 4 fun i => GCell.c ((grown l k).getD i default)) = slC 4 GCell.c (grown l k) by unfold slC; rw [grown_len hk]; congr 1; omega]
      refine unpackT 3 4 GCell.c (grown l k) rfl (by rw [grown_len hk]; omega) (flatCell _ _) (fun b2 off2 cap2 pre2 post2 q1 q2 q3 q4 => ?_)
      rw [grown_len hk] at q2 q4
      refine nameSlot 9 3 rfl rfl ?_
      refine nameSlot 41 3 rfl rfl ?_
      refine sliceV tbl_ok rfl rfl rfl rfl rfl rfl (l := (k : Int)) (h := ((grown l k).length : Int)) rfl rfl ⟨by omega, by rw [grown_len hk]; omega, by rw [grown_len hk]; omega, fun _ => by rw [grown_len hk]; omega, by omega⟩ (off2 * 4 + k * 4) (l.length + 1 - k) (cap2 - k) (by simp) (by rw [grown_len hk]; simp) (by simp) (goS tbl_ok false ?_)
      conv => whnf
      refine copyOV (kb := 4) tbl_ok rfl rfl rfl rfl rfl rfl rfl rfl rfl rfl (by exact flatCell [x] _) (by exact Nat.one_pos) rfl (by show 1 ≤ _; omega) (pre2 ++ tAV GCell.c (l.take k)) (tAV GCell.c [(default : GCell)]) (tAV GCell.c (List.replicate (l.length - k) (default : GCell)) ++ post2) (by exact grown_split hkl pre2 post2) (by rw [List.length_append, tAV4, List.length_take, q1]; omega) (by rfl) (goS tbl_ok false ?_)
      conv => whnf
      have t1 : (l.take k).length = k := by rw [List.length_take]; omega
      have t2 : (l.drop k).length = l.length - k := List.length_drop
      have e1 : (([x].length : Nat) : Int) = 1 := rfl
      rw [show rowsAV [x].length (fun i => GCell.c ([x].getD i default)) = tAV GCell.c [x] from tAV_rows GCell.c [x]]
      refine drawF rfl ?_
      refine preF tbl_ok false 0 rfl rfl (by kernel_rfl) rfl (andL_mem (by repeat' (first | exact trivial | refine ⟨?_, ?_⟩ | (show _ ∧ _; omega) | omega))) ?_
      refine preF tbl_ok false 1 rfl rfl (by kernel_rfl) rfl (andL_mem (by repeat' (first | exact trivial | refine ⟨?_, ?_⟩ | (show _ ∧ _; omega) | omega))) ?_
      refine preF tbl_ok false 2 rfl rfl (by kernel_rfl) rfl (andL_mem (by repeat' (first | exact trivial | refine ⟨?_, ?_⟩ | (show _ ∧ _; omega) | omega))) ?_
      refine preF tbl_ok false 3 rfl rfl (by kernel_rfl) rfl (andL_mem (by repeat' (first | exact trivial | refine ⟨?_, ?_⟩ | (show _ ∧ _; omega) | omega))) ?_
      refine preF tbl_ok false 5 rfl rfl (by kernel_rfl) rfl (andL_mem (by repeat' (first | exact trivial | refine ⟨?_, ?_⟩ | (show _ ∧ _; omega) | omega))) ?_
      refine preF tbl_ok false 6 rfl rfl (by kernel_rfl) rfl (andL_mem (by repeat' (first | exact trivial | refine ⟨?_, ?_⟩ | (show _ ∧ _; omega) | omega))) ?_
      refine readF (s' := ?_) 4 rfl (by kernel_rfl) ?_ ?_
      rotate_left
      refine goS tbl_ok false ?_
      conv => whnf
      refine sliceV tbl_ok rfl rfl rfl rfl rfl rfl (l := (k : Int) + (([x].length : Nat) : Int)) (h := ((grown l k).length : Int)) rfl rfl ⟨by omega, by rw [grown_len hk]; omega, by rw [grown_len hk]; omega, fun _ => by rw [grown_len hk]; omega, by omega⟩ (off2 * 4 + (k + 1) * 4) (l.length - k) (cap2 - (k + 1)) (by rw [e1]; rfl) (by rw [grown_len hk, e1]; omega) (by rw [e1]; rfl) (goS tbl_ok false ?_)
      conv => whnf
      exact endF
      refine readF (s' := ?_) 7 rfl (by kernel_rfl) ?_ ?_
      rotate_left
      refine goS tbl_ok false ?_
      conv => whnf
      refine sliceV tbl_ok rfl rfl rfl rfl rfl rfl (l := (k : Int)) (h := (l.length : Int)) rfl rfl ⟨by omega, by omega, by omega, fun _ => by omega, by omega⟩ (off * 4 + k * 4) (l.length - k) (cap - k) (by simp) (by simp) (by simp) (goS tbl_ok false ?_)
      conv => whnf
      exact endF
      refine restF [8] [] (by kernel_rfl) ?_
      refine stepF (s' := ?_) tbl_ok rfl (by kernel_rfl) (by repeat' (first | exact trivial | exact ⟨_, rfl, rfl, by assumption⟩ | exact ⟨_, rfl, rfl, huo _ (by simp)⟩ | exact ⟨_, rfl, rfl, fun v hv => huo v (by simp only [List.mem_cons, List.not_mem_nil, or_false] at hv ⊢; rcases hv with h | h | h <;> simp [h])⟩ | refine ⟨?_, ?_⟩)) ?_ ?_
      rotate_left
      refine goS tbl_ok false ?_
      conv => whnf
      refine copyVV (kb := 4) (kb2 := 2) tbl_ok rfl rfl rfl rfl rfl rfl rfl rfl rfl rfl rfl (pre2 ++ tAV GCell.c (l.take k) ++ tAV GCell.c [x]) (tAV GCell.c (List.replicate (l.length - k) (default : GCell))) post2 (pre ++ tAV GCell.c (l.take k)) (tAV GCell.c (l.drop k)) post (by simp only [List.append_assoc]) (by rw [List.length_append, List.length_append, tAV4, tAV4, t1, q1]; simp; omega) (by rw [tAV4, tAV4, t2, List.length_replicate]) (by rw [← List.take_append_drop k l, tAV_app, List.take_append_drop]; simp only [List.append_assoc]) (by rw [List.length_append, tAV4, t1, p1]) (by rw [tAV4, t2, show Nat.min (l.length - k) (l.length - k) = _ from Nat.min_self _]) (by exact tAV_c GCell.c _) (goS tbl_ok false ?_)
      conv => whnf
      exact endF
      refine nilF tbl_ok (by kernel_rfl) (by repeat' (first | exact trivial | exact ⟨_, rfl, rfl, by assumption⟩ | exact ⟨_, rfl, rfl, huo _ (by simp)⟩ | exact ⟨_, rfl, rfl, fun v hv => huo v (by simp only [List.mem_cons, List.not_mem_nil, or_false] at hv ⊢; rcases hv with h | h | h <;> simp [h])⟩ | refine ⟨?_, ?_⟩)) (GW.out (goS tbl_ok false ?_))
      conv => whnf
      refine packR Tryz.prog 6 4 off2 4 GCell.c (insL l k x) pre2 post2 rfl (by exact (ins_join l k x pre2 post2).symm) (by exact q1) (fun _ => rfl) (flatCell _ _) (by exact q3) (by exact ⟨by rw [insL_len hk]; exact q2, by rw [insL_len hk]; exact q4⟩) rfl rfl rfl (by rw [grown_len hk, insL_len hk]) ?_
      exact retC tbl_ok () trivial rfl rfl (by repeat' (first | exact trivial | exact outC_val _ _ | exact rfl | exact .inr ⟨rfl, rfl, _, _, rfl⟩ | refine ⟨?_, ?_⟩))
    · have hc : l.length + 1 ≤ cap := by
        have := of_decide_eq_false hc
        have e1 : (([x].length : Nat) : Int) = 1 := rfl
        omega
      have t1 : (l.take k).length = k := by rw [List.length_take]; omega
      have t2 : (l.drop k).length = l.length - k := List.length_drop
      have e1 : (([x].length : Nat) : Int) = 1 := rfl
      have hp4 : 4 ≤ post.length := by have q := Nat.mul_le_mul_right 4 (show 1 ≤ cap - l.length from by omega); omega
      refine ⟨by (rw [e1]; show _ ∧ _; omega), ?_⟩
      conv => whnf
      refine sliceV tbl_ok rfl rfl rfl rfl rfl rfl (l := 0) (h := (l.length : Int) + (([x].length : Nat) : Int)) rfl rfl (by refine ⟨by omega, by omega, by omega, ?_, by omega⟩; intro h; exact absurd h (by simp)) (off * 4) (l.length + 1) cap (by simp) (by rw [e1]; rfl) (by simp) (goS tbl_ok false ?_)
      conv => whnf
      refine ⟨by (rw [e1]; show _ ∧ _; omega), ?_⟩
      conv => whnf
      refine sliceV tbl_ok rfl rfl rfl rfl rfl rfl (l := (k : Int) + (([x].length : Nat) : Int)) (h := ((l.length + 1 : Nat) : Int)) rfl rfl ⟨by omega, by omega, by omega, fun _ => by omega, by omega⟩ (off * 4 + (k + 1) * 4) (l.length - k) (cap - (k + 1)) (by rw [e1]; rfl) (by rw [e1]; omega) (by rw [e1]; rfl) (goFS 0 tbl_ok false ?_)
      conv => whnf
      refine overlapsW (kb := 2) tbl_ok rfl rfl rfl rfl rfl rfl rfl rfl rfl rfl rfl rfl (by exact Nat.one_pos) rfl rfl rfl (by rw [List.length_append, List.length_append]; omega) (goS tbl_ok false ?_)
      conv => whnf
      repeat (first | (refine skf ?_; conv => whnf) | (refine skt ?_; conv => whnf) | (refine need1 ?_; conv => whnf))
      have k1 : l.take (k + 1) = l.take k ++ [l.getD k default] := by
        rw [List.take_succ_eq_append_getElem hkl]
        simp [List.getD, hkl]
      have c1 : pre ++ tAV GCell.c l ++ post = (pre ++ tAV GCell.c (l.take (k + 1))) ++ (tAV GCell.c (l.drop (k + 1)) ++ post.take 4) ++ post.drop 4 := by
        conv => lhs; rw [← List.take_append_drop (k + 1) l, tAV_app, ← List.take_append_drop 4 post]
        simp only [List.append_assoc]
      have c2 : pre ++ tAV GCell.c l ++ post = (pre ++ tAV GCell.c (l.take k)) ++ tAV GCell.c (l.drop k) ++ post := by
        conv => lhs; rw [← List.take_append_drop k l, tAV_app]
        simp only [List.append_assoc]
      have c3 : (pre ++ tAV GCell.c (l.take (k + 1))) ++ tAV GCell.c (l.drop k) ++ post.drop 4 = (pre ++ tAV GCell.c (l.take k)) ++ tAV GCell.c [l.getD k default] ++ (tAV GCell.c (l.drop k) ++ post.drop 4) := by
        rw [k1, tAV_app]
        simp only [List.append_assoc]
      have t3 : (l.take (k + 1)).length = k + 1 := by rw [List.length_take]; omega
      have t4 : (l.drop (k + 1)).length = l.length - (k + 1) := List.length_drop
      have t5 : (post.take 4).length = 4 := by rw [List.length_take]; omega
      refine drawF rfl ?_
      refine preF tbl_ok false 0 rfl rfl (by kernel_rfl) rfl (andL_mem (by repeat' (first | exact trivial | refine ⟨?_, ?_⟩ | (show _ ∧ _; omega) | omega))) ?_
      refine preF tbl_ok false 1 rfl rfl (by kernel_rfl) rfl (andL_mem (by repeat' (first | exact trivial | refine ⟨?_, ?_⟩ | (show _ ∧ _; omega) | omega))) ?_
      refine preF tbl_ok false 2 rfl rfl (by kernel_rfl) rfl (andL_mem (by repeat' (first | exact trivial | refine ⟨?_, ?_⟩ | (show _ ∧ _; omega) | omega))) ?_
      refine preF tbl_ok false 3 rfl rfl (by kernel_rfl) rfl (andL_mem (by repeat' (first | exact trivial | refine ⟨?_, ?_⟩ | (show _ ∧ _; omega) | omega))) ?_
      refine preF tbl_ok false 5 rfl rfl (by kernel_rfl) rfl (andL_mem (by repeat' (first | exact trivial | refine ⟨?_, ?_⟩ | (show _ ∧ _; omega) | omega))) ?_
      refine preF tbl_ok false 6 rfl rfl (by kernel_rfl) rfl (andL_mem (by repeat' (first | exact trivial | refine ⟨?_, ?_⟩ | (show _ ∧ _; omega) | omega))) ?_
      refine readF (s' := ?_) 4 rfl (by kernel_rfl) ?_ ?_
      rotate_left
      refine goS tbl_ok false ?_
      conv => whnf
      refine sliceV tbl_ok rfl rfl rfl rfl rfl rfl (l := (k : Int) + (([x].length : Nat) : Int)) (h := ((l.length + 1 : Nat) : Int)) rfl rfl ⟨by omega, by omega, by omega, fun _ => by omega, by omega⟩ (off * 4 + (k + 1) * 4) (l.length - k) (cap - (k + 1)) (by rw [e1]; rfl) (by rw [e1]; omega) (by rw [e1]; rfl) (goS tbl_ok false ?_)
      conv => whnf
      exact endF
      refine readF (s' := ?_) 7 rfl (by kernel_rfl) ?_ ?_
      rotate_left
      refine goS tbl_ok false ?_
      conv => whnf
      refine sliceV tbl_ok rfl rfl rfl rfl rfl rfl (l := (k : Int)) (h := ((l.length + 1 : Nat) : Int)) rfl rfl ⟨by omega, by omega, by omega, fun _ => by omega, by omega⟩ (off * 4 + k * 4) (l.length + 1 - k) (cap - k) (by simp) (by simp) (by simp) (goS tbl_ok false ?_)
      conv => whnf
      exact endF
      refine restF [8] [] (by kernel_rfl) ?_
      refine stepF (s' := ?_) tbl_ok rfl (by kernel_rfl) (by repeat' (first | exact trivial | exact ⟨_, rfl, rfl, by assumption⟩ | exact ⟨_, rfl, rfl, huo _ (by simp)⟩ | exact ⟨_, rfl, rfl, fun v hv => huo v (by simp only [List.mem_cons, List.not_mem_nil, or_false] at hv ⊢; rcases hv with h | h | h <;> simp [h])⟩ | refine ⟨?_, ?_⟩)) ?_ ?_
      rotate_left
      refine goS tbl_ok false ?_
      conv => whnf
      refine copyVV (kb := 2) (kb2 := 2) tbl_ok rfl rfl rfl rfl rfl rfl rfl rfl rfl rfl rfl (pre ++ tAV GCell.c (l.take (k + 1))) (tAV GCell.c (l.drop (k + 1)) ++ post.take 4) (post.drop 4) (pre ++ tAV GCell.c (l.take k)) (tAV GCell.c (l.drop k)) post (by exact c1) (by rw [List.length_append, tAV4, t3, p1]) (by rw [List.length_append, tAV4, tAV4, t2, t4, t5]; omega) (by exact c2) (by rw [List.length_append, tAV4, t1, p1]) (by rw [tAV4, t2, show Nat.min (l.length + 1 - k) (l.length - k) = l.length - k from Nat.min_eq_right (by omega)]) (by exact tAV_c GCell.c _) (goS tbl_ok false ?_)
      conv => whnf
      exact endF
      refine nilF tbl_ok (by kernel_rfl) (by repeat' (first | exact trivial | exact ⟨_, rfl, rfl, by assumption⟩ | exact ⟨_, rfl, rfl, huo _ (by simp)⟩ | exact ⟨_, rfl, rfl, fun v hv => huo v (by simp only [List.mem_cons, List.not_mem_nil, or_false] at hv ⊢; rcases hv with h | h | h <;> simp [h])⟩ | refine ⟨?_, ?_⟩)) (GW.out (goS tbl_ok false ?_))
      conv => whnf
      rw [c3]
      refine sliceV tbl_ok rfl rfl rfl rfl rfl rfl (l := (k : Int)) (h := ((l.length + 1 : Nat) : Int)) rfl rfl ⟨by omega, by omega, by omega, fun _ => by omega, by omega⟩ (off * 4 + k * 4) (l.length + 1 - k) (cap - k) (by simp) (by simp) (by simp) (goS tbl_ok false ?_)
      conv => whnf
      refine copyOV (kb := 2) tbl_ok rfl rfl rfl rfl rfl rfl rfl rfl rfl rfl (by exact flatCell [x] _) (by exact Nat.one_pos) rfl (by show 1 ≤ _; omega) (pre ++ tAV GCell.c (l.take k)) (tAV GCell.c [l.getD k default]) (tAV GCell.c (l.drop k) ++ post.drop 4) rfl (by rw [List.length_append, tAV4, t1, p1]) (by rfl) (goS tbl_ok false ?_)
      conv => whnf
      rw [show rowsAV [x].length (fun i => GCell.c ([x].getD i default)) = tAV GCell.c [x] from tAV_rows GCell.c [x]]
      refine packR Tryz.prog 6 2 off 4 GCell.c (insL l k x) pre (post.drop 4) rfl (by rw [ins_join]; simp only [List.append_assoc]) (by exact p1) (fun _ => rfl) (flatCell _ _) (by exact p3) (by exact ⟨by rw [insL_len hk]; exact hc, by rw [insL_len hk, List.length_drop]; omega⟩) rfl rfl rfl (by rw [insL_len hk]) ?_
      exact retC tbl_ok () trivial rfl rfl (by repeat' (first | exact trivial | exact outC_val _ _ | exact rfl | exact .inr ⟨rfl, rfl, _, _, rfl⟩ | refine ⟨?_, ?_⟩))

end Go.Proofs.YteonkhnmlolfgaaGreatDoor
