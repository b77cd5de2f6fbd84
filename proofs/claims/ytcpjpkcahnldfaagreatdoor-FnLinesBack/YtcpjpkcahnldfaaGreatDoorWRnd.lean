/- Texts for the law FnLinesBack: WRnd. No conditions. -/
import Derived.Test.YtcpjpkcahnldfaaGreatDoorWNumI
import Derived.Test.YtcpjpkcahnldfaaGreatDoorWNums2
import Derived.Test.YtcpjpkcahnldfaaGreatDoorWLines
import Derived.Test.YtcpjpkcahnldfaaGreatDoorWCpN

set_option maxRecDepth 100000
namespace Go.Proofs.YtcpjpkcahnldfaaGreatDoor
open Go.Sx
def lastK (w : ByteArray) : Nat → Int
  | 0 => 0
  | k + 1 => if kindName ((k : Int) + 1) = w then (k : Int) + 1 else lastK w k
theorem lastK_name {w : ByteArray} : ∀ (n : Nat), lastK w n ≠ 0 → ∃ j, j < n ∧ lastK w n = (j : Int) + 1 ∧ kindName ((j : Int) + 1) = w
  | 0, h => absurd rfl h
  | n + 1, h => by
    rw [lastK] at h ⊢
    by_cases c : kindName ((n : Int) + 1) = w
    · rw [if_pos c]
      exact ⟨n, by omega, rfl, c⟩
    · rw [if_neg c] at h ⊢
      obtain ⟨j, h1, h2, h3⟩ := lastK_name n h
      exact ⟨j, by omega, h2, h3⟩
def kindIx (w : ByteArray) : Nat := if w = (⟨#[105, 110]⟩ : ByteArray) then 0 else if w = (⟨#[97, 100, 100]⟩ : ByteArray) then 1 else if w = (⟨#[107, 101, 101, 112]⟩ : ByteArray) then 2 else if w = (⟨#[109, 111, 118, 101]⟩ : ByteArray) then 3 else if w = (⟨#[109, 105, 110]⟩ : ByteArray) then 4 else if w = (⟨#[110, 101, 119]⟩ : ByteArray) then 5 else if w = (⟨#[98, 97, 99, 107]⟩ : ByteArray) then 6 else 7
theorem kindIx_name : ∀ {k : Nat}, k < 8 → kindIx (kindName ((k : Int) + 1)) = k
  | 0, _ => by decide
  | 1, _ => by decide
  | 2, _ => by decide
  | 3, _ => by decide
  | 4, _ => by decide
  | 5, _ => by decide
  | 6, _ => by decide
  | 7, _ => by decide
  | k + 8, h => by omega
theorem lastK_range (w : ByteArray) (n : Nat) : 0 ≤ lastK w n ∧ lastK w n ≤ n := by
  induction n with
  | zero => exact ⟨Int.le_refl _, Int.le_refl _⟩
  | succ n ih =>
    rw [lastK]
    split <;> omega
theorem lastK_is {w : ByteArray} {k : Nat} (hk : k < 8) (h : kindName ((k : Int) + 1) = w) : lastK w 8 = (k : Int) + 1 := by
  have hne : ∀ n, k < n → n ≤ 8 → lastK w n ≠ 0 := fun n h1 h2 => by
    induction n with
    | zero => omega
    | succ n ih =>
      rw [lastK]
      by_cases c : kindName ((n : Int) + 1) = w
      · rw [if_pos c]; omega
      · rw [if_neg c]
        by_cases e : k = n
        · exact absurd (e ▸ h) c
        · exact ih (by omega) (by omega)
  obtain ⟨j, h1, h2, h3⟩ := lastK_name 8 (hne 8 hk (Nat.le_refl _))
  have e1 := kindIx_name h1
  have e2 := kindIx_name hk
  rw [h3] at e1
  rw [h] at e2
  rw [h2, ← e1, e2]
def nodeS (s : ByteArray) : GNode := ⟨lastK ((partsL s).getD 1 default) 8, numAt (partsL s) 2, numAt (partsL s) 3, numsL (partsL s) 4⟩
def ReadNodeP (s : ByteArray) : Prop := PartsP s ∧ 4 ≤ (partsL s).length ∧ NodeP (nodeS s) ∧ nodeLine (nodeS s) = joinB (partsL s)
instance (s : ByteArray) : Decidable (ReadNodeP s) := by unfold ReadNodeP; infer_instance
def readNodeV (s : ByteArray) : GNode := if ReadNodeP s then nodeS s else default
def readNodeB (s : ByteArray) : Bool := decide (ReadNodeP s)
theorem readNode_not {s : ByteArray} (h : ¬ ReadNodeP s) : readNodeV s = default ∧ readNodeB s = false := ⟨if_neg h, decide_eq_false h⟩
theorem readNode_is {s : ByteArray} (h : ReadNodeP s) : readNodeV s = nodeS s ∧ readNodeB s = true := ⟨if_pos h, decide_eq_true h⟩
theorem outsT_join : ∀ (l : List Int) (q : List ByteArray), q ≠ [] → outsT (joinB q) l = joinB (q ++ l.map dec)
  | [], q, _ => by rw [List.map_nil, List.append_nil]; rfl
  | n :: l, q, h => by
    have e : outsT (joinB q) (n :: l) = outsT (joinB (q ++ [dec n])) l := by
      rw [joinB_snoc q (dec n) h]; rfl
    rw [e, outsT_join l (q ++ [dec n]) (by simp), List.append_assoc]
    rfl
theorem outsT_pre (a s : ByteArray) : ∀ (l : List Int), a ++ outsT s l = outsT (a ++ s) l := fun l => by
  induction l generalizing s with
  | nil => rfl
  | cons n l ih =>
    show a ++ outsT (s ++ (⟨#[32]⟩ : ByteArray) ++ dec n) l = outsT (a ++ s ++ (⟨#[32]⟩ : ByteArray) ++ dec n) l
    rw [ih]
    simp only [ByteArray.append_assoc]
def nodeL (x : GNode) : List ByteArray := (⟨#[110, 111, 100, 101]⟩ : ByteArray) :: kindName x.kind :: dec x.a :: dec x.b :: x.outs.map dec
theorem nodeLine_join {x : GNode} (h : NodeP x) : nodeLine x = joinB (nodeL x) := by
  rw [nodeLine, if_pos (show nodeOk x = true from decide_eq_true h), nodeText, outsT_pre]
  have e : (⟨#[110, 111, 100, 101, 32]⟩ : ByteArray) ++ (kindName x.kind ++ (⟨#[32]⟩ : ByteArray) ++ dec x.a ++ (⟨#[32]⟩ : ByteArray) ++ dec x.b) = joinB [(⟨#[110, 111, 100, 101]⟩ : ByteArray), kindName x.kind, dec x.a, dec x.b] := by
    apply ByteArray.ext
    apply Array.toList_inj.1
    simp [joinB, join2, Lib.join_one, ByteArray.data_append]
  rw [e, outsT_join _ _ (by simp)]
  rfl
theorem nodeLine_ne {x : GNode} (h : NodeP x) : nodeLine x ≠ (⟨#[]⟩ : ByteArray) := by
  intro e
  rw [nodeLine, if_pos (show nodeOk x = true from decide_eq_true h)] at e
  have := congrArg ByteArray.size e
  simp only [ByteArray.size_append, bsz, List.size_toArray, List.length_cons, List.length_nil] at this
  omega
theorem nodeLine_nil {x : GNode} (h : ¬ NodeP x) : nodeLine x = (⟨#[]⟩ : ByteArray) := by
  rw [nodeLine, if_neg (by rw [nodeOk, decide_eq_false h]; decide)]
theorem kindName_no (k : Int) : noB (kindName k) := by
  by_cases h : 1 ≤ k ∧ k ≤ 8
  · have : k = 1 ∨ k = 2 ∨ k = 3 ∨ k = 4 ∨ k = 5 ∨ k = 6 ∨ k = 7 ∨ k = 8 := by omega
    rcases this with rfl | rfl | rfl | rfl | rfl | rfl | rfl | rfl <;> (show (32 : UInt8) ∉ _; decide)
  · rw [kindName, if_neg h]; show (32 : UInt8) ∉ _; decide
theorem numsL_range {p : List ByteArray} {w : Nat} {n : Int} (h : n ∈ numsL p w) : 0 ≤ n ∧ n ≤ 1000000000 := by
  obtain ⟨b, _, rfl⟩ := List.mem_map.1 h
  exact rdN_range b
theorem readNode_nums {s : ByteArray} (h : ReadNodeP s) : numsB (partsL s) 2 = true := by
  obtain ⟨h1, h2, h3, h4⟩ := h
  rw [nodeLine_join h3] at h4
  have r1 := numAt_range (partsL s) 2
  have r2 := numAt_range (partsL s) 3
  have hp : partsL s ≠ [] := fun e => by rw [e] at h2; exact absurd h2 (by decide)
  have e := joinB_inj (by simp [nodeL]) hp (fun x hx => by
    rcases List.mem_cons.1 hx with rfl | hx
    · show (32 : UInt8) ∉ _; decide
    rcases List.mem_cons.1 hx with rfl | hx
    · exact kindName_no _
    rcases List.mem_cons.1 hx with rfl | hx
    · exact dec_noI r1.1
    rcases List.mem_cons.1 hx with rfl | hx
    · exact dec_noI r2.1
    obtain ⟨n, hn, rfl⟩ := List.mem_map.1 hx
    exact dec_noI (numsL_range hn).1) (partsL_no s) h4
  rw [← e]
  simp only [nodeL, numsB, List.drop_succ_cons, List.drop_zero, List.all_cons, Bool.and_eq_true]
  refine ⟨rdB_decI r1, rdB_decI r2, List.all_eq_true.2 fun x hx => ?_⟩
  obtain ⟨n, hn, rfl⟩ := List.mem_map.1 hx
  exact rdB_decI (numsL_range hn)
theorem numsL_inR {p : List ByteArray} {w : Nat} : ∀ n ∈ numsL p w, inR .i64 n := fun n hn => by
  have := numsL_range hn
  show _ ∧ _
  omega
theorem readNode_len (s : ByteArray) (w : Nat) : (numsL (partsL s) w).length ≤ 12 := by
  have := partsL_len s
  rw [numsL_len]
  omega
theorem node_ok (s : ByteArray) (k : Int) (hk : 0 ≤ k ∧ k ≤ 8) : (⟨k, numAt (partsL s) 2, numAt (partsL s) 3, numsL (partsL s) 4⟩ : GNode).ok := by
  have r1 := numAt_range (partsL s) 2
  have r2 := numAt_range (partsL s) 3
  have h4 := readNode_len s 4
  refine ⟨?_, ?_, ?_, ?_, numsL_inR⟩
  · show _ ∧ _; dsimp only; omega
  · show _ ∧ _; dsimp only; omega
  · show _ ∧ _; dsimp only; omega
  · show (numsL (partsL s) 4).length ≤ maxLen; rw [maxLen]; omega
theorem readNode_yes {s : ByteArray} {k : Nat} (hk : k < 8) (hkn : kindName ((k : Int) + 1) = (partsL s).getD 1 default) : nodeS s = ⟨(k : Int) + 1, numAt (partsL s) 2, numAt (partsL s) 3, numsL (partsL s) 4⟩ := by
  rw [nodeS, lastK_is hk hkn]
theorem readNode_kind {s : ByteArray} (h : ReadNodeP s) : ∃ j : Nat, j < 8 ∧ kindName ((j : Int) + 1) = (partsL s).getD 1 default := by
  have h1 := h.2.2.1.1
  obtain ⟨j, hj, _, hn⟩ := lastK_name (w := (partsL s).getD 1 default) 8 (fun e => by
    have h1 : 1 ≤ lastK ((partsL s).getD 1 default) 8 := h1.1
    omega)
  exact ⟨j, hj, hn⟩
theorem kind_snoc {w : ByteArray} {k : Nat} (h : ∀ j : Nat, j < k → kindName ((j : Int) + 1) ≠ w) (hk : kindName ((k : Int) + 1) ≠ w) : ∀ j : Nat, j < k + 1 → kindName ((j : Int) + 1) ≠ w := fun j hj => by
  by_cases e : j = k
  · rw [e]; exact hk
  · exact h j (by omega)
theorem readNodeV_w (s : ByteArray) : (readNodeV s).w ≤ 1048576 := by
  unfold readNodeV
  split
  · have := readNode_len s 4
    show (numsL (partsL s) 4).length ≤ 1048576
    omega
  · exact Nat.zero_le _

end Go.Proofs.YtcpjpkcahnldfaaGreatDoor
