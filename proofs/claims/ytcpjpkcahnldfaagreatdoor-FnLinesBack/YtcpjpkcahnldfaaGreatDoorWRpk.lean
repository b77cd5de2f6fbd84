/- Texts for the law FnLinesBack: WRpk. No conditions. -/
import Derived.Test.YtcpjpkcahnldfaaGreatDoorWNumI
import Derived.Test.YtcpjpkcahnldfaaGreatDoorWPick

set_option maxRecDepth 100000
namespace Go.Proofs.YtcpjpkcahnldfaaGreatDoor
open Go.Sx
def pickS (s : ByteArray) (k : Nat) : GPick := ⟨(k : Int) + 1, numAt (partsL s) 1, if k = 3 ∨ k = 4 then numAt (partsL s) 2 else 0⟩
def PickAt (s : ByteArray) (k : Nat) : Prop := PartsP s ∧ 2 ≤ (partsL s).length ∧ pickText (pickS s k) = joinB (partsL s)
instance (s : ByteArray) (k : Nat) : Decidable (PickAt s k) := by unfold PickAt; infer_instance
def readPickK (s : ByteArray) : Option Nat := (List.range 7).find? fun k => decide (PickAt s k)
def readPickV (s : ByteArray) : GPick := match readPickK s with | some k => pickS s k | none => default
def readPickB (s : ByteArray) : Bool := (readPickK s).isSome
theorem readPick_is {s : ByteArray} {k : Nat} (hk : k < 7) (h : ∀ j, j < k → ¬ PickAt s j) (c : PickAt s k) : readPickV s = pickS s k ∧ readPickB s = true := by
  have e : readPickK s = some k := List.find?_range_eq_some.2 ⟨decide_eq_true c, List.mem_range.2 hk, fun j hj => by simpa using h j hj⟩
  exact ⟨by rw [readPickV, e], by rw [readPickB, e]; rfl⟩
theorem readPick_no {s : ByteArray} (h : ∀ j, j < 7 → ¬ PickAt s j) : readPickV s = default ∧ readPickB s = false := by
  have e : readPickK s = none := List.find?_range_eq_none.2 fun j hj => by simpa using h j hj
  exact ⟨by rw [readPickV, e], by rw [readPickB, e]; rfl⟩
def pickL (k : Nat) (a b : Int) : List ByteArray := if k = 3 ∨ k = 4 then [pickWord ((k : Int) + 1), dec a, dec b] else [pickWord ((k : Int) + 1), dec a]
theorem pickText_join {k : Nat} (hk : k < 7) (a b : Int) : pickText ⟨(k : Int) + 1, a, b⟩ = joinB (pickL k a b) := by
  rw [pickText, if_pos (by show 1 ≤ (k : Int) + 1 ∧ (k : Int) + 1 ≤ 7; omega), pickL]
  dsimp only
  by_cases c : k = 3 ∨ k = 4
  · rw [if_pos (by omega), if_pos c]
    apply ByteArray.ext
    apply Array.toList_inj.1
    simp [joinB, join2, Lib.join_one, ByteArray.data_append]
  · rw [if_neg (by omega), if_neg c]
    apply ByteArray.ext
    apply Array.toList_inj.1
    simp [joinB, join2, Lib.join_one, ByteArray.data_append]
theorem pickWord_no : ∀ {k : Nat}, k < 7 → noB (pickWord ((k : Int) + 1))
  | 0, _ => by show (32 : UInt8) ∉ _; decide
  | 1, _ => by show (32 : UInt8) ∉ _; decide
  | 2, _ => by show (32 : UInt8) ∉ _; decide
  | 3, _ => by show (32 : UInt8) ∉ _; decide
  | 4, _ => by show (32 : UInt8) ∉ _; decide
  | 5, _ => by show (32 : UInt8) ∉ _; decide
  | 6, _ => by show (32 : UInt8) ∉ _; decide
  | k + 7, h => by omega
theorem pickJoin_inj {s : ByteArray} {k : Nat} (hk : k < 7) {a b : Int} (ha : 0 ≤ a) (hb : 0 ≤ b) (hl : 2 ≤ (partsL s).length) (h : pickText ⟨(k : Int) + 1, a, b⟩ = joinB (partsL s)) : pickL k a b = partsL s := by
  rw [pickText_join hk] at h
  refine joinB_inj (by rw [pickL]; split <;> simp) (fun e => by rw [e] at hl; exact absurd hl (by decide)) (fun x hx => ?_) (partsL_no s) h
  have h1 := pickWord_no hk
  have h2 := dec_noI ha
  have h3 := dec_noI hb
  rw [pickL] at hx
  split at hx <;> simp only [List.mem_cons, List.not_mem_nil, or_false] at hx
  · rcases hx with rfl | rfl | rfl <;> assumption
  · rcases hx with rfl | rfl <;> assumption
theorem pickS_b (s : ByteArray) (k : Nat) : 0 ≤ (pickS s k).b ∧ (pickS s k).b ≤ 1000000000 := by
  have := numAt_range (partsL s) 2
  rw [pickS]
  dsimp only
  split <;> omega
theorem pickAt_parts {s : ByteArray} {k : Nat} (hk : k < 7) (h : PickAt s k) : pickL k (pickS s k).a (pickS s k).b = partsL s :=
  pickJoin_inj hk (numAt_range (partsL s) 1).1 (pickS_b s k).1 h.2.1 h.2.2
theorem pickAt_len {s : ByteArray} {k : Nat} (hk : k < 7) (h : PickAt s k) : (partsL s).length = if k = 3 ∨ k = 4 then 3 else 2 := by
  rw [← pickAt_parts hk h, pickL]
  split <;> rfl
theorem pickAt_nums {s : ByteArray} {k : Nat} (hk : k < 7) (h : PickAt s k) : okR s 1 = true := by
  have r1 := numAt_range (partsL s) 1
  have r2 := pickS_b s k
  have hn : numsB (partsL s) 1 = true := by
    rw [← pickAt_parts hk h, pickL]
    split <;> simp only [numsB, List.drop_succ_cons, List.drop_zero, List.all_cons, List.all_nil, Bool.and_true, Bool.and_eq_true]
    · exact ⟨rdB_decI r1, rdB_decI r2⟩
    · exact rdB_decI r1
  rw [okR, partsB_is h.1, hn, decide_eq_true (show 1 ≤ (partsL s).length by have := h.2.1; omega)]
  rfl
def pickI (s : ByteArray) (k : Nat) : GPick := ⟨(k : Int) + 1, numAt (partsL s) 1, if (partsL s).length = 3 then numAt (partsL s) 2 else 0⟩
theorem pickI_b (s : ByteArray) (k : Nat) : 0 ≤ (pickI s k).b ∧ (pickI s k).b ≤ 1000000000 := by
  have := numAt_range (partsL s) 2
  rw [pickI]
  dsimp only
  split <;> omega
theorem pickI_at {s : ByteArray} {k : Nat} (hk : k < 7) (hP : PartsP s) (h2 : 2 ≤ (partsL s).length) (h3 : (partsL s).length ≤ 3) :
    (pickText (pickI s k) = joinB (partsL s) ↔ PickAt s k) ∧ (PickAt s k → pickI s k = pickS s k) := by
  by_cases c : k = 3 ∨ k = 4
  · have e : pickI s k = pickS s k := by
      rw [pickI, pickS, if_pos c]
      by_cases d : (partsL s).length = 3
      · rw [if_pos d]
      · rw [if_neg d, show numAt (partsL s) 2 = 0 from if_neg (by omega)]
    rw [e]
    exact ⟨⟨fun h => ⟨hP, h2, h⟩, fun h => h.2.2⟩, fun _ => rfl⟩
  · have e : pickText (pickI s k) = pickText (pickS s k) := by
      rw [pickI, pickS, pickText_join hk, pickText_join hk, pickL, pickL, if_neg c, if_neg c]
    rw [e]
    refine ⟨⟨fun h => ⟨hP, h2, h⟩, fun h => h.2.2⟩, fun h => ?_⟩
    have hl := pickAt_len hk h
    rw [if_neg c] at hl
    rw [pickI, pickS, if_neg c, if_neg (by omega)]
theorem pickS_ok (s : ByteArray) {k : Nat} (hk : k < 7) : (pickS s k).ok := by
  have r1 := numAt_range (partsL s) 1
  have r2 := pickS_b s k
  refine ⟨?_, ?_, ?_⟩ <;> (show _ ∧ _; simp only [pickS] at *; omega)
theorem pickI_ok (s : ByteArray) {k : Nat} (hk : k < 7) : (pickI s k).ok := by
  have r1 := numAt_range (partsL s) 1
  have r2 := pickI_b s k
  refine ⟨?_, ?_, ?_⟩ <;> (show _ ∧ _; simp only [pickI] at *; omega)
theorem pick_eqs {x y : GPick} (h : y = x) : vi y.kind = vi x.kind ∧ vi y.a = vi x.a ∧ vi y.b = vi x.b := by subst h; exact ⟨rfl, rfl, rfl⟩
theorem pick_ok2 {s : ByteArray} {k : Nat} (hk : k < 7) : (⟨(k : Int) + 1, numAt (partsL s) 1, numAt (partsL s) 2⟩ : GPick).ok := by
  have r1 := numAt_range (partsL s) 1
  have r2 := numAt_range (partsL s) 2
  refine ⟨?_, ?_, ?_⟩ <;> (show _ ∧ _; dsimp only; omega)
theorem pick_ok0 {s : ByteArray} {k : Nat} (hk : k < 7) : (⟨(k : Int) + 1, numAt (partsL s) 1, 0⟩ : GPick).ok := by
  have r1 := numAt_range (partsL s) 1
  refine ⟨?_, ?_, ?_⟩ <;> (show _ ∧ _; dsimp only; omega)
theorem upto_snoc {P : Nat → Prop} {k : Nat} (h : ∀ j, j < k → ¬ P j) (hk : ¬ P k) : ∀ j, j < k + 1 → ¬ P j := fun j hj => by
  by_cases e : j = k
  · rw [e]; exact hk
  · exact h j (by omega)

end Go.Proofs.YtcpjpkcahnldfaaGreatDoor
