/- A symbolic executor for the model's code, proved sound: part 3. No conditions. -/
import Derived.Test.YtbmnagjpkhlncaaEng2

/- What came in, as the types that the statements speak of. -/
namespace Go.Sx
open Go.RowKit (Below)
variable {P : Program} {T : List (TypeId × TI)}

/-- Whatever stands for cs stands for cs'. -/
def Wk (cs cs' : List Cell) : Prop := cs'.length = cs.length ∧ ∀ (i : Nat) (c' : Cell), cs'[i]? = some c' → ∃ c, cs[i]? = some c ∧ ∀ w A v, Rep w A c v → Rep w A c' v

theorem Wk.refl (cs : List Cell) : Wk cs cs := ⟨rfl, fun _ c h => ⟨c, h, fun _ _ _ h => h⟩⟩

theorem Wk.append {a a' b b' : List Cell} (h : Wk a a') (k : Wk b b') : Wk (a ++ b) (a' ++ b') := by
  refine ⟨by simp [h.1, k.1], fun i c hc => ?_⟩
  by_cases hi : i < a'.length
  · rw [List.getElem?_append_left hi] at hc
    rw [List.getElem?_append_left (by rw [← h.1]; exact hi)]
    exact h.2 i c hc
  · rw [List.getElem?_append_right (by omega)] at hc
    rw [List.getElem?_append_right (by rw [← h.1]; omega), ← h.1]
    exact k.2 _ c hc

theorem wk_sl {α : Type} [Inhabited α] {es n : Nat} {row : Nat → List Cell} {e : α → List Cell} {ok : α → Prop} (h : ∀ i, i < n → ∃ x, ok x ∧ Wk (row i) (e x)) :
    ∃ xs : List α, xs.length = n ∧ (∀ y ∈ xs, ok y) ∧ Wk [.sl n es row] [slC es e xs] := by
  have hex : ∀ i, ∃ x, i < n → ok x ∧ Wk (row i) (e x) := fun i => by
    by_cases hi : i < n
    · obtain ⟨x, hx⟩ := h i hi; exact ⟨x, fun _ => hx⟩
    · exact ⟨default, fun h => absurd h hi⟩
  let g := fun i => Classical.choose (hex i)
  have hg : ∀ i, i < n → ok (g i) ∧ Wk (row i) (e (g i)) := fun i => Classical.choose_spec (hex i)
  have hget : ∀ i, i < n → ((List.range n).map g).getD i default = g i := fun i hi => by simp [List.getD, hi]
  refine ⟨(List.range n).map g, by simp, fun y hy => ?_, rfl, fun i c hc => ?_⟩
  · obtain ⟨i, hi, rfl⟩ := List.mem_map.1 hy
    exact (hg i (List.mem_range.1 hi)).1
  · cases i with
    | succ i => simp at hc
    | zero =>
      simp only [List.getElem?_cons_zero, Option.some.injEq] at hc
      subst hc
      refine ⟨_, rfl, fun w A v hr => ?_⟩
      have hlen : ((List.range n).map g).length = n := by simp
      unfold slC
      rw [hlen]
      cases hr with
      | nil => exact .nil _ _
      | emp _ _ a => exact .emp _ _ a
      | sl _ _ _ b off cap u hA hn hc hl hu hr =>
        refine .sl n es _ b off cap u hA hn hc (fun i hi => ?_) hu (fun i j c hi hc => ?_)
        · rw [hget i hi, (hg i hi).2.1]; exact hl i hi
        · rw [hget i hi] at hc
          obtain ⟨c0, h1, h2⟩ := (hg i hi).2.2 j c hc
          exact h2 _ _ _ (hr i j c0 hi h1)

theorem Wk.repL {w : World} {xs ys : List Cell} {cs : List Value} (h : Wk xs ys) (hr : RepL w xs cs) : RepL w ys cs := by
  refine ⟨h.1.trans hr.1, fun i c hc => ?_⟩
  obtain ⟨c0, h1, h2⟩ := h.2 i c hc
  exact h2 _ _ _ (hr.2 i c0 h1)

theorem RepL.arg1 {w : World} {c : Cell} {v : Value} (h : RepL w [c] [v]) : RepArg w (fun _ => False) (.one c) v := h.2 0 c rfl

theorem RepL.aggs {w : World} {cs : List Cell} {vs : Array Value} (h : RepL w cs vs.toList) : RepArg w (fun _ => False) (.agg cs) (.agg vs) :=
  ⟨vs.toList, by simp, h.1.symm, h.2⟩

end Go.Sx
