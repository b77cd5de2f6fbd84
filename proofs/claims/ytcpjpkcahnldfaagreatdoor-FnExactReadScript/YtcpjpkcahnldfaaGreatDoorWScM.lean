/- Texts for the law FnExactReadScript: WScM. No conditions. -/
import Derived.Test.YtcpjpkcahnldfaaGreatDoorWGraph
import Derived.Test.YtcpjpkcahnldfaaGreatDoorWRnd
import Derived.Test.YtcpjpkcahnldfaaGreatDoorWRin
import Derived.Test.YtcpjpkcahnldfaaGreatDoorWRpk
import Derived.Lib.IndexBytes
import Derived.Lib.Split

set_option maxRecDepth 100000
namespace Go.Proofs.YtcpjpkcahnldfaaGreatDoor
open Go.Sx
/-- A line cut at byte 10. -/
def cutL : List UInt8 → List UInt8 → List (List UInt8)
  | cur, [] => [cur]
  | cur, b :: r => if b = 10 then cur :: cutL [] r else cutL (cur ++ [b]) r
def cutB (s : ByteArray) : List ByteArray := (cutL [] s.data.toList).map fun l => ⟨l.toArray⟩
theorem cutL_none : ∀ (r cur : List UInt8), (∀ b ∈ r, b ≠ 10) → cutL cur r = [cur ++ r]
  | [], cur, _ => by rw [cutL, List.append_nil]
  | b :: r, cur, h => by
    rw [cutL, if_neg (h b (List.mem_cons_self ..)), cutL_none r _ (fun x hx => h x (List.mem_cons_of_mem _ hx)), List.append_assoc]
    rfl
theorem cutL_at : ∀ (r cur : List UInt8) (i : Nat), r[i]? = some 10 → (∀ k, k < i → r[k]? ≠ some 10) → cutL cur r = (cur ++ r.take i) :: cutL [] (r.drop (i + 1))
  | [], cur, i, h, _ => by simp at h
  | b :: r, cur, 0, h, _ => by
    have e : b = 10 := by simpa using h
    rw [cutL, if_pos e]
    simp
  | b :: r, cur, i + 1, h, hn => by
    have e : b ≠ 10 := fun e => hn 0 (Nat.succ_pos i) (by rw [e]; rfl)
    rw [cutL, if_neg e, cutL_at r (cur ++ [b]) i (by simpa using h) (fun k hk => by simpa using hn (k + 1) (by omega)), List.append_assoc]
    rfl
theorem split_cut : ∀ (n : Nat) (l : List UInt8), l.length ≤ n → Lib.splitK [10] 0 (Lib.count l [10]) l = cutL [] l := by
  intro n
  induction n with
  | zero =>
    intro l hl
    obtain rfl : l = [] := List.length_eq_zero_iff.1 (by omega)
    rfl
  | succ n ih =>
    intro l hl
    have hge := Lib.index_ge l [10]
    by_cases hm : Lib.index l [10] = -1
    · have h1 := Lib.index_one l 10
      rw [hm] at h1
      have h2 := Lib.indexByte_none h1.symm
      rw [Lib.count_miss hm, cutL_none l [] (fun b hb e => by
        subst e
        obtain ⟨k, hk, he⟩ := List.mem_iff_getElem.1 hb
        exact h2 k (by rw [List.getElem?_eq_getElem hk, he]))]
      rfl
    · obtain ⟨i, hi⟩ : ∃ i : Nat, Lib.index l [10] = i := ⟨(Lib.index l [10]).toNat, by omega⟩
      have h1 := Lib.index_one l 10
      rw [hi] at h1
      obtain ⟨h2, h3⟩ := Lib.indexByte_some h1.symm
      have hlen : i < l.length := (List.getElem?_eq_some_iff.1 h2).1
      rw [Lib.count_hit (by simp) hi, cutL_at l [] i h2 h3, Nat.add_comm 1]
      unfold Lib.splitK
      rw [if_neg (by rw [beq_iff_eq]; exact hm), hi, ← ih (l.drop (i + 1)) (by rw [List.length_drop]; omega)]
      simp
theorem splitB_cut (s : ByteArray) : Lib.splitB ⟨#[10]⟩ 0 (Lib.countB s ⟨#[10]⟩) s = cutB s := by
  have h := Lib.splitB_data ⟨#[10]⟩ 0 (Lib.countB s ⟨#[10]⟩) s
  rw [show (⟨#[10]⟩ : ByteArray).data.toList = [10] from rfl, show Lib.countB s ⟨#[10]⟩ = Lib.count s.data.toList [10] from rfl, split_cut _ _ (Nat.le_refl _)] at h
  rw [cutB, ← h, List.map_map]
  exact (List.map_id' _).symm.trans (List.map_congr_left fun x _ => by apply ByteArray.ext; simp)
theorem cutL_size : ∀ (r cur : List UInt8), ∀ x ∈ cutL cur r, x.length ≤ cur.length + r.length
  | [], cur, x, hx => by
    rw [cutL, List.mem_singleton] at hx
    rw [hx]; exact Nat.le_add_right _ _
  | b :: r, cur, x, hx => by
    rw [cutL] at hx
    split at hx
    · rcases List.mem_cons.1 hx with rfl | hx
      · exact Nat.le_add_right _ _
      · have := cutL_size r [] x hx
        simp only [List.length_nil, List.length_cons] at *
        omega
    · have := cutL_size r (cur ++ [b]) x hx
      simp only [List.length_append, List.length_cons, List.length_nil] at *
      omega
theorem cutL_len : ∀ (r cur : List UInt8), (cutL cur r).length ≤ r.length + 1
  | [], cur => by rw [cutL]; exact Nat.le_refl _
  | b :: r, cur => by
    rw [cutL]
    split
    · have := cutL_len r []
      simp only [List.length_cons]; omega
    · have := cutL_len r (cur ++ [b])
      simp only [List.length_cons]; omega
theorem cutB_size (s : ByteArray) : ∀ x ∈ cutB s, x.size ≤ s.size := fun x hx => by
  obtain ⟨l, hl, rfl⟩ := List.mem_map.1 hx
  have h1 := cutL_size s.data.toList [] l hl
  have h2 : s.data.toList.length = s.size := Array.length_toList
  rw [bsz, List.size_toArray]
  simp only [List.length_nil] at h1
  omega
theorem cutB_len (s : ByteArray) : (cutB s).length ≤ s.size + 1 := by
  have h1 := cutL_len s.data.toList []
  have h2 : s.data.toList.length = s.size := Array.length_toList
  rw [cutB, List.length_map]
  omega

theorem fieldsGo_ne : ∀ (l cur : List UInt8), ∀ x ∈ Lib.fieldsGo cur l, x ≠ []
  | [], cur, x, hx => by
    rw [fieldsGo_nil] at hx
    split at hx
    · cases hx
    · rename_i h
      rw [List.mem_singleton.1 hx]
      exact fun e => h (by rw [e]; rfl)
  | b :: l, cur, x, hx => by
    rw [fieldsGo_cons] at hx
    split at hx
    · split at hx
      · exact fieldsGo_ne l [] x hx
      · rename_i h
        rcases List.mem_cons.1 hx with rfl | hx
        · exact fun e => h (by rw [e]; rfl)
        · exact fieldsGo_ne l [] x hx
    · exact fieldsGo_ne l (cur ++ [b]) x hx
theorem partsL_ne (s : ByteArray) : ∀ x ∈ partsL s, 1 ≤ x.size := fun x hx => by
  unfold partsL at hx
  split at hx
  · obtain ⟨l, hl, rfl⟩ := List.mem_map.1 hx
    have := List.length_pos_iff.2 (fieldsGo_ne _ _ l hl)
    rw [bsz, List.size_toArray]
    omega
  · cases hx

def word0 (s : ByteArray) : ByteArray := (partsL s).getD 0 default
theorem readNode_first {s : ByteArray} (h : readNodeB s = true) : partsB s = true ∧ word0 s = (⟨#[110, 111, 100, 101]⟩ : ByteArray) := by
  obtain ⟨h1, h2, h3, h4⟩ := of_decide_eq_true h
  refine ⟨decide_eq_true h1, ?_⟩
  rw [nodeLine_join h3] at h4
  have r1 := numAt_range (partsL s) 2
  have r2 := numAt_range (partsL s) 3
  have hp : partsL s ≠ [] := fun e => by rw [e] at h2; exact absurd h2 (by decide)
  have e := joinB_inj (by simp [nodeL]) hp (fun x hx => by
    rcases List.mem_cons.1 hx with rfl | hx
    · show (32 : UInt8) ∉ _; decide
    rcases List.mem_cons.1 hx with rfl | hx
    · exact kindName_no _
    rcases List.mem_cons.1 hx with rfl | hx
    · exact dec_noI r1.1
    rcases List.mem_cons.1 hx with rfl | hx
    · exact dec_noI r2.1
    obtain ⟨n, hn, rfl⟩ := List.mem_map.1 hx
    exact dec_noI (numsL_range hn).1) (partsL_no s) h4
  rw [word0, ← e]
  rfl
theorem readIn_first {s : ByteArray} (h : readInB s = true) : partsB s = true ∧ word0 s = (⟨#[112, 117, 116]⟩ : ByteArray) := by
  obtain ⟨h1, h2, h3, h4⟩ := of_decide_eq_true h
  refine ⟨decide_eq_true h1, ?_⟩
  rw [inputLine_join ⟨h3, rfl, rfl⟩] at h4
  have r1 := numAt_range (partsL s) 1
  have r2 := numAt_range (partsL s) 2
  have r3 := numAt_range (partsL s) 3
  have hp : partsL s ≠ [] := fun e => by rw [e] at h2; cases h2
  have e := joinB_inj (by simp) hp (fun x hx => by
    simp only [List.mem_cons, List.not_mem_nil, or_false] at hx
    rcases hx with rfl | rfl | rfl | rfl
    · show (32 : UInt8) ∉ _; decide
    · exact dec_noI r1.1
    · exact dec_noI r2.1
    · exact dec_noI r3.1) (partsL_no s) h4
  rw [word0, ← e]
  rfl
theorem readPick_first {s : ByteArray} (h : readPickB s = true) : partsB s = true ∧ ∃ k : Nat, k < 7 ∧ word0 s = pickWord ((k : Int) + 1) := by
  obtain ⟨k, e⟩ := Option.isSome_iff_exists.1 h
  obtain ⟨h1, h2, _⟩ := List.find?_range_eq_some.1 e
  have hk := List.mem_range.1 h2
  have hP := of_decide_eq_true h1
  refine ⟨decide_eq_true hP.1, k, hk, ?_⟩
  rw [word0, ← pickAt_parts hk hP, pickL]
  split <;> rfl
theorem pickWord_fair : ∀ {k : Nat}, k < 7 → pickWord ((k : Int) + 1) ≠ (⟨#[102, 97, 105, 114]⟩ : ByteArray) ∧ pickWord ((k : Int) + 1) ≠ (⟨#[110, 111, 100, 101]⟩ : ByteArray) ∧ pickWord ((k : Int) + 1) ≠ (⟨#[112, 117, 116]⟩ : ByteArray)
  | 0, _ => by refine ⟨?_, ?_, ?_⟩ <;> decide
  | 1, _ => by refine ⟨?_, ?_, ?_⟩ <;> decide
  | 2, _ => by refine ⟨?_, ?_, ?_⟩ <;> decide
  | 3, _ => by refine ⟨?_, ?_, ?_⟩ <;> decide
  | 4, _ => by refine ⟨?_, ?_, ?_⟩ <;> decide
  | 5, _ => by refine ⟨?_, ?_, ?_⟩ <;> decide
  | 6, _ => by refine ⟨?_, ?_, ?_⟩ <;> decide
  | k + 7, h => by omega

/-- A line that says how many rounds. -/
def FairP (l : ByteArray) : Prop := partsB l = true ∧ (partsL l).length = 2 ∧ word0 l = (⟨#[102, 97, 105, 114]⟩ : ByteArray) ∧ rdB ((partsL l).getD 1 default) = true ∧ rdN ((partsL l).getD 1 default) ≤ 3000
instance (l : ByteArray) : Decidable (FairP l) := by unfold FairP; infer_instance
def addB (s : GScript) (l : ByteArray) : Bool :=
  if readNodeB l = true then decide (s.graph.nodes.length < 8) else if readInB l = true then decide (s.inputs.length < 20) else if readPickB l = true then decide (s.picks.length < 200) else decide (FairP l)
def addS (s : GScript) (l : ByteArray) : GScript :=
  if readNodeB l = true then ⟨⟨s.graph.nodes ++ [readNodeV l], s.graph.workers, s.graph.cap⟩, s.inputs, s.picks, s.rounds⟩
  else if readInB l = true then ⟨s.graph, s.inputs ++ [readInV l], s.picks, s.rounds⟩
  else if readPickB l = true then ⟨s.graph, s.inputs, s.picks ++ [readPickV l], s.rounds⟩
  else ⟨s.graph, s.inputs, s.picks, rdN ((partsL l).getD 1 default)⟩
theorem node_not {l : ByteArray} (h : readNodeB l = true) : readInB l = false ∧ readPickB l = false ∧ ¬ FairP l := by
  have h1 := (readNode_first h).2
  refine ⟨Bool.eq_false_iff.2 fun c => ?_, Bool.eq_false_iff.2 fun c => ?_, fun c => ?_⟩
  · have := (readIn_first c).2
    rw [h1] at this
    exact absurd this (by decide)
  · obtain ⟨_, k, hk, this⟩ := readPick_first c
    exact (pickWord_fair hk).2.1 (this.symm.trans h1)
  · have := c.2.2.1
    rw [h1] at this
    exact absurd this (by decide)
theorem in_not {l : ByteArray} (h : readInB l = true) : readPickB l = false ∧ ¬ FairP l := by
  have h1 := (readIn_first h).2
  refine ⟨Bool.eq_false_iff.2 fun c => ?_, fun c => ?_⟩
  · obtain ⟨_, k, hk, this⟩ := readPick_first c
    exact (pickWord_fair hk).2.2 (this.symm.trans h1)
  · have := c.2.2.1
    rw [h1] at this
    exact absurd this (by decide)
theorem pick_not {l : ByteArray} (h : readPickB l = true) : ¬ FairP l := fun c => by
  obtain ⟨_, k, hk, this⟩ := readPick_first h
  exact (pickWord_fair hk).1 (this.symm.trans c.2.2.1)
theorem add_parts {s : GScript} {l : ByteArray} (h : addB s l = true) : partsB l = true := by
  unfold addB at h
  split at h
  · rename_i c; exact (readNode_first c).1
  split at h
  · rename_i c; exact (readIn_first c).1
  split at h
  · rename_i c; exact (readPick_first c).1
  · exact (of_decide_eq_true h).1

/-- Is the line left out? -/
def BlankP (l : ByteArray) : Prop := partsB l = true ∧ ((partsL l).length = 0 ∨ byteAt (word0 l) 0 = 35)
instance (l : ByteArray) : Decidable (BlankP l) := by unfold BlankP; infer_instance
/-- A line that opens a script. -/
def HeadP (l : ByteArray) : Prop := partsB l = true ∧ (partsL l).length = 3 ∧ word0 l = (⟨#[103, 114, 97, 112, 104]⟩ : ByteArray) ∧ rdB ((partsL l).getD 1 default) = true ∧ rdB ((partsL l).getD 2 default) = true
instance (l : ByteArray) : Decidable (HeadP l) := by unfold HeadP; infer_instance
abbrev St := Bool × GScript
def stepOk (t : St) (l : ByteArray) : Bool := if BlankP l then true else if t.1 = true then addB t.2 l else decide (HeadP l)
def stepS (t : St) (l : ByteArray) : St :=
  if BlankP l then t else if t.1 = true then (true, addS t.2 l)
  else (true, ⟨⟨t.2.graph.nodes, rdN ((partsL l).getD 1 default), rdN ((partsL l).getD 2 default)⟩, t.2.inputs, t.2.picks, t.2.rounds⟩)
def st0 : St := (false, ⟨⟨[], 0, 0⟩, [], [], 0⟩)
def stAt (L : List ByteArray) (k : Nat) : St := (L.take k).foldl stepS st0
theorem stAt_succ {L : List ByteArray} {k : Nat} (h : k < L.length) : stAt L (k + 1) = stepS (stAt L k) (L.getD k default) := by
  rw [stAt, take_snoc L k h, List.foldl_append]
  rfl
def GoodTo (L : List ByteArray) (k : Nat) : Prop := ∀ j, j < k → stepOk (stAt L j) (L.getD j default) = true
theorem good_succ {L : List ByteArray} {k : Nat} (h : GoodTo L k) (hk : stepOk (stAt L k) (L.getD k default) = true) : GoodTo L (k + 1) := fun j hj => by
  by_cases e : j = k
  · rw [e]; exact hk
  · exact h j (by omega)
def badAt (L : List ByteArray) : Option Nat := (List.range L.length).find? fun k => !stepOk (stAt L k) (L.getD k default)
def readScriptR (x : ByteArray) : GScript × Int :=
  if 12000 < x.size then (default, -1) else
  match badAt (cutB x) with
  | some k => (default, (k : Int) + 1)
  | none => let t := stAt (cutB x) (cutB x).length
    if t.1 = true ∧ graphOk t.2.graph = true then (t.2, 0) else (default, ((cutB x).length : Int) + 1)
theorem readScript_big {x : ByteArray} (h : 12000 < x.size) : readScriptR x = (default, -1) := if_pos h
theorem readScript_bad {x : ByteArray} (h : ¬ 12000 < x.size) {k : Nat} (hk : k < (cutB x).length) (hg : GoodTo (cutB x) k) (hb : stepOk (stAt (cutB x) k) ((cutB x).getD k default) = false) : readScriptR x = (default, (k : Int) + 1) := by
  have e : badAt (cutB x) = some k := List.find?_range_eq_some.2 ⟨by rw [hb]; rfl, List.mem_range.2 hk, fun j hj => by rw [hg j hj]; rfl⟩
  rw [readScriptR, if_neg h, e]
theorem badAt_none {L : List ByteArray} {k : Nat} (hk : k = L.length) (hg : GoodTo L k) : badAt L = none :=
  List.find?_range_eq_none.2 fun j hj => by rw [hg j (by omega)]; rfl
theorem readScript_no {x : ByteArray} (h : ¬ 12000 < x.size) {k : Nat} (hk : k = (cutB x).length) (hg : GoodTo (cutB x) k) (hb : ¬ ((stAt (cutB x) k).1 = true ∧ graphOk (stAt (cutB x) k).2.graph = true)) : readScriptR x = (default, ((cutB x).length : Int) + 1) := by
  rw [readScriptR, if_neg h, badAt_none hk hg]
  subst hk
  exact if_neg hb
theorem readScript_yes {x : ByteArray} (h : ¬ 12000 < x.size) {k : Nat} (hk : k = (cutB x).length) (hg : GoodTo (cutB x) k) (hb : (stAt (cutB x) k).1 = true ∧ graphOk (stAt (cutB x) k).2.graph = true) : readScriptR x = ((stAt (cutB x) k).2, 0) := by
  rw [readScriptR, if_neg h, badAt_none hk hg]
  subst hk
  exact if_pos hb

/-- What is known of a script that is read. -/
def ScOk (s : GScript) : Prop := s.graph.nodes.length ≤ 8 ∧ (∀ x ∈ s.graph.nodes, x.w ≤ 12) ∧ s.inputs.length ≤ 20 ∧ s.picks.length ≤ 200
theorem readNodeV_w12 (s : ByteArray) : (readNodeV s).w ≤ 12 := by
  unfold readNodeV
  split
  · exact readNode_len s 4
  · exact Nat.zero_le _
theorem add_ok {s : GScript} {l : ByteArray} (h : ScOk s) (hb : addB s l = true) : ScOk (addS s l) := by
  obtain ⟨h1, h2, h3, h4⟩ := h
  unfold addB at hb
  unfold addS
  split at hb
  · rename_i c
    rw [if_pos c]
    have := of_decide_eq_true hb
    refine ⟨?_, fun x hx => ?_, h3, h4⟩
    · show (s.graph.nodes ++ [readNodeV l]).length ≤ 8
      rw [List.length_append, List.length_singleton]; omega
    · rcases List.mem_append.1 hx with hx | hx
      · exact h2 x hx
      · rw [List.mem_singleton.1 hx]; exact readNodeV_w12 l
  rename_i c
  rw [if_neg c]
  split at hb
  · rename_i c
    rw [if_pos c]
    have := of_decide_eq_true hb
    refine ⟨h1, h2, ?_, h4⟩
    show (s.inputs ++ [readInV l]).length ≤ 20
    rw [List.length_append, List.length_singleton]; omega
  rename_i c
  rw [if_neg c]
  split at hb
  · rename_i c
    rw [if_pos c]
    have := of_decide_eq_true hb
    refine ⟨h1, h2, h3, ?_⟩
    show (s.picks ++ [readPickV l]).length ≤ 200
    rw [List.length_append, List.length_singleton]; omega
  rename_i c
  rw [if_neg c]
  exact ⟨h1, h2, h3, h4⟩
theorem step_ok {t : St} {l : ByteArray} (h : ScOk t.2) (hb : stepOk t l = true) : ScOk (stepS t l).2 := by
  unfold stepOk at hb
  unfold stepS
  split at hb
  · rename_i c; rw [if_pos c]; exact h
  rename_i c
  rw [if_neg c]
  split at hb
  · rename_i c
    rw [if_pos c]
    exact add_ok h hb
  · rename_i c
    rw [if_neg c]
    exact h
theorem st_ok {L : List ByteArray} : ∀ (k : Nat), k ≤ L.length → GoodTo L k → ScOk (stAt L k).2
  | 0, _, _ => by
    show ScOk st0.2
    exact ⟨Nat.zero_le _, fun x hx => (List.not_mem_nil hx).elim, Nat.zero_le _, Nat.zero_le _⟩
  | k + 1, hk, hg => by
    rw [stAt_succ (by omega)]
    exact step_ok (st_ok k (by omega) fun j hj => hg j (by omega)) (hg k (Nat.lt_succ_self k))
theorem sumW_le {xs : List GNode} (h : ∀ x ∈ xs, x.w ≤ 12) : (xs.map GNode.w).sum ≤ 12 * xs.length := by
  induction xs with
  | nil => exact Nat.le_refl _
  | cons x r ih =>
    have h1 := h x (List.mem_cons_self ..)
    have h2 := ih fun y hy => h y (List.mem_cons_of_mem _ hy)
    rw [List.map_cons, List.sum_cons, List.length_cons]
    omega
theorem ScOk.w {s : GScript} (h : ScOk s) : s.graph.w ≤ 104 ∧ s.w ≤ 324 := by
  obtain ⟨h1, h2, h3, h4⟩ := h
  have := sumW_le h2
  have hg : s.graph.w ≤ 104 := by
    show s.graph.nodes.length + (s.graph.nodes.map GNode.w).sum ≤ 104
    omega
  refine ⟨hg, ?_⟩
  show s.graph.w + s.inputs.length + s.picks.length ≤ 324
  omega

end Go.Proofs.YtcpjpkcahnldfaaGreatDoor
