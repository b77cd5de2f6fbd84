/- A symbolic executor for the model's code, proved sound: part 4. No conditions. -/
import Derived.Test.YteonkhnmlolfgaaGreatDoorEng3

/- Memory that a function made is frozen: from then on it is only read, and it may still be handed back. -/
set_option maxRecDepth 100000
namespace Go.Sx
open Go
open Go.RowKit (Below)
variable {P : Program} {T : List (TypeId × TI)}

/-- The value v in the world that B begins with: memory made since W, that nothing writes any more. -/
structure Frozen (W : World) (B : Base) (c : Cell) (v : Value) (fp : List Nat) : Prop where
  own : OwnRep B.w0 c v fp
  nodup : fp.Nodup
  new : ∀ b ∈ fp, W.heap.size ≤ b
  out : ∀ b ∈ fp, ¬ B.may b
  below : ∀ w, B.rel w → Below W.heap.size W w
  fresh : ∀ b, B.fresh b → W.heap.size ≤ b

theorem Frozen.now {W : World} {B : Base} {c : Cell} {v : Value} {fp : List Nat} (h : Frozen W B c v fp) {w : World} (hr : B.rel w) : OwnRep w c v fp :=
  h.own.move fun b hb => hr.block b (h.own.lt b hb) (h.out b hb)

theorem Frozen.free {W : World} {B : Base} {c : Cell} {v : Value} {fp : List Nat} (h : Frozen W B c v fp) {b : Nat} (hb : b ∈ fp) : ¬ B.fresh b := by
  rintro (h1 | h1)
  · have := h.own.lt b hb
    omega
  · exact h.out b hb h1

theorem Frozen.rep {W : World} {B : Base} {c : Cell} {v : Value} {fp : List Nat} (h : Frozen W B c v fp) {s : AS} {E : Env} {a : Act} {w : World} (hs : s.is B E a w) : Rep w (s.avoid E) c v :=
  (h.now hs.base).rep fun _ hb hav => h.free hb (hs.fresh _ hav)

/-! Freezing. -/

/-! Calls and the return, behind it. -/

/-- The results of a return, each with its memory. -/
structure GivesF (B : Base) (w' : World) (outs : List Arg) (e : Ending) : Prop where
  rel : B.rel w'
  res : ∃ (rs : List Value) (fps : Nat → List Nat), e = .returned (resVal rs) ∧ rs.length = outs.length ∧ (∀ i y, outs[i]? = some y → OwnArg w' y (rs.getD i undef) (fps i)) ∧
    (∀ i, i < outs.length → (fps i).Nodup ∧ ∀ b ∈ fps i, B.fresh b) ∧ ∀ i j, i < outs.length → j < outs.length → i ≠ j → ∀ b ∈ fps i, b ∉ fps j

theorem GivesF.gives {W : World} {B : Base} {c : Cell} {v : Value} {fp : List Nat} (hF : Frozen W B c v fp) {w' : World} {outs : List Arg} {e : Ending} (h : GivesF B w' outs e) : Gives W w' outs e := by
  obtain ⟨h1, rs, fps, h2, h3, h4, h5, h6⟩ := h
  exact ⟨hF.below _ h1, rs, fps, h2, h3, h4, fun i hi => ⟨(h5 i hi).1, fun b hb => hF.fresh b ((h5 i hi).2 b hb)⟩, h6⟩

theorem ret_okF (hT : TblOk P T) {B : Base} {fn : Func} {outs : List Arg} {s : AS} {xs : List AV} (hx : retAV T fn.results.toList s = some xs) (hk : noDup (xs.flatMap keysA) = true) (ho : outAs s.own xs outs) :
    RetG B (bodyPost P fn fun e w' => GivesF B w' outs e) s := by
  intro E a w h
  obtain ⟨vs, h1, h2, h3, h4⟩ := retAV_ok hT h fn.results.toList xs hx
  obtain ⟨g1, g2⟩ := outAs_get ho
  refine ⟨h.defers, resVal vs, ?_, h.base, vs, fun i => (keysA (nth xs i)).flatMap E.fp, rfl, by omega, fun i y hy => ?_, fun i hi => ?_, fun i j hi hj hne b hb hb' => ?_⟩
  · rw [results_eq, Array.mapM_eq_mapM_toList]
    simp only [map_eq_pure_bind, Sem.run_bind, h1, Result.andThen_ok, Sem.run_pure]
    exact congrArg (fun v => Result.ok v w) (resVal_eq vs)
  · obtain ⟨x, hx', hxo⟩ := g2 i y hy
    have := (outA_ok h hxo (h4 i x hx')).1
    have e : nth xs i = x := by rw [nth_get, hx']; rfl
    simp only [e]
    exact this
  · have hi' : i < xs.length := by omega
    have hnd := noDup_spec hk
    have hxi := List.getElem?_eq_getElem hi'
    obtain ⟨x, hx', hxo⟩ := g2 i _ (List.getElem?_eq_getElem hi)
    have hkeys := (outA_ok h hxo (h4 i x hx')).2
    show ((keysA (nth xs i)).flatMap E.fp).Nodup ∧ ∀ b ∈ (keysA (nth xs i)).flatMap E.fp, B.fresh b
    rw [show nth xs i = x by rw [nth_get, hx']; rfl]
    constructor
    · have hsub : (keysA x).Nodup := (nodup_flatMap.1 hnd).1 x (List.mem_of_getElem? hx')
      refine nodup_flatMap.2 ⟨fun k hk' => ?_, ?_⟩
      · obtain ⟨y, hy, rfl⟩ := hkeys k hk'
        exact (h.own y hy).2.2
      · refine List.Pairwise.imp_of_mem ?_ hsub
        intro k j hk' hj' hne b hb hb'
        obtain ⟨y, hy, rfl⟩ := hkeys k hk'
        obtain ⟨z, hz, rfl⟩ := hkeys j hj'
        exact h.sep y hy z hz hne b hb hb'
    · intro b hb
      obtain ⟨k, hk', hb⟩ := List.mem_flatMap.1 hb
      obtain ⟨y, hy, rfl⟩ := hkeys k hk'
      exact h.fresh b (.inr ⟨y, hy, hb⟩)
  · have hi' : i < xs.length := by omega
    have hj' : j < xs.length := by omega
    have hnd := noDup_spec hk
    obtain ⟨x, hx', hxo⟩ := g2 i _ (List.getElem?_eq_getElem hi)
    obtain ⟨z, hz', hzo⟩ := g2 j _ (List.getElem?_eq_getElem hj)
    change b ∈ (keysA (nth xs i)).flatMap E.fp at hb
    change b ∈ (keysA (nth xs j)).flatMap E.fp at hb'
    rw [show nth xs i = x by rw [nth_get, hx']; rfl] at hb
    rw [show nth xs j = z by rw [nth_get, hz']; rfl] at hb'
    obtain ⟨k, hk1, hb⟩ := List.mem_flatMap.1 hb
    obtain ⟨l, hl1, hb'⟩ := List.mem_flatMap.1 hb'
    obtain ⟨y1, hy1, rfl⟩ := (outA_ok h hxo (h4 i x hx')).2 k hk1
    obtain ⟨y2, hy2, rfl⟩ := (outA_ok h hzo (h4 j z hz')).2 l hl1
    by_cases e : y1.key = y2.key
    · have hpw := (nodup_flatMap.1 hnd).2
      have e1 : xs[i] = x := by rw [List.getElem?_eq_getElem hi'] at hx'; exact Option.some.inj hx'
      have e2 : xs[j] = z := by rw [List.getElem?_eq_getElem hj'] at hz'; exact Option.some.inj hz'
      rcases Nat.lt_or_gt_of_ne hne with hlt | hlt
      · have := List.pairwise_iff_getElem.1 hpw i j hi' hj' hlt
        rw [e1, e2] at this
        exact this _ hk1 (e ▸ hl1)
      · have := List.pairwise_iff_getElem.1 hpw j i hj' hi' hlt
        rw [e1, e2] at this
        exact this _ hl1 (e ▸ hk1)
    · exact h.sep y1 hy1 y2 hy2 e b hb hb'

theorem outC_val (own : List Ow) (v : Value) : outC own (.c (.val v)) (.val v) := by
  unfold outC
  split
  · rename_i h; cases h
  · rename_i h
    obtain rfl := Cell.val.inj (AV.c.inj h)
    exact .inl rfl
  · rename_i h
    exact (congrArg Cell.val (Cell.val.inj (AV.c.inj h)))
  · rename_i h1 h2 h3
    exact h3 v rfl

end Go.Sx

/- Contracts of functions that change what a pointer shows, and of functions that are handed values to keep; their results are one of many. -/
set_option maxRecDepth 100000
namespace Go.Sx
open Go
open Go.RowKit (Below)
variable {P : Program} {T : List (TypeId × TI)}

/-- The blocks of some handed values. -/
def allFp (n : Nat) (fps : Nat → List Nat) : List Nat := (List.range n).flatMap fps

/-- Values that are known by name, with what they read as. -/
def PinsAt (w : World) (A : Nat → Prop) (pins : List (Cell × Value)) : Prop := ∀ p ∈ pins, Rep w A p.1 p.2

/-- A contract: xs are handed over, ins are read; the results are those of some i. -/
def MeetsC (P : Program) (H : World → Prop) (f : FuncId) (pins : List (Cell × Value)) (xs ins : List Arg) {ι : Type} (φ : ι → Prop) (outs : ι → List Arg) : Prop :=
  Callable P f ∧ ∀ (w : World) (vs : List Value) (fps : Nat → List Nat) (us : List Value), vs.length = xs.length → (∀ i x, xs[i]? = some x → OwnArg w x (vs.getD i undef) (fps i)) →
    (∀ i, i < xs.length → (fps i).Nodup) → (∀ i j, i < xs.length → j < xs.length → i ≠ j → ∀ b ∈ fps i, b ∉ fps j) →
    (∀ w', Base.rel ⟨w, fun b => b ∈ allFp xs.length fps⟩ w' → H w') → PinsAt w (fun b => b ∈ allFp xs.length fps) pins → us.length = ins.length →
    (∀ i z, ins[i]? = some z → RepArg w (fun b => b ∈ allFp xs.length fps) z (us.getD i undef)) →
    Calls P f (vs ++ us).toArray w fun e w' => ∃ i, φ i ∧ GivesF ⟨w, fun b => b ∈ allFp xs.length fps⟩ w' (outs i) e

/-- What a call gives that was handed the pointer to block b. -/
structure GivesP (B : Base) (b : Nat) (w' : World) (cs : List Cell) (outs : List Arg) (e : Ending) : Prop where
  rel : B.rel w'
  res : ∃ (vs : List Value) (ty : TypeId) (rs : List Value) (fps : Nat → List Nat), e = .returned (resVal rs) ∧ w'.heap[b]? = some (.cells vs.toArray ty (0, 0)) ∧ rs.length = outs.length ∧
    (∀ i y, (Arg.agg cs :: outs)[i]? = some y → OwnArg w' y ((Value.agg vs.toArray :: rs).getD i undef) (fps i)) ∧
    (∀ i, i < outs.length + 1 → (fps i).Nodup ∧ ∀ x ∈ fps i, B.fresh x ∧ x ≠ b) ∧
    ∀ i j, i < outs.length + 1 → j < outs.length + 1 → i ≠ j → ∀ x ∈ fps i, x ∉ fps j

/-! What is known by name. -/

def Pins (B : Base) (pins : List (Cell × Value)) : Prop := PinsAt B.w0 B.may pins

theorem Pins.now {B : Base} {pins : List (Cell × Value)} (h : Pins B pins) {s : AS} {E : Env} {a : Act} {w : World} (hs : s.is B E a w) {A : Nat → Prop} (hA : ∀ b, A b → s.avoid E b) : PinsAt w A pins := by
  intro p hp
  refine (h p hp).move (fun b hm hb => hs.base.block b hb hm) (fun b hb hav => ?_)
  rcases hs.fresh b (hA b hav) with h | h
  · omega
  · exact h

/-! The arguments that are read, beside what is handed over. -/

def argX (own : List Ow) (x : AV) : Option Arg :=
  match x with
  | .agg xs => match argCs own xs with
    | some cs => some (.agg cs)
    | none => none
  | x => match argC own x with
    | some c => some (.one c)
    | none => none

def argsX (own : List Ow) (l : List AV) : Option (List Arg) :=
  match l with
  | [] => some []
  | x :: r => match argX own x with
    | some c => match argsX own r with
      | some cs => some (c :: cs)
      | none => none
    | none => none

theorem argsX_get {own : List Ow} {l : List AV} {cs : List Arg} (h : argsX own l = some cs) : l.length = cs.length ∧ ∀ (i : Nat) (c : Arg), cs[i]? = some c → ∃ x : AV, l[i]? = some x ∧ argX own x = some c := by
  induction l generalizing cs with
  | nil => obtain rfl := Option.some.inj h; simp
  | cons x r ih =>
    unfold argsX at h
    split at h
    · rename_i c hc
      split at h
      · rename_i cs' hcs
        obtain rfl := Option.some.inj h
        obtain ⟨h1, h2⟩ := ih hcs
        refine ⟨by simp [h1], fun i d hd => ?_⟩
        cases i with
        | zero => simp only [List.getElem?_cons_zero, Option.some.injEq] at hd; subst hd; exact ⟨x, by simp, hc⟩
        | succ i => simpa using h2 i d (by simpa using hd)
      · simp at h
    · simp at h

/-- Blocks that are part of the state, but of nothing that is still owned. -/
structure Apart (s : AS) (E : Env) (ks : List Nat) (X : Nat → Prop) : Prop where
  av : ∀ b, X b → s.avoid E b
  own : ∀ y ∈ s.own, y.key ∉ ks → ∀ b ∈ E.fp y.key, ¬ X b

theorem argX_C {B : Base} {E : Env} {s : AS} {a : Act} {w : World} (hs : s.is B E a w) {ks : List Nat} {X : Nat → Prop} (hX : Apart s E ks X) {x : AV} {c : Cell} (hx : argC (remOs ks s.own) x = some c) {v : Value} (hd : Den E w (s.avoid E) s.next x v) : Rep w X c v := by
  unfold argC at hx
  split at hx
  · obtain rfl := Option.some.inj hx
    cases hd with
    | c hr => exact hr.move (fun _ _ _ => rfl) (fun b _ hb => hX.av b hb)
  · cases hd with
    | own hk =>
      obtain ⟨h1, h2⟩ := remOs_mem.1 (getOwn_mem hx)
      exact (hs.own _ h1).2.1.rep (fun b hb => hX.own _ h1 h2 b hb)
  · simp at hx

theorem argX_rep {B : Base} {E : Env} {s : AS} {a : Act} {w : World} (hs : s.is B E a w) {ks : List Nat} {X : Nat → Prop} (hX : Apart s E ks X) {x : AV} {c : Arg} (hx : argX (remOs ks s.own) x = some c) {v : Value} (hd : Den E w (s.avoid E) s.next x v) : RepArg w X c v := by
  unfold argX at hx
  split at hx
  · rename_i xs
    split at hx
    · rename_i cs hcs
      obtain rfl := Option.some.inj hx
      obtain ⟨g1, g2⟩ := argCs_get hcs
      cases hd with
      | agg vs hl hv =>
        refine ⟨vs, rfl, by omega, fun i c hc => ?_⟩
        obtain ⟨y, hy, hyc⟩ := g2 i c hc
        exact argX_C hs hX hyc (hv i y hy)
    · simp at hx
  · split at hx
    · rename_i c' hc
      obtain rfl := Option.some.inj hx
      exact argX_C hs hX hc hd
    · simp at hx

/-! What is handed back. -/

/-- Values of one's own, as a list of results. -/
theorem outs_own {B : Base} {E : Env} {s : AS} {a : Act} {w : World} (h : s.is B E a w) {xs : List AV} {outs : List Arg} {vs : List Value} (h4 : ∀ i x, xs[i]? = some x → Den E w (s.avoid E) s.next x (vs.getD i undef)) (hk : noDup (xs.flatMap keysA) = true) (ho : outAs s.own xs outs) :
    (∀ i y, outs[i]? = some y → OwnArg w y (vs.getD i undef) ((keysA (nth xs i)).flatMap E.fp)) ∧ (∀ i, i < outs.length → ((keysA (nth xs i)).flatMap E.fp).Nodup) ∧ (∀ i, i < outs.length → ∀ k ∈ keysA (nth xs i), ∃ y ∈ s.own, y.key = k) ∧
      ∀ i j, i < outs.length → j < outs.length → i ≠ j → ∀ b ∈ (keysA (nth xs i)).flatMap E.fp, b ∉ (keysA (nth xs j)).flatMap E.fp := by
  obtain ⟨g1, g2⟩ := outAs_get ho
  have hnd := noDup_spec hk
  have hkeys : ∀ i, i < outs.length → ∀ k ∈ keysA (nth xs i), ∃ y ∈ s.own, y.key = k := by
    intro i hi
    obtain ⟨x, hx', hxo⟩ := g2 i _ (List.getElem?_eq_getElem hi)
    rw [show nth xs i = x by rw [nth_get, hx']; rfl]
    exact (outA_ok h hxo (h4 i x hx')).2
  have hsub : ∀ i, i < outs.length → (keysA (nth xs i)).Nodup := by
    intro i hi
    obtain ⟨x, hx', hxo⟩ := g2 i _ (List.getElem?_eq_getElem hi)
    rw [show nth xs i = x by rw [nth_get, hx']; rfl]
    exact (nodup_flatMap.1 hnd).1 x (List.mem_of_getElem? hx')
  refine ⟨fun i y hy => ?_, fun i hi => keys_nodup h (hsub i hi) (hkeys i hi), hkeys, fun i j hi hj hne b hb hb' => ?_⟩
  · obtain ⟨x, hx', hxo⟩ := g2 i y hy
    rw [show nth xs i = x by rw [nth_get, hx']; rfl]
    exact (outA_ok h hxo (h4 i x hx')).1
  · obtain ⟨k, hk1, hb⟩ := List.mem_flatMap.1 hb
    obtain ⟨l, hl1, hb'⟩ := List.mem_flatMap.1 hb'
    obtain ⟨y1, hy1, rfl⟩ := hkeys i hi k hk1
    obtain ⟨y2, hy2, rfl⟩ := hkeys j hj l hl1
    by_cases e : y1.key = y2.key
    · have hpw := (nodup_flatMap.1 hnd).2
      have hi' : i < xs.length := by omega
      have hj' : j < xs.length := by omega
      have e1 : nth xs i = xs[i] := by rw [nth_get, List.getElem?_eq_getElem hi']; rfl
      have e2 : nth xs j = xs[j] := by rw [nth_get, List.getElem?_eq_getElem hj']; rfl
      rw [e1] at hk1
      rw [e2] at hl1
      rcases Nat.lt_or_gt_of_ne hne with hlt | hlt
      · exact List.pairwise_iff_getElem.1 hpw i j hi' hj' hlt _ hk1 (e ▸ hl1)
      · exact List.pairwise_iff_getElem.1 hpw j i hj' hi' hlt _ hl1 (e ▸ hk1)
    · exact h.sep y1 hy1 y2 hy2 e b hb hb'

/-- The return of a function that was handed values to keep. -/
theorem retC (hT : TblOk P T) {B : Base} {fn : Func} {ι : Type} {φ : ι → Prop} {outs : ι → List Arg} {s : AS} {xs : List AV} (i : ι) (hi : φ i) (hx : retAV T fn.results.toList s = some xs) (hk : noDup (xs.flatMap keysA) = true) (ho : outAs s.own xs (outs i)) :
    RW B (bodyPost P fn fun e w' => ∃ i, φ i ∧ GivesF B w' (outs i) e) s :=
  RW.mono (fun _ _ ⟨h1, v, h2, h3⟩ => ⟨h1, v, h2, i, hi, h3⟩) ⟨ret_okF hT hx hk ho⟩

/-! A call that is handed values to keep. -/

def dropK (ks : List Nat) (s : AS) : AS := { s with own := remOs ks s.own }

theorem relOf {B : Base} {s : AS} {E : Env} {a : Act} {w w' : World} {X : Nat → Prop} (hs : s.is B E a w) (hX : ∀ b, X b → s.avoid E b) (hr : Base.rel ⟨w, X⟩ w') : B.rel w' := by
  have hB := hs.base
  refine ⟨hr.os.trans hB.os, hr.tape.trans hB.tape, hr.output.trans hB.output, Nat.le_trans hB.size hr.size, fun k hk hm => ?_⟩
  rw [hr.block k (Nat.lt_of_lt_of_le hk hB.size) (fun hX' => by
    rcases hs.fresh k (hX k hX') with h | h
    · omega
    · exact hm h)]
  exact hB.block k hk hm

theorem kept_of_rel {X : Nat → Prop} {w w' : World} (h : Base.rel ⟨w, X⟩ w') : Kept X w w' := ⟨h.os, h.tape, h.output, h.size, fun k hk hm => h.block k hk hm⟩

theorem callC {B : Base} {Q : Exit → Act → World → Prop} {H : World → Prop} {f : FuncId} {rest : List AV} {dst : Option Tmp} {K : List KI} {s : AS} {pins : List (Cell × Value)} {xs ins : List Arg} {ι : Type} {φ : ι → Prop} {outs : ι → List Arg} (x0s : List AV)
    (hf : MeetsC P H f pins xs ins φ outs) (hH : ∀ w, B.rel w → H w) (hp : Pins B pins) (ho : outAs s.own x0s xs) (hk : noDup (x0s.flatMap keysA) = true) (hx : argsX (remOs (x0s.flatMap keysA) s.own) rest = some ins)
    (h : ∀ i, φ i → GW P B Q K ((addRes (outs i) (dropK (x0s.flatMap keysA) s)).2.put dst (addRes (outs i) (dropK (x0s.flatMap keysA) s)).1)) : CW P B Q false f (x0s ++ rest) dst K s := by
  refine ⟨⟨hf.1, fun E a w hs vs hl hv => ?_⟩⟩
  have hxl := (outAs_get ho).1
  obtain ⟨r1, r2⟩ := argsX_get hx
  have hvl : vs.length = x0s.length + rest.length := by simpa using hl
  have hd1 : ∀ i x, x0s[i]? = some x → Den E w (s.avoid E) s.next x ((vs.take x0s.length).getD i undef) := by
    intro i x hi
    have hil : i < x0s.length := (List.getElem?_eq_some_iff.1 hi).1
    have := hv i x (by rw [List.getElem?_append_left hil]; exact hi)
    simpa [List.getD, List.getElem?_take, hil] using this
  have hd2 : ∀ i x, rest[i]? = some x → Den E w (s.avoid E) s.next x ((vs.drop x0s.length).getD i undef) := by
    intro i x hi
    have := hv (x0s.length + i) x (by rw [List.getElem?_append_right (by omega)]; simpa using hi)
    simpa [List.getD] using this
  obtain ⟨o1, o2, o3, o4⟩ := outs_own hs hd1 hk ho
  let fps : Nat → List Nat := fun i => (keysA (nth x0s i)).flatMap E.fp
  have hin : ∀ b, b ∈ allFp xs.length fps → ∃ k ∈ x0s.flatMap keysA, ∃ y ∈ s.own, y.key = k ∧ b ∈ E.fp k := by
    intro b hb
    obtain ⟨i, hi, hb⟩ := List.mem_flatMap.1 hb
    have hi := List.mem_range.1 hi
    obtain ⟨k, hk1, hb⟩ := List.mem_flatMap.1 hb
    obtain ⟨y, hy, e⟩ := o3 i hi k hk1
    refine ⟨k, List.mem_flatMap.2 ⟨nth x0s i, ?_, hk1⟩, y, hy, e, hb⟩
    have hil : i < x0s.length := by omega
    rw [nth_get, List.getElem?_eq_getElem hil]
    exact List.getElem_mem hil
  have hX : Apart s E (x0s.flatMap keysA) (fun b => b ∈ allFp xs.length fps) := by
    refine ⟨fun b hb => ?_, fun y hy hne b hb hb' => ?_⟩
    · obtain ⟨k, _, y, hy, rfl, hb⟩ := hin b hb
      exact .inr ⟨y, hy, hb⟩
    · obtain ⟨k, hk1, y2, hy2, rfl, hb2⟩ := hin b hb'
      exact hs.sep y hy y2 hy2 (fun e => hne (e ▸ hk1)) b hb hb2
  have e : vs = vs.take x0s.length ++ vs.drop x0s.length := (List.take_append_drop _ _).symm
  rw [e]
  refine (hf.2 w (vs.take x0s.length) fps (vs.drop x0s.length) (by simp; omega) o1 o2 o4 (fun w' hr => hH w' (relOf hs hX.av hr)) (hp.now hs hX.av) (by simp; omega) (fun i z hi => ?_)).mono (fun e w' ⟨i, hi, hg⟩ => ?_)
  · obtain ⟨y, hy, hro⟩ := r2 i z hi
    exact argX_rep hs hX hro (hd2 i y hy)
  · obtain ⟨hrel, rs, gps, rfl, hrl, hro, hfr, hdis⟩ := hg
    have hkept := kept_of_rel hrel
    have hI := hs.drop (x0s.flatMap keysA)
    have hX2 : ∀ b, b ∈ allFp xs.length fps → s.avoid E b ∧ ¬ (dropK (x0s.flatMap keysA) s).avoid E b ∧ B.fresh b := by
      intro b hb
      refine ⟨hX.av b hb, ?_, hs.fresh b (hX.av b hb)⟩
      rintro (⟨u, hu, rfl⟩ | ⟨u, hu, hb'⟩)
      · obtain ⟨k, hk1, y, hy, rfl, hb⟩ := hin _ hb
        exact hs.sepB u hu y hy hb
      · obtain ⟨q1, q2⟩ := remOs_mem.1 hu
        exact hX.own u q1 q2 b hb' hb
    have hI2 := hI.kept hkept hX2
    obtain ⟨E', hAd, hL, hD⟩ := addArgs_ok (outs i) rs gps (dropK (x0s.flatMap keysA) s) E hI2 hrl hro (fun j hj => (hfr j hj).1) hdis (fun j hj b hb => by
      rcases (hfr j hj).2 b hb with h | h
      · refine ⟨.inr h, fun hav => ?_, .inl (Nat.le_trans hs.base.size h)⟩
        have := hs.avoid_lt (hI.sub b hav)
        have h : w.heap.size ≤ b := h
        omega
      · obtain ⟨q1, q2, q3⟩ := hX2 b h
        exact ⟨.inl q1, q2, q3⟩)
    have hres := getD_resVal (outs i) (addArgs (outs i) (dropK (x0s.flatMap keysA) s)).1 rs hrl hL hD
    have h := h i hi
    rw [addRes_eq] at h
    exact ⟨_, rfl, (fun h => by cases h), h.rec fun g => g E' _ w' ((hAd.isA.put dst hres).is)⟩

/-! A call that is handed a pointer. -/

def remB (k : Nat) (l : List Bx) : List Bx :=
  match l with
  | [] => []
  | b :: r => match Nat.beq b.key k with
    | true => remB k r
    | false => b :: remB k r

theorem remB_mem {k : Nat} {l : List Bx} {b : Bx} : b ∈ remB k l ↔ b ∈ l ∧ b.key ≠ k := by
  induction l with
  | nil => simp [remB]
  | cons x r ih =>
    unfold remB
    split
    · rename_i h
      have := Nat.eq_of_beq_eq_true h
      rw [ih]
      constructor
      · rintro ⟨h1, h2⟩; exact ⟨List.mem_cons_of_mem _ h1, h2⟩
      · rintro ⟨h1, h2⟩
        rcases List.mem_cons.1 h1 with rfl | h1
        · exact absurd this h2
        · exact ⟨h1, h2⟩
    · rename_i h
      have hne : x.key ≠ k := fun e => by subst e; simp at h
      simp only [List.mem_cons, ih]
      constructor
      · rintro (rfl | ⟨h1, h2⟩)
        · exact ⟨.inl rfl, hne⟩
        · exact ⟨.inr h1, h2⟩
      · rintro ⟨rfl | h1, h2⟩
        · exact .inl rfl
        · exact .inr ⟨h1, h2⟩

theorem remB_keys {k : Nat} {l : List Bx} (h : (l.map (·.key)).Nodup) : ((remB k l).map (·.key)).Nodup := by
  induction l with
  | nil => simp [remB]
  | cons x r ih =>
    simp only [List.map_cons, List.nodup_cons] at h
    unfold remB
    split
    · exact ih h.2
    · simp only [List.map_cons, List.nodup_cons]
      refine ⟨fun hm => h.1 ?_, ih h.2⟩
      obtain ⟨o, ho, e⟩ := List.mem_map.1 hm
      exact List.mem_map.2 ⟨o, (remB_mem.1 ho).1, e⟩

/-- A block behind a pointer is taken up again. -/
theorem AS.isA.addBox {s : AS} {B : Base} {E : Env} {A : Nat → Prop} {a : Act} {w : World} (h : s.isA B E A a w) {k : Nat} (hk : k < s.next) (hn : ∀ x ∈ s.boxes, x.key ≠ k) {cells : List AV} {vs : Array Value} {ty : TypeId}
    (hb : w.heap[E.β k]? = some (.cells vs ty (0, 0))) (hl : vs.size = cells.length) (hd : ∀ i y, cells[i]? = some y → Den E w A s.next y (vs.getD i undef)) (hav : ¬ s.avoid E (E.β k)) (hA : A (E.β k)) (hf : B.fresh (E.β k)) :
    ({ s with boxes := ⟨k, cells⟩ :: s.boxes } : AS).isA B E A a w := by
  refine ⟨h.defers, h.links, h.size, h.slots, fun x hx => ?_, fun x hx y hy e => ?_, ?_, h.own, h.ownkeys, h.sep, fun x hx y hy => ?_, h.one, h.base, fun b hb' => ?_, fun b hb' => ?_⟩
  · rcases List.mem_cons.1 hx with rfl | hx
    · exact ⟨hk, vs, ty, hb, hl, hd⟩
    · exact h.boxes x hx
  · rcases List.mem_cons.1 hx with rfl | hx <;> rcases List.mem_cons.1 hy with rfl | hy
    · rfl
    · exact absurd (.inl ⟨y, hy, e.symm⟩) hav
    · exact absurd (.inl ⟨x, hx, e⟩) hav
    · exact h.boxes2 x hx y hy e
  · simp only [List.map_cons, List.nodup_cons]
    refine ⟨fun hm => ?_, h.keys⟩
    obtain ⟨y, hy, e⟩ := List.mem_map.1 hm
    exact hn y hy e
  · rcases List.mem_cons.1 hx with rfl | hx
    · exact fun hb' => hav (.inr ⟨y, hy, hb'⟩)
    · exact h.sepB x hx y hy
  · rcases hb' with ⟨x, hx, rfl⟩ | hb'
    · rcases List.mem_cons.1 hx with rfl | hx
      · exact hf
      · exact h.fresh _ (.inl ⟨x, hx, rfl⟩)
    · exact h.fresh _ (.inr hb')
  · rcases hb' with ⟨x, hx, rfl⟩ | hb'
    · rcases List.mem_cons.1 hx with rfl | hx
      · exact hA
      · exact h.sub _ (.inl ⟨x, hx, rfl⟩)
    · exact h.sub _ (.inr hb')

/-- The state without a box and some of what is owned. -/
def dropP (k : Nat) (ks : List Nat) (s : AS) : AS := { s with own := remOs ks s.own, boxes := remB k s.boxes }

theorem AS.is.dropP {s : AS} {B : Base} {E : Env} {a : Act} {w : World} (h : s.is B E a w) (k : Nat) (ks : List Nat) : (Sx.dropP k ks s).isA B E (s.avoid E) a w := by
  have av : ∀ b, (Sx.dropP k ks s).avoid E b → s.avoid E b := by
    rintro b (⟨x, hx, hb⟩ | ⟨y, hy, hb⟩)
    · exact .inl ⟨x, (remB_mem.1 hx).1, hb⟩
    · exact .inr ⟨y, (remOs_mem.1 hy).1, hb⟩
  exact ⟨h.defers, h.links, h.size, h.slots, fun x hx => h.boxes x (remB_mem.1 hx).1, fun x hx y hy => h.boxes2 x (remB_mem.1 hx).1 y (remB_mem.1 hy).1, remB_keys h.keys, fun y hy => h.own y (remOs_mem.1 hy).1, remOs_nodup h.ownkeys,
    fun y hy z hz => h.sep y (remOs_mem.1 hy).1 z (remOs_mem.1 hz).1, fun x hx y hy => h.sepB x (remB_mem.1 hx).1 y (remOs_mem.1 hy).1, h.one, h.base, fun b hb => h.fresh b (av b hb), av⟩

end Go.Sx

/- The entries of functions that are handed a pointer, or values to keep; new blocks behind a pointer; operations on bits. -/
set_option maxRecDepth 100000
namespace Go.Sx
open Go
open Go.RowKit (Below)
variable {P : Program} {T : List (TypeId × TI)}

/-- The slots at a function's entry. -/
theorem den_ins {E : Env} {w : World} {A : Nat → Prop} {N : Nat} {ins : List Arg} {us : List Value} (_hl : us.length = ins.length) (hr : ∀ i z, ins[i]? = some z → RepArg w A z (us.getD i undef)) (i : Nat) (x : AV) (hx : (ins.map argAV)[i]? = some x) : Den E w A N x (us.getD i undef) := by
  simp only [List.getElem?_map, Option.map_eq_some_iff] at hx
  obtain ⟨q, hq, rfl⟩ := hx
  have hr := hr i q hq
  cases q with
  | one c => exact .c hr
  | agg cs =>
    obtain ⟨ws, hu, hul, hur⟩ := hr
    rw [hu]
    refine .agg ws (by simp [hul]) (fun j x hj => ?_)
    simp only [List.getElem?_map, Option.map_eq_some_iff] at hj
    obtain ⟨c, hc, rfl⟩ := hj
    exact .c (hur j c hc)
  | ptr cs => exact RepPtr.den hr (fun _ h => h)
  | fn f caps =>
    obtain ⟨ws, hu, hul, hur⟩ := hr
    rw [hu]
    refine .fn ws (by simp [hul]) (fun j x hj => ?_)
    simp only [List.getElem?_map, Option.map_eq_some_iff] at hj
    obtain ⟨c, hc, rfl⟩ := hj
    have hr := hur j c hc
    cases c with
    | one c => exact .c hr
    | ptr cs => exact RepPtr.den hr (fun _ h => h)

theorem den_slots {E : Env} {w : World} {A : Nat → Prop} {N m : Nat} {ys : List AV} {vs : List Value} (hl : vs.length = ys.length) (hd : ∀ i x, ys[i]? = some x → Den E w A N x (vs.getD i undef)) (i : Nat) (x : AV)
    (hx : (ys ++ List.replicate m .any)[i]? = some x) : Den E w A N x ((vs.toArray ++ Array.replicate m undef).getD i undef) := by
  by_cases hi : i < ys.length
  · rw [List.getElem?_append_left hi] at hx
    have e : (vs.toArray ++ Array.replicate m undef).getD i undef = vs.getD i undef := by
      simp [Array.getD, List.getD, show i < vs.length by omega, show i < vs.length + m by omega]
    rw [e]
    exact hd i x hx
  · rw [List.getElem?_append_right (by omega)] at hx
    rw [List.eq_of_mem_replicate (List.mem_of_getElem? hx)]
    exact .any _

def blankN (n k : Nat) : AS := { next := 0, slots := List.replicate (k + (n - k)) .any, boxes := [], own := [] }

theorem blankN_isA {B : Base} {w : World} {E0 : Env} {A : Nat → Prop} {a : Act} {m : Nat} (hd : a.defers = []) (hs : a.tmps.size = m) {next : Nat} {links : List (Nat × Value)} (hl : ∀ p ∈ links, p.1 < next ∧ E0.ov p.1 = p.2) (h1 : ∀ k, k < next → (E0.ov k).oneCell' = true) (hB : B.rel w) :
    ({ next := next, slots := List.replicate m .any, boxes := [], own := [], links := links } : AS).isA B E0 A a w := by
  have nav : ∀ b, ¬ ({ next := next, slots := List.replicate m .any, boxes := [], own := [], links := links } : AS).avoid E0 b := by
    rintro b (⟨x, hx, _⟩ | ⟨y, hy, _⟩)
    · simp at hx
    · simp at hy
  refine ⟨hd, hl, by simp [hs], fun i x hx => ?_, by simp, by simp, by simp, by simp, by simp, by simp, by simp, h1, hB, fun b hb => absurd hb (nav b), fun b hb => absurd hb (nav b)⟩
  rw [List.eq_of_mem_replicate (List.mem_of_getElem? hx)]
  exact .any _

def startC (n : Nat) (xs ins : List Arg) : AS :=
  match addArgs xs (blankN n (xs.length + ins.length)) with
  | (ys, s) => { s with slots := ys ++ ins.map argAV ++ List.replicate (n - (xs.length + ins.length)) .any }

theorem AS.isA.slotsAt {s : AS} {B : Base} {E : Env} {A : Nat → Prop} {a : Act} {w : World} (h : s.isA B E A a w) {sl : List AV} (hsz : a.tmps.size = sl.length) (hd : ∀ i x, sl[i]? = some x → Den E w A s.next x (a.tmps.getD i undef)) : ({ s with slots := sl } : AS).isA B E A a w :=
  ⟨h.defers, h.links, hsz, hd, h.boxes, h.boxes2, h.keys, h.own, h.ownkeys, h.sep, h.sepB, h.one, h.base, h.fresh, h.sub⟩

theorem enterC (hT : TblOk P T) (wr : Bool) {H : World → Prop} {f : FuncId} {fn : Func} {c : Code} {pins : List (Cell × Value)} {xs ins : List Arg} {ι : Type} {φ : ι → Prop} {outs : ι → List Arg} (hf : P.funcs[f]? = some fn) (hb : fn.body = some c) (hn : (fn.name == "runtime.NumGoroutine") = false)
    (h : ∀ B, (∀ w, B.rel w → H w) → Pins B pins → vcW P B (bodyPost P fn fun e w' => ∃ i, φ i ∧ GivesF B w' (outs i) e) (run0 T wr 100000 [.code c] (startC fn.ntmps xs ins))) : MeetsC P H f pins xs ins φ outs := by
  refine ⟨⟨fn, hf, hn, by simp [hb]⟩, fun w vs fps us hvl ho hnd hdis hH hp hul hro => calls_of_wp hf hb ?_⟩
  let B : Base := ⟨w, fun b => b ∈ allFp xs.length fps⟩
  have hrel : B.rel w := ⟨rfl, rfl, rfl, Nat.le_refl _, fun _ _ _ => rfl⟩
  let a : Act := { tmps := (vs ++ us).toArray ++ Array.replicate (fn.ntmps - (vs ++ us).toArray.size) undef, defers := [] }
  have hsz : a.tmps.size = xs.length + ins.length + (fn.ntmps - (xs.length + ins.length)) := by simp [a, hvl, hul]
  let E0 : Env := ⟨fun _ => .slice none 0 0, fun _ => []⟩
  have h0 : (blankN fn.ntmps (xs.length + ins.length)).isA B E0 (fun b => b ∈ allFp xs.length fps) a w := blankN_isA rfl hsz (by simp) (fun _ _ => rfl) hrel
  have nav : ∀ b, ¬ (blankN fn.ntmps (xs.length + ins.length)).avoid E0 b := by
    rintro b (⟨x, hx, _⟩ | ⟨y, hy, _⟩)
    · simp [blankN] at hx
    · simp [blankN] at hy
  obtain ⟨E', hA, hL, hD⟩ := addArgs_ok xs vs fps (blankN fn.ntmps (xs.length + ins.length)) E0 h0 hvl ho hnd hdis (fun i hi b hb' => ⟨List.mem_flatMap.2 ⟨i, List.mem_range.2 hi, hb'⟩, nav b, .inr (List.mem_flatMap.2 ⟨i, List.mem_range.2 hi, hb'⟩)⟩)
  have hS := hA.isA.slotsAt (sl := (addArgs xs (blankN fn.ntmps (xs.length + ins.length))).1 ++ ins.map argAV ++ List.replicate (fn.ntmps - (xs.length + ins.length)) .any) (by rw [hsz]; simp [hL]; try omega) (fun i x hx => by
    have hk : fn.ntmps - (xs.length + ins.length) = fn.ntmps - (vs ++ us).toArray.size := by simp [hvl, hul]
    rw [hk] at hx
    refine den_slots (vs := vs ++ us) (by simp [hL, hvl, hul]) (fun j y hj => ?_) i x hx
    by_cases hjl : j < xs.length
    · rw [List.getElem?_append_left (by rw [hL]; exact hjl)] at hj
      have := hD j y hj
      rwa [show (vs ++ us).getD j undef = vs.getD j undef by simp [List.getD, List.getElem?_append_left (show j < vs.length by omega)]]
    · rw [List.getElem?_append_right (by rw [hL]; omega), hL] at hj
      have := den_ins (E := E') (N := (addArgs xs (blankN fn.ntmps (xs.length + ins.length))).2.next) hul hro _ y hj
      rwa [show (vs ++ us).getD j undef = us.getD (j - xs.length) undef by simp [List.getD, List.getElem?_append_right (show vs.length ≤ j by omega), hvl]])
  exact (go hT wr (h B hH hp)).out E' a w hS.is

/-! A function that makes a block and gives the pointer to it. -/

structure GivesN (w w' : World) (cs : List Cell) (e : Ending) : Prop where
  below : Below w.heap.size w w'
  res : ∃ (b : Nat) (vs : List Value) (ty : TypeId) (fp : List Nat), e = .returned (.pointer (some ⟨b, 0, none⟩)) ∧ w.heap.size ≤ b ∧ w'.heap[b]? = some (.cells vs.toArray ty (0, 0)) ∧ OwnArg w' (.agg cs) (.agg vs.toArray) fp ∧ fp.Nodup ∧ b ∉ fp ∧ ∀ x ∈ fp, w.heap.size ≤ x

/-! The bytes behind a named value; operations on bits. -/

end Go.Sx

/- Regions that draw their order, walked operation by operation: for calls that change what a pointer shows. -/
set_option maxRecDepth 100000
namespace Go.Sx
open Go
open Go.RowKit (Below)
variable {P : Program} {T : List (TypeId × TI)}

/-- It ends, and then N holds. -/
def QN (N : Act → World → Prop) : Exit → Act → World → Prop
  | .normal, a, w => N a w
  | _, _, _ => False

def QF : Exit → Act → World → Prop := fun _ _ _ => False

/-- What is left of a region. -/
inductive AW (P : Program) (B : Base) (N : Act → World → Prop) (ops : Array Oper) (fuel : Nat) (listed : Array Bool) (s : AS) : Prop
  | mk (h : ∀ E a w, s.is B E a w → wpAny P .any ops (QN N) fuel listed a w) : AW P B N ops fuel listed s

theorem AW.out {B : Base} {N : Act → World → Prop} {ops : Array Oper} {fuel : Nat} {listed : Array Bool} {s : AS} (h : AW P B N ops fuel listed s) : ∀ E a w, s.is B E a w → wpAny P .any ops (QN N) fuel listed a w := h.rec fun h => h

def eqL (a b : List Nat) : Bool :=
  match a, b with
  | [], [] => true
  | x :: a, y :: b => match Nat.beq x y with
    | true => eqL a b
    | false => false
  | _, _ => false
theorem eqL_eq {a b : List Nat} (h : eqL a b = true) : a = b := by
  induction a generalizing b with
  | nil => cases b <;> simp_all [eqL]
  | cons x a ih =>
    cases b with
    | nil => simp [eqL] at h
    | cons y b =>
      unfold eqL at h
      split at h
      · rename_i e; rw [Nat.eq_of_beq_eq_true e, ih h]
      · simp at h

/-- Operations that look at no world. -/
def pureOp : Op → Bool
  | .move _ => true
  | .assign _ => true
  | .binOp _ _ _ _ _ => true
  | .fieldAddr _ _ _ => true
  | .nilCheck _ => true
  | _ => false

theorem step_pure (hT : TblOk P T) {wr : Bool} {s : AS} {op : Op} {ps : List Prop} {x : AV} (hp0 : pureOp op = true) (hs : step T wr s op = .ok ps x) (hp : ∀ p ∈ ps, p) {B : Base} {E : Env} {a : Act} {w : World} (h : s.is B E a w)
    (o : Oper) (ho : o.op = op) : ∃ v, (∀ w', (execOp a.eval o).run P w' = .ok (.value v) w') ∧ Den E w (s.avoid E) s.next x v := by
  obtain ⟨dst, op', ty, pos, after, guard⟩ := o
  simp only at ho
  subst ho
  cases op' <;> simp only [pureOp, Bool.false_eq_true] at hp0
  case move y =>
    simp only [step, Step.ok.injEq] at hs
    obtain ⟨rfl, rfl⟩ := hs
    exact ⟨a.eval y, fun w' => by simp [execOp], h.ev y⟩
  case assign y =>
    simp only [step, Step.ok.injEq] at hs
    obtain ⟨rfl, rfl⟩ := hs
    exact ⟨a.eval y, fun w' => by simp [execOp], h.ev y⟩
  case binOp b t y z g =>
    simp only [step] at hs
    obtain ⟨r, h1, h2⟩ := bin_ok hT hs hp (h.ev y) (h.ev z) y z
    refine ⟨r, fun w' => ?_, h2⟩
    have h1 := h1 w'
    simp only [execOp, Sem.run_bind]
    simp only [Sem.run_bind] at h1
    rw [h1]
    rfl
  case fieldAddr t y f =>
    simp only [step] at hs
    have hy := h.ev y
    split at hs
    · rename_i o u hf
      split at hs
      · rename_i k off hsz e
        obtain ⟨j, hj, hjs⟩ := Option.map_eq_some_iff.1 hsz
        rw [e] at hy
        simp only [Step.ok.injEq] at hs
        obtain ⟨rfl, rfl⟩ := hs
        generalize hv : a.eval y = v at hy
        cases hy with
        | box _ hk => exact ⟨_, fun w' => by simp only [execOp, hv, Sem.run_bind, run_fieldAt hT hf hj (Nat.le_of_ble_eq_true hjs), Result.andThen_ok]; rfl, .box _ hk⟩
      · rename_i n es row j' off hsz e
        obtain ⟨j, hj, hjs⟩ := Option.map_eq_some_iff.1 hsz
        rw [e] at hy
        simp only [Step.ok.injEq] at hs
        obtain ⟨rfl, rfl⟩ := hs
        generalize hv : a.eval y = v at hy
        cases hy with
        | el _ b o' cap hr h0 hi => exact ⟨_, fun w' => by simp only [execOp, hv, Sem.run_bind, run_fieldAt hT hf hj (Nat.le_of_ble_eq_true hjs), Result.andThen_ok]; rfl, by rw [Nat.add_assoc]; exact .el _ b o' cap hr h0 hi⟩
      · rename_i k es j' off hsz e
        obtain ⟨j, hj, hjs⟩ := Option.map_eq_some_iff.1 hsz
        rw [e] at hy
        simp only [Step.ok.injEq] at hs
        obtain ⟨rfl, rfl⟩ := hs
        generalize hv : a.eval y = v at hy
        cases hy with
        | oel _ b o' n cap hk hov h0 hi => exact ⟨_, fun w' => by simp only [execOp, hv, Sem.run_bind, run_fieldAt hT hf hj (Nat.le_of_ble_eq_true hjs), Result.andThen_ok]; rfl, by rw [Nat.add_assoc]; exact .oel _ b o' n cap hk hov h0 hi⟩
      · simp at hs
    · simp at hs
  case nilCheck y =>
    simp only [step] at hs
    have hy := h.ev y
    split at hs
    · rename_i k off e
      rw [e] at hy
      simp only [Step.ok.injEq] at hs
      obtain ⟨rfl, rfl⟩ := hs
      generalize hv : a.eval y = v at hy
      cases hy with
      | box _ hk => exact ⟨_, fun w' => by simp only [execOp, hv]; rfl, .box _ hk⟩
    · rename_i n es row j off e
      rw [e] at hy
      simp only [Step.ok.injEq] at hs
      obtain ⟨rfl, rfl⟩ := hs
      generalize hv : a.eval y = v at hy
      cases hy with
      | el _ b o' cap hr h0 hi => exact ⟨_, fun w' => by simp only [execOp, hv]; rfl, .el _ b o' cap hr h0 hi⟩
    · rename_i k es j off e
      rw [e] at hy
      simp only [Step.ok.injEq] at hs
      obtain ⟨rfl, rfl⟩ := hs
      generalize hv : a.eval y = v at hy
      cases hy with
      | oel _ b o' n cap hk hov h0 hi => exact ⟨_, fun w' => by simp only [execOp, hv]; rfl, .oel _ b o' n cap hk hov h0 hi⟩
    · simp at hs


def andL (ps : List Prop) : Prop :=
  match ps with
  | [] => True
  | p :: r => p ∧ andL r
theorem andL_mem {ps : List Prop} (h : andL ps) : ∀ p ∈ ps, p := by
  induction ps with
  | nil => simp
  | cons q r ih =>
    intro p hp
    rcases List.mem_cons.1 hp with rfl | hp
    · exact h.1
    · exact ih h.2 p hp


/-- Before a call: what is owned is described otherwise. -/
theorem castC {B : Base} {Q : Exit → Act → World → Prop} {q : Bool} {f : FuncId} {xs : List AV} {dst : Option Tmp} {K : List KI} {s : AS} (k : Nat) (c' : Cell) {c : Cell} (hk : getOwn s.own k = some c) (hc : CastOk c c')
    (h : CW P B Q q f xs dst K { s with own := setOw s.own k c' }) : CW P B Q q f xs dst K s := by
  obtain ⟨h0, h⟩ := h
  refine ⟨⟨h0, fun E a w hs vs hl hv => ?_⟩⟩
  have hm := getOwn_mem hk
  have av : ∀ b, ({ s with own := setOw s.own k c' } : AS).avoid E b → s.avoid E b := by
    rintro b (hb | ⟨y, hy, hb⟩)
    · exact .inl hb
    · obtain ⟨z, hz, e⟩ := setOw_key hy
      exact .inr ⟨z, hz, by rw [e]; exact hb⟩
  have mv : ∀ x v, Den E w (s.avoid E) s.next x v → Den E w (({ s with own := setOw s.own k c' } : AS).avoid E) s.next x v := fun x v hx =>
    hx.move (Nat.le_refl _) (fun _ _ => ⟨rfl, rfl⟩) (fun _ _ _ => rfl) (fun b _ hb => av b hb)
  refine h E a w ⟨hs.defers, hs.links, hs.size, fun i x hx => mv _ _ (hs.slots i x hx), fun x hx => ?_, hs.boxes2, hs.keys, fun y hy => ?_, by rw [setOw_keys]; exact hs.ownkeys, fun y hy z hz hne => ?_, fun x hx y hy => ?_, hs.one, hs.base, fun b hb => hs.fresh b (av b hb)⟩ vs hl (fun i x hx => mv _ _ (hv i x hx))
  · obtain ⟨h1, vs, ty, h2, h3, h4⟩ := hs.boxes x hx
    exact ⟨h1, vs, ty, h2, h3, fun i y hy => mv _ _ (h4 i y hy)⟩
  · rcases setOw_mem hy with ⟨h1, h2, _⟩ | ⟨h1, _⟩
    · obtain ⟨g1, g2, g3⟩ := hs.own _ hm
      rw [h1, h2]
      exact ⟨g1, hc.own g2, g3⟩
    · exact hs.own y h1
  · obtain ⟨y', hy', e1⟩ := setOw_key hy
    obtain ⟨z', hz', e2⟩ := setOw_key hz
    rw [← e1, ← e2]
    exact hs.sep y' hy' z' hz' (by rw [e1, e2]; exact hne)
  · obtain ⟨y', hy', e1⟩ := setOw_key hy
    rw [← e1]
    exact hs.sepB x hx y' hy'

/-- The rows of a list that is written out. -/
def rowsAre {α : Type} (e : α → List Cell) (row : Nat → List Cell) : Nat → List α → Prop
  | _, [] => True
  | k, x :: r => row k = e x ∧ rowsAre e row (k + 1) r

theorem rowsAre_get {α : Type} [Inhabited α] {e : α → List Cell} {row : Nat → List Cell} : ∀ {k : Nat} {xs : List α}, rowsAre e row k xs → ∀ i, i < xs.length → row (k + i) = e (xs.getD i default)
  | _, [], _, i, hi => by simp at hi
  | k, x :: r, h, 0, _ => h.1
  | k, x :: r, h, i + 1, hi => by
    have := rowsAre_get h.2 i (by simpa using hi)
    rw [show k + (i + 1) = k + 1 + i by omega]
    simpa using this

theorem cast_rows {α : Type} [Inhabited α] {n es : Nat} {e : α → List Cell} {row : Nat → List Cell} {xs : List α} (hn : n = xs.length) (h : rowsAre e row 0 xs) : CastOk (.sl n es row) (slC es e xs) := by
  subst hn
  refine cast_slC fun i hi => ?_
  have := rowsAre_get h i hi
  rw [Nat.zero_add] at this
  rw [this]
  exact CastL.rfl' _


theorem remOs_nil (l : List Ow) : remOs [] l = l := by
  induction l with
  | nil => rfl
  | cons x r ih => exact congrArg (x :: ·) ih

end Go.Sx

/- Contracts under a condition on memory, called from functions that may change what came in. -/
set_option maxRecDepth 100000
namespace Go.Sx
open Go
open Go.RowKit (Below)
variable {P : Program} {T : List (TypeId × TI)}

end Go.Sx

/- A region that draws its order, in which empty slices are made at any time beside a chain of operations: the empties float. -/
set_option maxRecDepth 100000
namespace Go.Sx
open Go
open Go.RowKit (Below)
variable {P : Program} {T : List (TypeId × TI)} {ops : Array Oper}

/-- An operation that floats: it makes an empty slice, or it reads a cell of a box that holds a named value. -/
inductive FK where
  | emp (es : Nat)
  | rd (v : Value)
  | ra (vs : List Value)
structure Flt where
  i : Nat
  d : Tmp
  k : FK

def opEmp (T : List (TypeId × TI)) (op : Op) : Bool :=
  match op with
  | .buildSlice t 0 ps => ps.isEmpty && match find T t with
    | some i => match i.elem with
      | some e => (find T e).isSome
      | none => false
    | none => false
  | _ => false

theorem emp_run (hT : TblOk P T) {o : Oper} (h : opEmp T o.op = true) (ρ : Operand → Value) (w : World) : ∃ ob, (execOp ρ o).run P w = .ok (.value (.slice (some ⟨w.heap.size, 0, none⟩) 0 0)) (w.alloc ob) := by
  obtain ⟨dst, op, ty, pos, after, guard⟩ := o
  simp only at h
  unfold opEmp at h
  split at h
  · rename_i t ps
    simp only [Bool.and_eq_true] at h
    obtain ⟨h1, h2⟩ := h
    split at h2
    · rename_i i hi
      split at h2
      · rename_i e he
        obtain ⟨j, hj⟩ := Option.isSome_iff_exists.1 h2
        have hps : ps = #[] := by simpa using h1
        subst hps
        refine ⟨.cells #[] e, ?_⟩
        have hrun : (Instr.buildSlice t 0 ((#[] : Array (Nat × Operand)).map fun p => (p.1, ρ p.2))).run P w = .ok (.slice (some ⟨w.heap.size, 0, none⟩) 0 0) (w.alloc (.cells #[] e)) := by
          simp [Instr.buildSlice, run_underlying (run_elem_ti (hT t i hi) he), run_sizeOf_ti (hT e j hj), newRow, Array.range_zero', Instr.fill]
        simp only [execOp, Sem.run_bind, hrun, Result.andThen_ok]
        rfl
      · simp at h2
    · simp at h2
  · simp at h

def isEmp (v : Value) : Prop := ∃ b, v = .slice (some ⟨b, 0, none⟩) 0 0

def isF (k : FK) (v : Value) : Prop :=
  match k with
  | .emp _ => isEmp v
  | .rd x => v = x
  | .ra xs => v = .agg xs.toArray

def FInv (fs : List Flt) (u : List Nat) (a : Act) : Prop := ∀ f ∈ fs, f.i ∉ u → isF f.k (a.tmps.getD f.d undef)

/-- What is left: a chain, in this order, and empties that may come at any time. -/
inductive FW (P : Program) (B : Base) (N : Act → World → Prop) (ops : Array Oper) (chain : List Nat) (fs : List Flt) (s : AS) : Prop
  | mk (h : ∀ fuel listed u E a w, s.is B E a w → chain.length + u.length ≤ fuel → u.Nodup →
      (∀ j o, ops[j]? = some o → listed.getD j false = false → j ∈ chain ∨ j ∈ u) → (∀ c ∈ chain, listed.getD c true = false) → (∀ j ∈ u, listed.getD j true = false) →
      (∀ j ∈ u, ∃ f ∈ fs, f.i = j) → FInv fs u a → anyM P ops N fuel listed a w) : FW P B N ops chain fs s

theorem FW.out {B : Base} {N : Act → World → Prop} {chain : List Nat} {fs : List Flt} {s : AS} (h : FW P B N ops chain fs s) : ∀ fuel listed u E a w, s.is B E a w → chain.length + u.length ≤ fuel → u.Nodup →
      (∀ j o, ops[j]? = some o → listed.getD j false = false → j ∈ chain ∨ j ∈ u) → (∀ c ∈ chain, listed.getD c true = false) → (∀ j ∈ u, listed.getD j true = false) →
      (∀ j ∈ u, ∃ f ∈ fs, f.i = j) → FInv fs u a → anyM P ops N fuel listed a w := h.rec fun h => h

def edgesIn (ops : Array Oper) (l : List Edge) (bad : Nat → Bool) : Bool := l.all fun e => !Region.binds .any e || (Nat.blt e.on ops.size && !bad e.on)

def fltOk (T : List (TypeId × TI)) (ops : Array Oper) (chain : List Nat) (fs : List Flt) (s : AS) (f : Flt) : Bool :=
  match ops[f.i]? with
  | some o => o.guard.isNone && (match o.dst with | some d => Nat.beq d f.d | none => false) && (match f.k with | .emp _ => opEmp T o.op | _ => true) && edgesIn ops o.after.toList (fun k => chain.contains k || fs.any fun g => Nat.beq g.i k) &&
      !chain.contains f.i && (fs.all fun g => Nat.beq g.i f.i || !Nat.beq g.d f.d) && Nat.blt f.d s.slots.length && (match nth s.slots f.d with | .any => true | _ => false)
  | none => false

def fltsOk (T : List (TypeId × TI)) (ops : Array Oper) (chain : List Nat) (fs : List Flt) (s : AS) : Bool := fs.all (fltOk T ops chain fs s) && noDup (fs.map (·.i))
theorem fltsOk_all {chain : List Nat} {fs : List Flt} {s : AS} (h : fltsOk T ops chain fs s = true) : fs.all (fltOk T ops chain fs s) = true := by
  simp only [fltsOk, Bool.and_eq_true] at h
  exact h.1
theorem fltsOk_dis {chain : List Nat} {fs : List Flt} {s : AS} (h : fltsOk T ops chain fs s = true) : ∀ g ∈ fs, ∀ f ∈ fs, g ≠ f → g.i ≠ f.i := by
  simp only [fltsOk, Bool.and_eq_true] at h
  have hn := noDup_spec h.2
  intro g hg f hf hne e
  obtain ⟨i, hi, rfl⟩ := List.getElem_of_mem hg
  obtain ⟨j, hj, rfl⟩ := List.getElem_of_mem hf
  by_cases hij : i = j
  · subst hij; exact hne rfl
  · have h1 := List.pairwise_iff_getElem.1 hn
    rcases Nat.lt_or_gt_of_ne hij with hl | hl
    · exact h1 i j (by simpa using hi) (by simpa using hj) hl (by simpa using e)
    · exact h1 j i (by simpa using hj) (by simpa using hi) hl (by simpa using e.symm)

structure FltOk (T : List (TypeId × TI)) (ops : Array Oper) (chain : List Nat) (fs : List Flt) (s : AS) (f : Flt) (o : Oper) : Prop where
  get : ops[f.i]? = some o
  guard : o.guard = none
  dst : o.dst = some f.d
  emp : (match f.k with | .emp _ => opEmp T o.op | _ => true) = true
  edges : ∀ e ∈ o.after, Region.binds .any e = true → e.on < ops.size ∧ e.on ∉ chain ∧ ∀ g ∈ fs, g.i ≠ e.on
  out : f.i ∉ chain
  apart : ∀ g ∈ fs, g.i ≠ f.i → g.d ≠ f.d
  lt : f.d < s.slots.length
  any : nth s.slots f.d = .any

theorem fltOk_spec {chain : List Nat} {fs : List Flt} {s : AS} {f : Flt} (h : fltOk T ops chain fs s f = true) : ∃ o, FltOk T ops chain fs s f o := by
  unfold fltOk at h
  split at h
  · rename_i o ho
    simp only [Bool.and_eq_true] at h
    obtain ⟨⟨⟨⟨⟨⟨⟨h1, h2⟩, h3⟩, h4⟩, h5⟩, h6⟩, h7⟩, h8⟩ := h
    refine ⟨o, ho, by simpa using h1, ?_, h3, fun e he hb => ?_, by simpa using h5, fun g hg hne => ?_, Nat.le_of_ble_eq_true h7, ?_⟩
    · split at h2
      · rename_i d hd; rw [hd, Nat.eq_of_beq_eq_true h2]
      · simp at h2
    · have := List.all_eq_true.1 h4 e (Array.mem_toList_iff.2 he)
      simp only [hb, Bool.not_true, Bool.false_or, Bool.and_eq_true, Bool.not_eq_true', Bool.or_eq_false_iff, List.any_eq_false] at this
      obtain ⟨k1, k2, k3⟩ := this
      refine ⟨by have := Nat.le_of_ble_eq_true k1; omega, by simpa using k2, fun g hg e => k3 g hg (by simp [e])⟩
    · have := List.all_eq_true.1 h6 g hg
      simp only [Bool.or_eq_true, Bool.not_eq_true'] at this
      rcases this with h | h
      · exact absurd (Nat.eq_of_beq_eq_true h) hne
      · intro e
        rw [e] at h
        simp at h
    · split at h8
      · assumption
      · simp at h8
  · simp at h

/-- What is read, is read at any time. -/
def rdsOk (T : List (TypeId × TI)) (ops : Array Oper) (s : AS) (fs : List Flt) : Prop :=
  match fs with
  | [] => True
  | f :: r => (match f.k with
    | .emp _ => True
    | .rd v => ∃ o, ops[f.i]? = some o ∧ step T false s o.op = .ok [] (.v v) ∧ oneCells [v] = true
    | .ra vs => ∃ o, ops[f.i]? = some o ∧ step T false s o.op = .ok [] (.agg (vs.map AV.v)) ∧ ∀ v ∈ vs, oneCells [v] = true) ∧ rdsOk T ops s r

theorem rdsOk_mem {s : AS} {fs : List Flt} (h : rdsOk T ops s fs) {f : Flt} (hf : f ∈ fs) {v : Value} (hk : f.k = .rd v) {o : Oper} (ho : ops[f.i]? = some o) : step T false s o.op = .ok [] (.v v) ∧ oneCells [v] = true := by
  induction fs with
  | nil => simp at hf
  | cons g r ih =>
    rcases List.mem_cons.1 hf with rfl | hf
    · have h1 := h.1
      rw [hk] at h1
      obtain ⟨o', h2, h3⟩ := h1
      rw [ho] at h2
      obtain rfl := Option.some.inj h2
      exact h3
    · exact ih h.2 hf

theorem rdsOk_memA {s : AS} {fs : List Flt} (h : rdsOk T ops s fs) {f : Flt} (hf : f ∈ fs) {vs : List Value} (hk : f.k = .ra vs) {o : Oper} (ho : ops[f.i]? = some o) : step T false s o.op = .ok [] (.agg (vs.map AV.v)) ∧ ∀ v ∈ vs, oneCells [v] = true := by
  induction fs with
  | nil => simp at hf
  | cons g r ih =>
    rcases List.mem_cons.1 hf with rfl | hf
    · have h1 := h.1
      rw [hk] at h1
      obtain ⟨o', h2, h3⟩ := h1
      rw [ho] at h2
      obtain rfl := Option.some.inj h2
      exact h3
    · exact ih h.2 hf

theorem den_aggV {E : Env} {w : World} {A : Nat → Prop} {N : Nat} {vs : List Value} {v : Value} (h : Den E w A N (.agg (vs.map AV.v)) v) : v = .agg vs.toArray := by
  cases h with
  | agg us hl hu =>
    have : us = vs := by
      apply List.ext_getElem
      · simpa using hl
      · intro i h1 h2
        have := hu i (.v vs[i]) (by simp [h2])
        have := den_int this
        simpa [List.getD, h1] using this
    rw [this]

theorem setNth_any {l : List AV} {i : Nat} (h : nth l i = .any) : setNth l i .any = l := by
  induction l generalizing i with
  | nil => rfl
  | cons x r ih => cases i with
    | zero => simp only [nth] at h; simp [setNth, h]
    | succ i => simp only [nth] at h; simp [setNth, ih h]

theorem AS.is.putAny {s : AS} {B : Base} {E : Env} {a : Act} {w : World} (h : s.is B E a w) {d : Tmp} (hd : nth s.slots d = .any) (v : Value) : s.is B E (a.put (some d) v) w := by
  have := h.put (some d) (x := .any) (v := v) (.any v)
  have e : s.put (some d) .any = s := by simp only [AS.put, setNth_any hd]
  rwa [e] at this

theorem getD_put {a : Act} {d : Tmp} {v : Value} (h : d < a.tmps.size) : (a.put (some d) v).tmps.getD d undef = v := by
  simp [Act.put, Array.getD, Array.size_setIfInBounds, h]
theorem getD_put_ne {a : Act} {d d' : Tmp} {v : Value} (h : d ≠ d') : (a.put (some d) v).tmps.getD d' undef = a.tmps.getD d' undef := by
  simp only [Act.put, Array.getD, Array.size_setIfInBounds]
  by_cases h' : d' < a.tmps.size
  · simp [h', h]
  · simp [h']

theorem getD_tf {l : Array Bool} {j : Nat} (h : l.getD j true = false) : l.getD j false = false := by
  by_cases hj : j < l.size
  · simp only [Array.getD, hj, dite_true] at h ⊢; exact h
  · simp [Array.getD, hj]

/-- An empty is made. -/
theorem float_step (hT : TblOk P T) {B : Base} {N : Act → World → Prop} {chain : List Nat} {fs : List Flt} {s : AS} (hF : fltsOk T ops chain fs s = true) (hR : rdsOk T ops s fs) {fuel : Nat}
    (ih : ∀ listed u E a w, s.is B E a w → chain.length + u.length ≤ fuel → u.Nodup →
      (∀ j o, ops[j]? = some o → listed.getD j false = false → j ∈ chain ∨ j ∈ u) → (∀ c ∈ chain, listed.getD c true = false) → (∀ j ∈ u, listed.getD j true = false) →
      (∀ j ∈ u, ∃ f ∈ fs, f.i = j) → FInv fs u a → anyM P ops N fuel listed a w)
    {listed : Array Bool} {u : List Nat} {E : Env} {a : Act} {w : World} (hs : s.is B E a w) (hl : chain.length + u.length ≤ fuel + 1) (hnd : u.Nodup)
    (hun : ∀ j o, ops[j]? = some o → listed.getD j false = false → j ∈ chain ∨ j ∈ u) (hch : ∀ c ∈ chain, listed.getD c true = false) (hul : ∀ j ∈ u, listed.getD j true = false)
    (huf : ∀ j ∈ u, ∃ f ∈ fs, f.i = j) (hI : FInv fs u a) {j : Nat} (hj : j ∈ u) : opM P ops j (anyM P ops N fuel (listed.setIfInBounds j true)) a w := by
  obtain ⟨f, hf, rfl⟩ := huf j hj
  have hD := fltsOk_dis hF
  have hF := fltsOk_all hF
  obtain ⟨o, O⟩ := fltOk_spec (List.all_eq_true.1 hF f hf)
  have hrun : ∃ v w', (execOp a.eval o).run P w = .ok (.value v) w' ∧ Below w.heap.size w w' ∧ isF f.k v := by
    have hemp := O.emp
    cases hk : f.k with
    | emp es =>
      rw [hk] at hemp
      obtain ⟨ob, hrun⟩ := emp_run hT hemp a.eval w
      exact ⟨_, _, hrun, below_alloc w ob, ⟨_, rfl⟩⟩
    | rd x =>
      obtain ⟨v, h1, h2⟩ := step_ok hT (rdsOk_mem hR hf hk O.get).1 (fun p hp => by cases hp) hs o rfl
      have := den_int h2
      subst this
      exact ⟨_, _, h1 w (Kept0.refl w), Below.refl _ _, rfl⟩
    | ra xs =>
      obtain ⟨v, h1, h2⟩ := step_ok hT (rdsOk_memA hR hf hk O.get).1 (fun p hp => by cases hp) hs o rfl
      have := den_aggV h2
      subst this
      exact ⟨_, _, h1 w (Kept0.refl w), Below.refl _ _, rfl⟩
  obtain ⟨v, w', hrun, hbel, hv⟩ := hrun
  unfold opM
  simp only [O.get]
  have hw : Region.wanted o (yielded ops a.tmps) = true := by simp [Region.wanted, O.guard]
  simp only [hw, if_true]
  unfold doneM
  rw [hrun]
  refine ⟨fun _ => Kept0.of_below hbel, ?_⟩
  rw [O.dst]
  have hs' := ((hs.call hbel).is).putAny O.any v
  have hsz : f.d < a.tmps.size := by rw [hs.size]; exact O.lt
  refine ih _ (u.erase f.i) E _ _ hs' (by rw [List.length_erase_of_mem hj]; have := List.length_pos_of_mem hj; omega) (hnd.erase _) (fun k o' ho' hk => ?_) (fun c hc => ?_) (fun k hk => ?_) (fun k hk => huf k (List.mem_of_mem_erase hk)) (fun g hg hgu => ?_)
  · by_cases e : f.i = k
    · subst e
      have hlt : f.i < listed.size := by
        have := hul _ hj
        by_cases h : f.i < listed.size
        · exact h
        · simp [Array.getD, h] at this
      simp [Array.getD, hlt] at hk
    · rw [Go.getD_set_ne false e] at hk
      refine (hun k o' ho' hk).imp id fun h => ?_
      exact (List.mem_erase_of_ne (Ne.symm e)).2 h
  · have e : f.i ≠ c := fun e => O.out (e ▸ hc)
    rw [Go.getD_set_ne true e]
    exact hch c hc
  · have e : f.i ≠ k := fun e => by subst e; exact (List.Nodup.mem_erase_iff hnd).1 hk |>.1 rfl
    rw [Go.getD_set_ne true e]
    exact hul k (List.mem_of_mem_erase hk)
  · by_cases e : g.i = f.i
    · by_cases hgf : g = f
      · subst hgf
        rw [getD_put hsz]
        exact hv
      · exact absurd e (hD g hg f hf hgf)
    · have hne := O.apart g hg e
      rw [getD_put_ne (Ne.symm hne)]
      refine hI g hg fun h => hgu ((List.mem_erase_of_ne e).2 h)

theorem nilF (hT : TblOk P T) {B : Base} {N : Act → World → Prop} {fs : List Flt} {s : AS} (hF : fltsOk T ops [] fs s = true) (hR : rdsOk T ops s fs) (h : ∀ E a w, s.is B E a w → N a w) : FW P B N ops [] fs s := by
  refine ⟨fun fuel => ?_⟩
  induction fuel with
  | zero =>
    intro listed u E a w hs hl _ hun _ _ _ _
    have hu : u = [] := List.eq_nil_of_length_eq_zero (by simpa using hl)
    subst hu
    refine ⟨?_, h E a w hs⟩
    match hr : Region.ready .any ops listed with
    | [] => rfl
    | i :: r =>
      obtain ⟨h1, o, ho, _⟩ := mem_ready.1 (show i ∈ Region.ready .any ops listed by rw [hr]; simp)
      rcases hun i o ho (getD_tf h1) with h | h <;> simp at h
  | succ fuel ih =>
    intro listed u E a w hs hl hnd hun hch hul huf hI
    refine ⟨fun _ => h E a w hs, fun i hi => ?_⟩
    obtain ⟨h1, o, ho, _⟩ := mem_ready.1 hi
    have hiu : i ∈ u := by
      rcases hun i o ho (getD_tf h1) with h | h
      · simp at h
      · exact h
    exact float_step hT hF hR ih hs hl hnd hun hch hul huf hI hiu

/-- The empties that an operation waits for. -/
def needsF (o : Oper) (fs : List Flt) : List Flt := fs.filter fun f => o.after.toList.any fun e => Region.binds .any e && Nat.beq e.on f.i
def sparesF (o : Oper) (fs : List Flt) : List Flt := fs.filter fun f => !o.after.toList.any fun e => Region.binds .any e && Nat.beq e.on f.i

def adopt1 (f : Flt) (s : AS) : AS :=
  match f.k with
  | .emp es => { s with slots := setNth s.slots f.d (.own s.next), own := ⟨s.next, .sl 0 es fun _ => []⟩ :: s.own, next := s.next + 1 }
  | .rd v => { s with slots := setNth s.slots f.d (.v v) }
  | .ra vs => { s with slots := setNth s.slots f.d (.agg (vs.map AV.v)) }
def adopt (fs : List Flt) (s : AS) : AS :=
  match fs with
  | [] => s
  | f :: r => adopt r (adopt1 f s)

theorem put_same {a : Act} {d : Tmp} {v : Value} (hsz : d < a.tmps.size) (hv : a.tmps.getD d undef = v) : a.put (some d) v = a := by
  have : a.tmps.setIfInBounds d v = a.tmps := by
    apply Array.ext
    · rw [Array.size_setIfInBounds]
    · intro i h1 h2
      rw [Array.getElem_setIfInBounds]
      split
      · rename_i e
        subst e
        rw [← hv]
        simp [Array.getD, hsz]
      · rfl
  show ({ a with tmps := a.tmps.setIfInBounds d v } : Act) = a
  rw [this]

theorem adopt1_slots (f : Flt) (s : AS) : (adopt1 f s).slots.length = s.slots.length := by
  unfold adopt1
  split <;> simp [setNth_length]

theorem adopt1_is {s : AS} {B : Base} {E : Env} {a : Act} {w : World} (h : s.is B E a w) {f : Flt} (hd : f.d < s.slots.length) (h1 : ∀ v, f.k = .rd v → v.oneCell' = true) (h2 : ∀ vs, f.k = .ra vs → ∀ v ∈ vs, v.oneCell' = true) (hv : isF f.k (a.tmps.getD f.d undef)) : ∃ E', (adopt1 f s).is B E' a w := by
  have hsz : f.d < a.tmps.size := by rw [h.size]; exact hd
  unfold adopt1
  cases hk : f.k with
  | emp es =>
    rw [hk] at hv
    obtain ⟨b, hv⟩ := hv
    have hI : s.isA B E (s.avoid E) a w := ⟨h.defers, h.links, h.size, h.slots, h.boxes, h.boxes2, h.keys, h.own, h.ownkeys, h.sep, h.sepB, h.one, h.base, h.fresh, fun _ h => h⟩
    obtain ⟨k1, k2⟩ := hI.addOwn (.emp es (fun _ => []) b 0) (by simp) (by simp)
    refine ⟨E.withOwn s.next (.slice (some ⟨b, 0, none⟩) 0 0) [], ?_⟩
    have := ((k1.put (some f.d) (x := .own s.next) (v := .slice (some ⟨b, 0, none⟩) 0 0) k2).is)
    rw [put_same hsz hv] at this
    exact this
  | rd v =>
    rw [hk] at hv
    refine ⟨E, ?_⟩
    have := h.put (some f.d) (x := .v v) (v := v) (.c (.val v (h1 v hk)))
    rw [put_same hsz hv] at this
    exact this
  | ra vs =>
    rw [hk] at hv
    refine ⟨E, ?_⟩
    have := h.put (some f.d) (x := .agg (vs.map AV.v)) (v := .agg vs.toArray) (.agg vs (by simp) (fun i x hx => by
      simp only [List.getElem?_map, Option.map_eq_some_iff] at hx
      obtain ⟨v, hv, rfl⟩ := hx
      have e : vs.getD i undef = v := by simp [List.getD, hv]
      rw [e]
      exact .c (.val v (h2 vs hk v (List.mem_of_getElem? hv)))))
    rw [put_same hsz hv] at this
    exact this

theorem adopt_is {B : Base} {a : Act} {w : World} : ∀ (fs : List Flt) {s : AS} {E : Env}, s.is B E a w → (∀ f ∈ fs, f.d < s.slots.length) → (∀ f ∈ fs, ∀ v, f.k = .rd v → v.oneCell' = true) → (∀ f ∈ fs, ∀ vs, f.k = .ra vs → ∀ v ∈ vs, v.oneCell' = true) → (∀ f ∈ fs, isF f.k (a.tmps.getD f.d undef)) → ∃ E', (adopt fs s).is B E' a w
  | [], _, E, h, _, _, _, _ => ⟨E, h⟩
  | f :: r, s, E, h, hd, h1, h3, hv => by
    obtain ⟨E1, h2⟩ := adopt1_is h (hd f (by simp)) (h1 f (by simp)) (h3 f (by simp)) (hv f (by simp))
    exact adopt_is r h2 (fun g hg => by
      rw [adopt1_slots]
      exact hd g (List.mem_cons_of_mem _ hg)) (fun g hg => h1 g (List.mem_cons_of_mem _ hg)) (fun g hg => h3 g (List.mem_cons_of_mem _ hg)) (fun g hg => hv g (List.mem_cons_of_mem _ hg))

def candOk (ops : Array Oper) (chain : List Nat) (fs : List Flt) (o : Oper) : Bool :=
  edgesIn ops o.after.toList (fun j => chain.contains j) && fs.all fun f => match o.dst with | some d => !Nat.beq d f.d | none => true
def waitOk (ops : Array Oper) (chain cands : List Nat) : Bool :=
  noDup chain && (cands.all fun k => chain.contains k) && !cands.isEmpty && chain.all fun c => cands.contains c || match ops[c]? with
    | some oc => oc.after.toList.any fun e => Region.binds .any e && chain.contains e.on
    | none => false

/-- What is asked of an operation that may come next. -/
def Cand (P : Program) (B : Base) (N : Act → World → Prop) (ops : Array Oper) (chain : List Nat) (fs : List Flt) (s : AS) (i : Nat) : Prop :=
  ∃ o s', ops[i]? = some o ∧ candOk ops chain fs o = true ∧ GW P B QF [.ops true ops [o], .loop (fun a w => ∃ E, s'.is B E a w)] (adopt (needsF o fs) s) ∧ FW P B N ops (chain.erase i) (sparesF o fs) s'

theorem stepFG (hT : TblOk P T) {B : Base} {N : Act → World → Prop} {chain cands : List Nat} {fs : List Flt} {s : AS} (hF0 : fltsOk T ops chain fs s = true) (hW : waitOk ops chain cands = true) (hR : rdsOk T ops s fs)
    (hS : ∀ i ∈ cands, Cand P B N ops chain fs s i) : FW P B N ops chain fs s := by
  have hF := fltsOk_all hF0
  unfold waitOk at hW
  simp only [Bool.and_eq_true] at hW
  obtain ⟨⟨⟨w1, w2⟩, w3⟩, w4⟩ := hW
  have wnd := noDup_spec w1
  have wmem : ∀ k ∈ cands, k ∈ chain := fun k hk => by simpa using List.all_eq_true.1 w2 k hk
  refine ⟨fun fuel => ?_⟩
  have hne : ∃ k, k ∈ cands := by
    cases hc : cands with
    | nil => rw [hc] at w3; simp at w3
    | cons k r => exact ⟨k, by simp⟩
  obtain ⟨k0, hk0⟩ := hne
  have hlen : 1 ≤ chain.length := List.length_pos_of_mem (wmem k0 hk0)
  induction fuel with
  | zero => intro listed u E a w _ hl; omega
  | succ fuel ih =>
    intro listed u E a w hs hl hnd hun hch hul huf hI
    refine ⟨fun h0 => ?_, fun i hi => ?_⟩
    · exfalso
      match u, hul, huf, hun with
      | [], _, _, hun =>
        obtain ⟨o, _, ho, hc, _⟩ := hS k0 hk0
        simp only [candOk, Bool.and_eq_true] at hc
        have : k0 ∈ Region.ready .any ops listed := by
          refine mem_ready.2 ⟨hch k0 (wmem k0 hk0), o, ho, fun e he hb => ?_⟩
          have := List.all_eq_true.1 hc.1 e (Array.mem_toList_iff.2 he)
          simp only [hb, Bool.not_true, Bool.false_or, Bool.and_eq_true, Bool.not_eq_true'] at this
          have hlt : e.on < ops.size := Nat.le_of_ble_eq_true this.1
          refine Classical.byContradiction fun hne => ?_
          have hne : listed.getD e.on false = false := by simpa using hne
          rcases hun e.on _ (Array.getElem?_eq_getElem hlt) hne with h | h
          · exact absurd h (by simpa using this.2)
          · simp at h
        rw [h0] at this
        cases this
      | j :: u', hul, huf, hun =>
        obtain ⟨f, hf, rfl⟩ := huf j (by simp)
        obtain ⟨of, O⟩ := fltOk_spec (List.all_eq_true.1 hF f hf)
        have : f.i ∈ Region.ready .any ops listed := by
          refine mem_ready.2 ⟨hul f.i (by simp), of, O.get, fun e he hb => ?_⟩
          obtain ⟨h1, h2, h3⟩ := O.edges e he hb
          refine Classical.byContradiction fun hne => ?_
          have hne : listed.getD e.on false = false := by simpa using hne
          rcases hun e.on _ (Array.getElem?_eq_getElem h1) hne with h | h
          · exact h2 h
          · obtain ⟨g, hg, e⟩ := huf _ h
            exact h3 g hg e
        rw [h0] at this
        cases this
    · obtain ⟨h1, oi, hoi, hall⟩ := mem_ready.1 hi
      rcases hun i oi hoi (getD_tf h1) with hm | hm
      · by_cases hcand : i ∈ cands
        · obtain ⟨o, s', ho, hc, ht, h⟩ := hS i hcand
          rw [ho] at hoi
          obtain rfl := Option.some.inj hoi
          simp only [candOk, Bool.and_eq_true] at hc
          obtain ⟨_, hc5⟩ := hc
          have hneed : ∀ f ∈ needsF o fs, f ∈ fs ∧ listed.getD f.i false = true := fun f hf => by
            obtain ⟨hf1, hf2⟩ := List.mem_filter.1 hf
            obtain ⟨e, he, hb⟩ := List.any_eq_true.1 hf2
            simp only [Bool.and_eq_true] at hb
            refine ⟨hf1, ?_⟩
            rw [← Nat.eq_of_beq_eq_true hb.2]
            exact hall e (Array.mem_toList_iff.1 he) hb.1
          have hnotu : ∀ f ∈ needsF o fs, f.i ∉ u := fun f hf hu => by
            have := getD_tf (hul _ hu)
            rw [(hneed f hf).2] at this
            cases this
          obtain ⟨E1, hs1⟩ := adopt_is (needsF o fs) hs (fun f hf => (fltOk_spec (List.all_eq_true.1 hF f (hneed f hf).1)).elim fun _ O => O.lt) (fun f hf v hk => (fltOk_spec (List.all_eq_true.1 hF f (hneed f hf).1)).elim fun _ O => oneCells_spec (rdsOk_mem hR (hneed f hf).1 hk O.get).2 v (by simp)) (fun f hf vs hk v hv => (fltOk_spec (List.all_eq_true.1 hF f (hneed f hf).1)).elim fun _ O => oneCells_spec ((rdsOk_memA hR (hneed f hf).1 hk O.get).2 v hv) v (by simp)) (fun f hf => hI f (hneed f hf).1 (hnotu f hf))
          have hg : wpMix P ops (fun a w => ∃ E, s'.is B E a w) [o] a w := ht.out E1 a w hs1
          have hil : i < listed.size := by
            by_cases h : i < listed.size
            · exact h
            · simp [Array.getD, h] at h1
          have next : ∀ v w', (∃ E, s'.is B E (a.put o.dst v) w') → anyM P ops N fuel (listed.setIfInBounds i true) (a.put o.dst v) w' := by
            rintro v w' ⟨E', hs'⟩
            refine h.out fuel _ u E' _ w' hs' (by rw [List.length_erase_of_mem hm]; omega) hnd (fun j oj hoj hj => ?_) (fun c hc => ?_) (fun j hj => ?_) (fun j hj => ?_) (fun f hf hfu => ?_)
            · by_cases e : i = j
              · subst e
                simp [Array.getD, hil] at hj
              · rw [Go.getD_set_ne false e] at hj
                exact (hun j oj hoj hj).imp (fun h => (List.mem_erase_of_ne (Ne.symm e)).2 h) id
            · obtain ⟨e, hc⟩ := (List.Nodup.mem_erase_iff wnd).1 hc
              rw [Go.getD_set_ne true (Ne.symm e)]
              exact hch c hc
            · have e : i ≠ j := fun e => by
                subst e
                obtain ⟨f, hf, e⟩ := huf _ hj
                obtain ⟨_, O⟩ := fltOk_spec (List.all_eq_true.1 hF f hf)
                exact O.out (by rw [e]; exact hm)
              rw [Go.getD_set_ne true e]
              exact hul j hj
            · obtain ⟨f, hf, rfl⟩ := huf j hj
              refine ⟨f, List.mem_filter.2 ⟨hf, ?_⟩, rfl⟩
              simp only [Bool.not_eq_true']
              refine Bool.eq_false_iff.2 fun hc => ?_
              exact hnotu f (List.mem_filter.2 ⟨hf, hc⟩) hj
            · obtain ⟨hf1, _⟩ := List.mem_filter.1 hf
              have hv := hI f hf1 hfu
              have hd := List.all_eq_true.1 hc5 f hf1
              cases hdst : o.dst with
              | none => exact hv
              | some d =>
                rw [hdst] at hd
                have hne : d ≠ f.d := fun e => by subst e; simp at hd
                rw [getD_put_ne hne]
                exact hv
          unfold opM
          simp only [ho]
          unfold wpMix at hg
          split
          · rename_i hw
            rw [if_pos hw] at hg
            rcases hg with ⟨v, h1, h2⟩ | ⟨_, hd⟩
            · unfold doneM
              rw [h1 w (Kept0.refl w)]
              exact ⟨fun _ => Kept0.refl w, next v w h2⟩
            · unfold doneM at hd ⊢
              exact uponM.mono (fun v w' ⟨k1, k2⟩ => ⟨k1, next v w' k2⟩) hd
          · rename_i hw
            rw [if_neg hw] at hg
            exact next undef w hg
        · exfalso
          have := List.all_eq_true.1 w4 i hm
          rw [hoi] at this
          have hcf : cands.contains i = false := by simpa using hcand
          rw [hcf, Bool.false_or] at this
          obtain ⟨e, he, hb⟩ := List.any_eq_true.1 this
          simp only [Bool.and_eq_true] at hb
          have h2 := hall e (Array.mem_toList_iff.1 he) hb.1
          have h3 := getD_tf (hch e.on (by simpa using hb.2))
          rw [h2] at h3
          cases h3
      · exact float_step hT hF0 hR ih hs hl hnd hun hch hul huf hI hm

/-- One operation of the chain, and what stands behind it. -/
theorem stepF (hT : TblOk P T) {B : Base} {N : Act → World → Prop} {k : Nat} {rest : List Nat} {fs : List Flt} {s s' : AS} {o : Oper} (ho : ops[k]? = some o) (hF : (fltsOk T ops (k :: rest) fs s && (waitOk ops (k :: rest) [k] && candOk ops (k :: rest) fs o)) = true) (hR : rdsOk T ops s fs)
    (ht : GW P B QF [.ops true ops [o], .loop (fun a w => ∃ E, s'.is B E a w)] (adopt (needsF o fs) s)) (h : FW P B N ops rest (sparesF o fs) s') : FW P B N ops (k :: rest) fs s := by
  simp only [Bool.and_eq_true] at hF
  refine stepFG hT hF.1 hF.2.1 hR (fun i hi => ?_)
  obtain rfl : i = k := by simpa using hi
  refine ⟨o, s', ho, hF.2.2, ht, ?_⟩
  rw [List.erase_cons_head]
  exact h

/-- One of two operations may come next. -/
theorem stepF2 (hT : TblOk P T) {B : Base} {N : Act → World → Prop} (chain : List Nat) (k l : Nat) (c1 c2 : List Nat) {fs : List Flt} {s s1 s2 : AS} {o1 o2 : Oper} (ho1 : ops[k]? = some o1) (ho2 : ops[l]? = some o2)
    (hF : (fltsOk T ops chain fs s && (waitOk ops chain [k, l] && (candOk ops chain fs o1 && candOk ops chain fs o2))) = true) (hR : rdsOk T ops s fs) (e1 : chain.erase k = c1) (e2 : chain.erase l = c2)
    (t1 : GW P B QF [.ops true ops [o1], .loop (fun a w => ∃ E, s1.is B E a w)] (adopt (needsF o1 fs) s)) (h1 : FW P B N ops c1 (sparesF o1 fs) s1)
    (t2 : GW P B QF [.ops true ops [o2], .loop (fun a w => ∃ E, s2.is B E a w)] (adopt (needsF o2 fs) s)) (h2 : FW P B N ops c2 (sparesF o2 fs) s2) : FW P B N ops chain fs s := by
  simp only [Bool.and_eq_true] at hF
  refine stepFG hT hF.1 hF.2.1 hR (fun i hi => ?_)
  simp only [List.mem_cons, List.not_mem_nil, or_false] at hi
  rcases hi with rfl | rfl
  · exact ⟨o1, s1, ho1, hF.2.2.1, t1, e1 ▸ h1⟩
  · exact ⟨o2, s2, ho2, hF.2.2.2, t2, e2 ▸ h2⟩

/-- The end of one operation's walk. -/
theorem endF {B : Base} {s : AS} : GW P B QF [.loop (fun a w => ∃ E, s.is B E a w)] s := ⟨fun E _ _ hs => ⟨E, hs⟩⟩

/-- It yields this in every world. -/
def YieldsA (P : Program) (ops : Array Oper) (o : Oper) (v : Value) (a : Act) : Prop :=
  (Region.wanted o (yielded ops a.tmps) = true ∧ ∀ w', (execOp a.eval o).run P w' = .ok (.value v) w') ∨ (Region.wanted o (yielded ops a.tmps) = false ∧ v = undef)

theorem YieldsA.opM {i : Nat} {o : Oper} {v : Value} {a : Act} {w : World} (hi : ops[i]? = some o) (hy : YieldsA P ops o v a) {K : Act → World → Prop} (h : K (a.put o.dst v) w) : opM P ops i K a w := by
  unfold Sx.opM
  simp only [hi]
  rcases hy with ⟨hw, hv⟩ | ⟨hw, rfl⟩
  · simp only [hw, if_true]
    unfold doneM
    rw [hv w]
    exact ⟨fun _ => Kept0.refl w, h⟩
  · simp only [hw, Bool.false_eq_true, if_false]; exact h

theorem opM_putA {j : Nat} {oi oj : Oper} {v : Value} (hj : ops[j]? = some oj) (hap : oi.apart ops oj = true)
    (hsi : ∀ cs b, oi.op ≠ .select cs b) (hsj : ∀ cs b, oj.op ≠ .select cs b) {K : Act → World → Prop} {a : Act} {w : World}
    (hy : YieldsA P ops oi v a) (h : opM P ops j K (a.put oi.dst v) w) :
    opM P ops j (fun a' w' => YieldsA P ops oi v a' ∧ K (a'.put oi.dst v) w') a w := by
  obtain ⟨h1, h2, h3⟩ := Oper.apart_spec hap
  have keep : ∀ u, YieldsA P ops oi v (a.put oj.dst u) := fun u => by
    unfold YieldsA at *
    rw [execOp_put oi hsi a oj.dst u h3, wanted_put oi a oj.dst u h3]
    exact hy
  unfold opM at *
  simp only [hj] at *
  rw [wanted_put oj a oi.dst v h1] at h
  split
  · rename_i hw
    simp only [hw, if_true] at h
    unfold doneM at *
    rw [execOp_put oj hsj a oi.dst v h1] at h
    refine uponM.mono (fun u w' ⟨k1, k2⟩ => ⟨k1, keep u, ?_⟩) h
    rw [← Act.put_comm a v u h2]
    exact k2
  · rename_i hw
    simp only [hw] at h
    exact ⟨keep _, by rw [← Act.put_comm a v undef h2]; exact h⟩

def freeP (ops : Array Oper) (listed : Array Bool) (i : Nat) (oi : Oper) : Bool :=
  (List.range ops.size).all fun j => j == i || listed.getD j true || (match ops[j]? with
    | some oj => oi.apart ops oj || (oj.after.toList.any fun e => Region.binds .any e && e.on == i)
    | none => true)

theorem anyM_firstA {Q : Act → World → Prop} {i : Nat} {oi : Oper} {v : Value} (hi : ops[i]? = some oi) (hsel : ∀ (j : Nat) (o : Oper) cs b, ops[j]? = some o → o.op ≠ .select cs b) :
    ∀ (fuel : Nat) (listed : Array Bool) (a : Act) (w : World), freeP ops listed i oi = true →
      i ∈ Region.ready .any ops listed → YieldsA P ops oi v a → anyM P ops Q fuel (listed.setIfInBounds i true) (a.put oi.dst v) w → anyM P ops Q (fuel + 1) listed a w := by
  intro fuel
  induction fuel with
  | zero =>
    intro listed a w _ hr hy H
    refine ⟨fun h => (by rw [h] at hr; cases hr), fun j hj => ?_⟩
    by_cases hji : j = i
    · subst hji; exact hy.opM hi H
    · have := ready_mono hj hji
      rw [H.1] at this
      cases this
  | succ fuel ih =>
    intro listed a w hfree hr hy H
    refine ⟨fun h => (by rw [h] at hr; cases hr), fun j hj => ?_⟩
    by_cases hji : j = i
    · subst hji; exact hy.opM hi H
    · have h1 := H.2 j (ready_mono hj hji)
      obtain ⟨hjun, oj, hoj, hall⟩ := mem_ready.1 hj
      have hun := ready_unlisted hr
      have hf : oi.apart ops oj = true := by
        have := List.all_eq_true.1 hfree j (List.mem_range.2 (Array.getElem?_eq_some_iff.1 hoj).1)
        simp only [hoj, hjun, Bool.or_false, Bool.or_eq_true, beq_iff_eq, hji, false_or] at this
        rcases this with h | h
        · exact h
        · obtain ⟨e, he, hb⟩ := List.any_eq_true.1 h
          simp only [Bool.and_eq_true, beq_iff_eq] at hb
          have := hall e (Array.mem_toList_iff.1 he) hb.1
          rw [hb.2, hun] at this
          cases this
      have h2 := opM_putA hoj hf (fun cs b => hsel i oi cs b hi) (fun cs b => hsel j oj cs b hoj) hy h1
      have hfree' : freeP ops (listed.setIfInBounds j true) i oi = true := by
        refine List.all_eq_true.2 fun k hk => ?_
        have := List.all_eq_true.1 hfree k hk
        by_cases hjk : j = k
        · subst hjk
          have hlt : j < listed.size := by
            by_cases h : j < listed.size
            · exact h
            · simp [Array.getD, h] at hjun
          have : (listed.setIfInBounds j true).getD j true = true := by simp [Array.getD, hlt]
          simp only [this, Bool.or_true, Bool.true_or]
        · rw [Go.getD_set_ne true hjk]
          exact this
      refine opM_mono (fun a' w' h3 => ih (listed.setIfInBounds j true) a' w' hfree' (ready_mono hr (Ne.symm hji)) h3.1 ?_) h2
      rw [Array.setIfInBounds_comm _ _ hji]
      exact h3.2

def restOk (ops : Array Oper) (fin : Array Bool) (chain : List Nat) (fs : List Flt) : Bool :=
  ((List.range ops.size).all fun j => fin.getD j false || chain.contains j || fs.any fun f => Nat.beq f.i j) && (chain.all fun c => !fin.getD c true) && (fs.all fun f => !fin.getD f.i true) && noDup (fs.map (·.i))

theorem loopF {B : Base} {N : Act → World → Prop} {fin : Array Bool} {chain : List Nat} {fs : List Flt} {s : AS} (hr : restOk ops fin chain fs = true) (h : FW P B N ops chain fs s) : GW P B QF [.loop (anyM P ops N (chain.length + fs.length) fin)] s := by
  unfold restOk at hr
  simp only [Bool.and_eq_true] at hr
  obtain ⟨⟨⟨h1, h2⟩, h3⟩, h4⟩ := hr
  refine ⟨fun E a w hs => ?_⟩
  show anyM P ops N (chain.length + fs.length) fin a w
  refine h.out _ fin (fs.map (·.i)) E a w hs (by simp) (noDup_spec h4) (fun j o ho hj => ?_) (fun c hc => by simpa using List.all_eq_true.1 h2 c hc) (fun j hj => ?_) (fun j hj => ?_) (fun f hf hn => ?_)
  · have := List.all_eq_true.1 h1 j (List.mem_range.2 (Array.getElem?_eq_some_iff.1 ho).1)
    simp only [hj, Bool.false_or, Bool.or_eq_true] at this
    rcases this with h | h
    · exact .inl (by simpa using h)
    · obtain ⟨f, hf, e⟩ := List.any_eq_true.1 h
      exact .inr (List.mem_map.2 ⟨f, hf, Nat.eq_of_beq_eq_true e⟩)
  · obtain ⟨f, hf, rfl⟩ := List.mem_map.1 hj
    simpa using List.all_eq_true.1 h3 f hf
  · obtain ⟨f, hf, e⟩ := List.mem_map.1 hj
    exact ⟨f, hf, e⟩
  · exact absurd (List.mem_map.2 ⟨f, hf, rfl⟩) hn

/-- What is left of a region, its operations listed one by one. -/
inductive BW (P : Program) (B : Base) (N : Act → World → Prop) (ops : Array Oper) (fuel : Nat) (listed : Array Bool) (s : AS) : Prop
  | mk (h : ∀ E a w, s.is B E a w → anyM P ops N fuel listed a w) : BW P B N ops fuel listed s
theorem BW.out {B : Base} {N : Act → World → Prop} {fuel : Nat} {listed : Array Bool} {s : AS} (h : BW P B N ops fuel listed s) : ∀ E a w, s.is B E a w → anyM P ops N fuel listed a w := h.rec fun h => h

theorem preF (hT : TblOk P T) (wr : Bool) {B : Base} {N : Act → World → Prop} {fuel : Nat} {listed : Array Bool} {s : AS} (i : Nat) {o : Oper} (hi : ops[i]? = some o) (hk : pureOp o.op = true)
    (hb : (o.guard.isNone && Region.noSelect ops && (Region.ready .any ops listed).contains i && freeP ops listed i o) = true) {ps : List Prop} {x : AV} (hst : step T wr s o.op = .ok ps x) (hp : ∀ p ∈ ps, p)
    (h : BW P B N ops fuel (listed.setIfInBounds i true) (s.put o.dst x)) : BW P B N ops (fuel + 1) listed s := by
  simp only [Bool.and_eq_true, List.contains_iff_mem] at hb
  obtain ⟨⟨⟨h0, h1⟩, h2⟩, h3⟩ := hb
  refine ⟨fun E a w hs => ?_⟩
  obtain ⟨v, hv, hd⟩ := step_pure hT hk hst hp hs o rfl
  have hg : o.guard = none := by simpa using h0
  exact anyM_firstA hi (Region.noSelect_spec h1) fuel listed a w h3 h2 (.inl ⟨by simp [Region.wanted, hg], hv⟩) (h.out E _ w (hs.put o.dst hd))

theorem restF {B : Base} {N : Act → World → Prop} (chain : List Nat) (fs : List Flt) {fuel : Nat} {fin : Array Bool} {s : AS} (hr : (restOk ops fin chain fs && Nat.beq (chain.length + fs.length) fuel) = true) (h : FW P B N ops chain fs s) : BW P B N ops fuel fin s := by
  simp only [Bool.and_eq_true] at hr
  obtain ⟨hr, hfu⟩ := hr
  obtain rfl := Nat.eq_of_beq_eq_true hfu
  exact ⟨fun E a w hs => (loopF hr h).out E a w hs⟩

theorem drawF (hm : P.follows .mixedOrders = true) {B : Base} {Q : Exit → Act → World → Prop} {id : Nat} {K : List KI} {s : AS} (h : BW P B (fun a w => post P Q K .normal a w) ops ops.size (Array.replicate ops.size false) s) : GW P B Q (.code (.region id ops true) :: K) s := by
  refine ⟨fun E a w hs => ?_⟩
  refine wp_region_any hm (anyM_wp (Q := fun a w => post P Q K .normal a w) (fun _ _ h => h) _ _ _ _ ?_)
  exact h.out E a _ ((hs.call (w' := { w with drawn := w.drawn + 1 }) ⟨rfl, rfl, rfl, Nat.le_refl _, fun _ _ => rfl⟩).is)

end Go.Sx

/- An element of an owned slice is opened: its inner slices become owned by themselves, its cells named. -/
set_option maxRecDepth 100000
namespace Go.Sx
open Go
open Go.RowKit (Below)
variable {P : Program} {T : List (TypeId × TI)}

end Go.Sx
