/- A symbolic executor for the model's code, proved sound: part 4. No conditions. -/
import Derived.Test.YtcpjpkcahnldfaaGreatDoorEng3

/- Contracts of functions that change what a pointer shows, and of functions that are handed values to keep; their results are one of many. -/
set_option maxRecDepth 100000
namespace Go.Sx
open Go
open Go.RowKit (Below)
variable {P : Program} {T : List (TypeId × TI)}

/-- The blocks of some handed values. -/
def allFp (n : Nat) (fps : Nat → List Nat) : List Nat := (List.range n).flatMap fps

/-- Values that are known by name, with what they read as. -/
def PinsAt (w : World) (A : Nat → Prop) (pins : List (Cell × Value)) : Prop := ∀ p ∈ pins, Rep w A p.1 p.2

/-- A contract: xs are handed over, ins are read; the results are those of some i. -/
def MeetsC (P : Program) (H : World → Prop) (f : FuncId) (pins : List (Cell × Value)) (xs ins : List Arg) {ι : Type} (φ : ι → Prop) (outs : ι → List Arg) : Prop :=
  Callable P f ∧ ∀ (w : World) (vs : List Value) (fps : Nat → List Nat) (us : List Value), vs.length = xs.length → (∀ i x, xs[i]? = some x → OwnArg w x (vs.getD i undef) (fps i)) →
    (∀ i, i < xs.length → (fps i).Nodup) → (∀ i j, i < xs.length → j < xs.length → i ≠ j → ∀ b ∈ fps i, b ∉ fps j) →
    (∀ w', Base.rel ⟨w, fun b => b ∈ allFp xs.length fps⟩ w' → H w') → PinsAt w (fun b => b ∈ allFp xs.length fps) pins → us.length = ins.length →
    (∀ i z, ins[i]? = some z → RepArg w (fun b => b ∈ allFp xs.length fps) z (us.getD i undef)) →
    Calls P f (vs ++ us).toArray w fun e w' => ∃ i, φ i ∧ GivesF ⟨w, fun b => b ∈ allFp xs.length fps⟩ w' (outs i) e

/-- What a call gives that was handed the pointer to block b. -/
structure GivesP (B : Base) (b : Nat) (w' : World) (cs : List Cell) (outs : List Arg) (e : Ending) : Prop where
  rel : B.rel w'
  res : ∃ (vs : List Value) (ty : TypeId) (rs : List Value) (fps : Nat → List Nat), e = .returned (resVal rs) ∧ w'.heap[b]? = some (.cells vs.toArray ty (0, 0)) ∧ rs.length = outs.length ∧
    (∀ i y, (Arg.agg cs :: outs)[i]? = some y → OwnArg w' y ((Value.agg vs.toArray :: rs).getD i undef) (fps i)) ∧
    (∀ i, i < outs.length + 1 → (fps i).Nodup ∧ ∀ x ∈ fps i, B.fresh x ∧ x ≠ b) ∧
    ∀ i j, i < outs.length + 1 → j < outs.length + 1 → i ≠ j → ∀ x ∈ fps i, x ∉ fps j

/-- A contract: the first argument points to a block of these cells, which may be changed. -/
def MeetsP (P : Program) (H : World → Prop) (f : FuncId) (pins : List (Cell × Value)) (cs : List Cell) (ins : List Arg) {ι : Type} (φ : ι → Prop) (cs' : ι → List Cell) (outs : ι → List Arg) : Prop :=
  Callable P f ∧ ∀ (w : World) (b : Nat) (vs : List Value) (ty : TypeId) (fp : List Nat) (us : List Value), w.heap[b]? = some (.cells vs.toArray ty (0, 0)) → OwnArg w (.agg cs) (.agg vs.toArray) fp → fp.Nodup → b ∉ fp →
    (∀ w', Base.rel ⟨w, fun x => x = b ∨ x ∈ fp⟩ w' → H w') → PinsAt w (fun x => x = b ∨ x ∈ fp) pins → us.length = ins.length →
    (∀ i z, ins[i]? = some z → RepArg w (fun x => x = b ∨ x ∈ fp) z (us.getD i undef)) →
    Calls P f (.pointer (some ⟨b, 0, none⟩) :: us).toArray w fun e w' => ∃ i, φ i ∧ GivesP ⟨w, fun x => x = b ∨ x ∈ fp⟩ b w' (cs' i) (outs i) e

/-! What is known by name. -/

def Pins (B : Base) (pins : List (Cell × Value)) : Prop := PinsAt B.w0 B.may pins

theorem Pins.now {B : Base} {pins : List (Cell × Value)} (h : Pins B pins) {s : AS} {E : Env} {a : Act} {w : World} (hs : s.is B E a w) {A : Nat → Prop} (hA : ∀ b, A b → s.avoid E b) : PinsAt w A pins := by
  intro p hp
  refine (h p hp).move (fun b hm hb => hs.base.block b hb hm) (fun b hb hav => ?_)
  rcases hs.fresh b (hA b hav) with h | h
  · omega
  · exact h

/-- A slot that holds a named value shows what it reads as. -/
theorem showP {B : Base} {pins : List (Cell × Value)} (hF : Pins B pins) {Q : Exit → Act → World → Prop} {K : List KI} {s : AS} (j : Nat) {c : Cell} {v : Value} (hj : pins[j]? = some (c, v)) (i : Nat) (hi : nth s.slots i = .c (.val v))
    (h : GW P B Q K { s with slots := setNth s.slots i (.c c) }) : GW P B Q K s := by
  refine ⟨fun E a w hs => h.rec fun g => g E a w ⟨hs.defers, hs.links, by rw [hs.size]; exact (setNth_length _ _ _).symm, fun m z hz => ?_, hs.boxes, hs.boxes2, hs.keys, hs.own, hs.ownkeys, hs.sep, hs.sepB, hs.one, hs.base, hs.fresh⟩⟩
  simp only at hz
  rw [setNth_get] at hz
  split at hz
  · rename_i hm
    obtain ⟨rfl, hm⟩ := hm
    obtain rfl := Option.some.inj hz
    have hd := hs.slots i (.c (.val v)) (by rw [nth_get, List.getElem?_eq_getElem hm] at hi; rw [List.getElem?_eq_getElem hm]; simpa using hi)
    rw [den_int hd]
    exact Den.c (A := s.avoid E) (N := s.next) (hF.now hs (fun _ h => h) _ (List.mem_of_getElem? hj))
  · exact hs.slots m z hz

/-! The arguments that are read, beside what is handed over. -/

def argX (own : List Ow) (x : AV) : Option Arg :=
  match x with
  | .agg xs => match argCs own xs with
    | some cs => some (.agg cs)
    | none => none
  | x => match argC own x with
    | some c => some (.one c)
    | none => none

def argsX (own : List Ow) (l : List AV) : Option (List Arg) :=
  match l with
  | [] => some []
  | x :: r => match argX own x with
    | some c => match argsX own r with
      | some cs => some (c :: cs)
      | none => none
    | none => none

theorem argsX_get {own : List Ow} {l : List AV} {cs : List Arg} (h : argsX own l = some cs) : l.length = cs.length ∧ ∀ (i : Nat) (c : Arg), cs[i]? = some c → ∃ x : AV, l[i]? = some x ∧ argX own x = some c := by
  induction l generalizing cs with
  | nil => obtain rfl := Option.some.inj h; simp
  | cons x r ih =>
    unfold argsX at h
    split at h
    · rename_i c hc
      split at h
      · rename_i cs' hcs
        obtain rfl := Option.some.inj h
        obtain ⟨h1, h2⟩ := ih hcs
        refine ⟨by simp [h1], fun i d hd => ?_⟩
        cases i with
        | zero => simp only [List.getElem?_cons_zero, Option.some.injEq] at hd; subst hd; exact ⟨x, by simp, hc⟩
        | succ i => simpa using h2 i d (by simpa using hd)
      · simp at h
    · simp at h

/-- Blocks that are part of the state, but of nothing that is still owned. -/
structure Apart (s : AS) (E : Env) (ks : List Nat) (X : Nat → Prop) : Prop where
  av : ∀ b, X b → s.avoid E b
  own : ∀ y ∈ s.own, y.key ∉ ks → ∀ b ∈ E.fp y.key, ¬ X b

theorem argX_C {B : Base} {E : Env} {s : AS} {a : Act} {w : World} (hs : s.is B E a w) {ks : List Nat} {X : Nat → Prop} (hX : Apart s E ks X) {x : AV} {c : Cell} (hx : argC (remOs ks s.own) x = some c) {v : Value} (hd : Den E w (s.avoid E) s.next x v) : Rep w X c v := by
  unfold argC at hx
  split at hx
  · obtain rfl := Option.some.inj hx
    cases hd with
    | c hr => exact hr.move (fun _ _ _ => rfl) (fun b _ hb => hX.av b hb)
  · cases hd with
    | own hk =>
      obtain ⟨h1, h2⟩ := remOs_mem.1 (getOwn_mem hx)
      exact (hs.own _ h1).2.1.rep (fun b hb => hX.own _ h1 h2 b hb)
  · simp at hx

theorem argX_rep {B : Base} {E : Env} {s : AS} {a : Act} {w : World} (hs : s.is B E a w) {ks : List Nat} {X : Nat → Prop} (hX : Apart s E ks X) {x : AV} {c : Arg} (hx : argX (remOs ks s.own) x = some c) {v : Value} (hd : Den E w (s.avoid E) s.next x v) : RepArg w X c v := by
  unfold argX at hx
  split at hx
  · rename_i xs
    split at hx
    · rename_i cs hcs
      obtain rfl := Option.some.inj hx
      obtain ⟨g1, g2⟩ := argCs_get hcs
      cases hd with
      | agg vs hl hv =>
        refine ⟨vs, rfl, by omega, fun i c hc => ?_⟩
        obtain ⟨y, hy, hyc⟩ := g2 i c hc
        exact argX_C hs hX hyc (hv i y hy)
    · simp at hx
  · split at hx
    · rename_i c' hc
      obtain rfl := Option.some.inj hx
      exact argX_C hs hX hc hd
    · simp at hx

/-! What is handed back. -/

/-- Values of one's own, as a list of results. -/
theorem outs_own {B : Base} {E : Env} {s : AS} {a : Act} {w : World} (h : s.is B E a w) {xs : List AV} {outs : List Arg} {vs : List Value} (h4 : ∀ i x, xs[i]? = some x → Den E w (s.avoid E) s.next x (vs.getD i undef)) (hk : noDup (xs.flatMap keysA) = true) (ho : outAs s.own xs outs) :
    (∀ i y, outs[i]? = some y → OwnArg w y (vs.getD i undef) ((keysA (nth xs i)).flatMap E.fp)) ∧ (∀ i, i < outs.length → ((keysA (nth xs i)).flatMap E.fp).Nodup) ∧ (∀ i, i < outs.length → ∀ k ∈ keysA (nth xs i), ∃ y ∈ s.own, y.key = k) ∧
      ∀ i j, i < outs.length → j < outs.length → i ≠ j → ∀ b ∈ (keysA (nth xs i)).flatMap E.fp, b ∉ (keysA (nth xs j)).flatMap E.fp := by
  obtain ⟨g1, g2⟩ := outAs_get ho
  have hnd := noDup_spec hk
  have hkeys : ∀ i, i < outs.length → ∀ k ∈ keysA (nth xs i), ∃ y ∈ s.own, y.key = k := by
    intro i hi
    obtain ⟨x, hx', hxo⟩ := g2 i _ (List.getElem?_eq_getElem hi)
    rw [show nth xs i = x by rw [nth_get, hx']; rfl]
    exact (outA_ok h hxo (h4 i x hx')).2
  have hsub : ∀ i, i < outs.length → (keysA (nth xs i)).Nodup := by
    intro i hi
    obtain ⟨x, hx', hxo⟩ := g2 i _ (List.getElem?_eq_getElem hi)
    rw [show nth xs i = x by rw [nth_get, hx']; rfl]
    exact (nodup_flatMap.1 hnd).1 x (List.mem_of_getElem? hx')
  refine ⟨fun i y hy => ?_, fun i hi => keys_nodup h (hsub i hi) (hkeys i hi), hkeys, fun i j hi hj hne b hb hb' => ?_⟩
  · obtain ⟨x, hx', hxo⟩ := g2 i y hy
    rw [show nth xs i = x by rw [nth_get, hx']; rfl]
    exact (outA_ok h hxo (h4 i x hx')).1
  · obtain ⟨k, hk1, hb⟩ := List.mem_flatMap.1 hb
    obtain ⟨l, hl1, hb'⟩ := List.mem_flatMap.1 hb'
    obtain ⟨y1, hy1, rfl⟩ := hkeys i hi k hk1
    obtain ⟨y2, hy2, rfl⟩ := hkeys j hj l hl1
    by_cases e : y1.key = y2.key
    · have hpw := (nodup_flatMap.1 hnd).2
      have hi' : i < xs.length := by omega
      have hj' : j < xs.length := by omega
      have e1 : nth xs i = xs[i] := by rw [nth_get, List.getElem?_eq_getElem hi']; rfl
      have e2 : nth xs j = xs[j] := by rw [nth_get, List.getElem?_eq_getElem hj']; rfl
      rw [e1] at hk1
      rw [e2] at hl1
      rcases Nat.lt_or_gt_of_ne hne with hlt | hlt
      · exact List.pairwise_iff_getElem.1 hpw i j hi' hj' hlt _ hk1 (e ▸ hl1)
      · exact List.pairwise_iff_getElem.1 hpw j i hj' hi' hlt _ hl1 (e ▸ hk1)
    · exact h.sep y1 hy1 y2 hy2 e b hb hb'

/-- The return of a function that was handed values to keep. -/
theorem retC (hT : TblOk P T) {B : Base} {fn : Func} {ι : Type} {φ : ι → Prop} {outs : ι → List Arg} {s : AS} {xs : List AV} (i : ι) (hi : φ i) (hx : retAV T fn.results.toList s = some xs) (hk : noDup (xs.flatMap keysA) = true) (ho : outAs s.own xs (outs i)) :
    RW B (bodyPost P fn fun e w' => ∃ i, φ i ∧ GivesF B w' (outs i) e) s :=
  RW.mono (fun _ _ ⟨h1, v, h2, h3⟩ => ⟨h1, v, h2, i, hi, h3⟩) ⟨ret_okF hT hx hk ho⟩

/-- The return of a function that was handed a pointer. -/
theorem retP (hT : TblOk P T) {B : Base} {b : Nat} {fn : Func} {ι : Type} {φ : ι → Prop} {cs' : ι → List Cell} {outs : ι → List Arg} {s : AS} {xs : List AV} {bx : Bx} (i : ι) (hi : φ i) (hx : retAV T fn.results.toList s = some xs)
    (hb : getBx s.boxes 0 = some bx) (hl : getLink s.links 0 = some (.pointer (some ⟨b, 0, none⟩))) (hk : noDup ((AV.agg bx.cells :: xs).flatMap keysA) = true) (ho : outAs s.own (.agg bx.cells :: xs) (.agg (cs' i) :: outs i)) :
    RW B (bodyPost P fn fun e w' => ∃ i, φ i ∧ GivesP B b w' (cs' i) (outs i) e) s := by
  refine ⟨fun E a w h => ?_⟩
  obtain ⟨rs, h1, h2, h3, h4⟩ := retAV_ok hT h fn.results.toList xs hx
  obtain ⟨hm, hkey⟩ := getBx_mem hb
  obtain ⟨k1, vs, ty, k2, k3, k4⟩ := h.boxes bx hm
  have hl0 := (h.links _ (getLink_mem hl)).2
  have hβ : E.β bx.key = b := by rw [hkey]; unfold Env.β; rw [show E.ov 0 = _ from hl0]; rfl
  rw [hβ] at k2
  have hd : ∀ i x, (AV.agg bx.cells :: xs)[i]? = some x → Den E w (s.avoid E) s.next x ((Value.agg vs.toList.toArray :: rs).getD i undef) := by
    intro i x hx
    cases i with
    | zero =>
      simp only [List.getElem?_cons_zero, Option.some.injEq] at hx
      subst hx
      exact .agg vs.toList (by simpa using k3) (fun j y hj => by rw [getD_toList]; exact k4 j y hj)
    | succ i => simpa using h4 i x (by simpa using hx)
  obtain ⟨o1, o2, o3, o4⟩ := outs_own h hd hk ho
  have hlen : xs.length = (outs i).length := (outAs_get ho.2).1
  refine ⟨h.defers, resVal rs, ?_, i, hi, h.base, vs.toList, ty, rs, fun i => (keysA (nth (AV.agg bx.cells :: xs) i)).flatMap E.fp, rfl, by simpa using k2, by omega, o1, fun j hj => ⟨o2 j (by simpa using hj), fun x hx => ?_⟩, fun j l hj hl hne => o4 j l (by simpa using hj) (by simpa using hl) hne⟩
  · rw [results_eq, Array.mapM_eq_mapM_toList]
    simp only [map_eq_pure_bind, Sem.run_bind, h1, Result.andThen_ok, Sem.run_pure]
    exact congrArg (fun v => Result.ok v w) (resVal_eq rs)
  · obtain ⟨k, hk', hx⟩ := List.mem_flatMap.1 hx
    obtain ⟨y, hy, rfl⟩ := o3 j (by simpa using hj) k hk'
    refine ⟨h.fresh x (.inr ⟨y, hy, hx⟩), fun e => ?_⟩
    subst e
    have := h.sepB bx hm y hy
    rw [hβ] at this
    exact this hx


/-! A call that is handed values to keep. -/

def dropK (ks : List Nat) (s : AS) : AS := { s with own := remOs ks s.own }

theorem relOf {B : Base} {s : AS} {E : Env} {a : Act} {w w' : World} {X : Nat → Prop} (hs : s.is B E a w) (hX : ∀ b, X b → s.avoid E b) (hr : Base.rel ⟨w, X⟩ w') : B.rel w' := by
  have hB := hs.base
  refine ⟨hr.os.trans hB.os, hr.tape.trans hB.tape, hr.output.trans hB.output, Nat.le_trans hB.size hr.size, fun k hk hm => ?_⟩
  rw [hr.block k (Nat.lt_of_lt_of_le hk hB.size) (fun hX' => by
    rcases hs.fresh k (hX k hX') with h | h
    · omega
    · exact hm h)]
  exact hB.block k hk hm

theorem kept_of_rel {X : Nat → Prop} {w w' : World} (h : Base.rel ⟨w, X⟩ w') : Kept X w w' := ⟨h.os, h.tape, h.output, h.size, fun k hk hm => h.block k hk hm⟩

theorem nth_len {xs : List AV} {i : Nat} (h : xs.length ≤ i) : nth xs i = .any := by rw [nth_get, List.getElem?_eq_none h]; rfl

theorem callC {B : Base} {Q : Exit → Act → World → Prop} {H : World → Prop} {f : FuncId} {rest : List AV} {dst : Option Tmp} {K : List KI} {s : AS} {pins : List (Cell × Value)} {xs ins : List Arg} {ι : Type} {φ : ι → Prop} {outs : ι → List Arg} (x0s : List AV)
    (hf : MeetsC P H f pins xs ins φ outs) (hH : ∀ w, B.rel w → H w) (hp : Pins B pins) (ho : outAs s.own x0s xs) (hk : noDup (x0s.flatMap keysA) = true) (hx : argsX (remOs (x0s.flatMap keysA) s.own) rest = some ins)
    (h : ∀ i, φ i → GW P B Q K ((addRes (outs i) (dropK (x0s.flatMap keysA) s)).2.put dst (addRes (outs i) (dropK (x0s.flatMap keysA) s)).1)) : CW P B Q false f (x0s ++ rest) dst K s := by
  refine ⟨⟨hf.1, fun E a w hs vs hl hv => ?_⟩⟩
  have hxl := (outAs_get ho).1
  obtain ⟨r1, r2⟩ := argsX_get hx
  have hvl : vs.length = x0s.length + rest.length := by simpa using hl
  have hd1 : ∀ i x, x0s[i]? = some x → Den E w (s.avoid E) s.next x ((vs.take x0s.length).getD i undef) := by
    intro i x hi
    have hil : i < x0s.length := (List.getElem?_eq_some_iff.1 hi).1
    have := hv i x (by rw [List.getElem?_append_left hil]; exact hi)
    simpa [List.getD, List.getElem?_take, hil] using this
  have hd2 : ∀ i x, rest[i]? = some x → Den E w (s.avoid E) s.next x ((vs.drop x0s.length).getD i undef) := by
    intro i x hi
    have := hv (x0s.length + i) x (by rw [List.getElem?_append_right (by omega)]; simpa using hi)
    simpa [List.getD] using this
  obtain ⟨o1, o2, o3, o4⟩ := outs_own hs hd1 hk ho
  let fps : Nat → List Nat := fun i => (keysA (nth x0s i)).flatMap E.fp
  have hin : ∀ b, b ∈ allFp xs.length fps → ∃ k ∈ x0s.flatMap keysA, ∃ y ∈ s.own, y.key = k ∧ b ∈ E.fp k := by
    intro b hb
    obtain ⟨i, hi, hb⟩ := List.mem_flatMap.1 hb
    have hi := List.mem_range.1 hi
    obtain ⟨k, hk1, hb⟩ := List.mem_flatMap.1 hb
    obtain ⟨y, hy, e⟩ := o3 i hi k hk1
    refine ⟨k, List.mem_flatMap.2 ⟨nth x0s i, ?_, hk1⟩, y, hy, e, hb⟩
    have hil : i < x0s.length := by omega
    rw [nth_get, List.getElem?_eq_getElem hil]
    exact List.getElem_mem hil
  have hX : Apart s E (x0s.flatMap keysA) (fun b => b ∈ allFp xs.length fps) := by
    refine ⟨fun b hb => ?_, fun y hy hne b hb hb' => ?_⟩
    · obtain ⟨k, _, y, hy, rfl, hb⟩ := hin b hb
      exact .inr ⟨y, hy, hb⟩
    · obtain ⟨k, hk1, y2, hy2, rfl, hb2⟩ := hin b hb'
      exact hs.sep y hy y2 hy2 (fun e => hne (e ▸ hk1)) b hb hb2
  have e : vs = vs.take x0s.length ++ vs.drop x0s.length := (List.take_append_drop _ _).symm
  rw [e]
  refine (hf.2 w (vs.take x0s.length) fps (vs.drop x0s.length) (by simp; omega) o1 o2 o4 (fun w' hr => hH w' (relOf hs hX.av hr)) (hp.now hs hX.av) (by simp; omega) (fun i z hi => ?_)).mono (fun e w' ⟨i, hi, hg⟩ => ?_)
  · obtain ⟨y, hy, hro⟩ := r2 i z hi
    exact argX_rep hs hX hro (hd2 i y hy)
  · obtain ⟨hrel, rs, gps, rfl, hrl, hro, hfr, hdis⟩ := hg
    have hkept := kept_of_rel hrel
    have hI := hs.drop (x0s.flatMap keysA)
    have hX2 : ∀ b, b ∈ allFp xs.length fps → s.avoid E b ∧ ¬ (dropK (x0s.flatMap keysA) s).avoid E b ∧ B.fresh b := by
      intro b hb
      refine ⟨hX.av b hb, ?_, hs.fresh b (hX.av b hb)⟩
      rintro (⟨u, hu, rfl⟩ | ⟨u, hu, hb'⟩)
      · obtain ⟨k, hk1, y, hy, rfl, hb⟩ := hin _ hb
        exact hs.sepB u hu y hy hb
      · obtain ⟨q1, q2⟩ := remOs_mem.1 hu
        exact hX.own u q1 q2 b hb' hb
    have hI2 := hI.kept hkept hX2
    obtain ⟨E', hAd, hL, hD⟩ := addArgs_ok (outs i) rs gps (dropK (x0s.flatMap keysA) s) E hI2 hrl hro (fun j hj => (hfr j hj).1) hdis (fun j hj b hb => by
      rcases (hfr j hj).2 b hb with h | h
      · refine ⟨.inr h, fun hav => ?_, .inl (Nat.le_trans hs.base.size h)⟩
        have := hs.avoid_lt (hI.sub b hav)
        have h : w.heap.size ≤ b := h
        omega
      · obtain ⟨q1, q2, q3⟩ := hX2 b h
        exact ⟨.inl q1, q2, q3⟩)
    have hres := getD_resVal (outs i) (addArgs (outs i) (dropK (x0s.flatMap keysA) s)).1 rs hrl hL hD
    have h := h i hi
    rw [addRes_eq] at h
    exact ⟨_, rfl, (fun h => by cases h), h.rec fun g => g E' _ w' ((hAd.isA.put dst hres).is)⟩

/-! A call that is handed a pointer. -/

def remB (k : Nat) (l : List Bx) : List Bx :=
  match l with
  | [] => []
  | b :: r => match Nat.beq b.key k with
    | true => remB k r
    | false => b :: remB k r

theorem remB_mem {k : Nat} {l : List Bx} {b : Bx} : b ∈ remB k l ↔ b ∈ l ∧ b.key ≠ k := by
  induction l with
  | nil => simp [remB]
  | cons x r ih =>
    unfold remB
    split
    · rename_i h
      have := Nat.eq_of_beq_eq_true h
      rw [ih]
      constructor
      · rintro ⟨h1, h2⟩; exact ⟨List.mem_cons_of_mem _ h1, h2⟩
      · rintro ⟨h1, h2⟩
        rcases List.mem_cons.1 h1 with rfl | h1
        · exact absurd this h2
        · exact ⟨h1, h2⟩
    · rename_i h
      have hne : x.key ≠ k := fun e => by subst e; simp at h
      simp only [List.mem_cons, ih]
      constructor
      · rintro (rfl | ⟨h1, h2⟩)
        · exact ⟨.inl rfl, hne⟩
        · exact ⟨.inr h1, h2⟩
      · rintro ⟨rfl | h1, h2⟩
        · exact .inl rfl
        · exact .inr ⟨h1, h2⟩

theorem remB_keys {k : Nat} {l : List Bx} (h : (l.map (·.key)).Nodup) : ((remB k l).map (·.key)).Nodup := by
  induction l with
  | nil => simp [remB]
  | cons x r ih =>
    simp only [List.map_cons, List.nodup_cons] at h
    unfold remB
    split
    · exact ih h.2
    · simp only [List.map_cons, List.nodup_cons]
      refine ⟨fun hm => h.1 ?_, ih h.2⟩
      obtain ⟨o, ho, e⟩ := List.mem_map.1 hm
      exact List.mem_map.2 ⟨o, (remB_mem.1 ho).1, e⟩

/-- A block behind a pointer is taken up again. -/
theorem AS.isA.addBox {s : AS} {B : Base} {E : Env} {A : Nat → Prop} {a : Act} {w : World} (h : s.isA B E A a w) {k : Nat} (hk : k < s.next) (hn : ∀ x ∈ s.boxes, x.key ≠ k) {cells : List AV} {vs : Array Value} {ty : TypeId}
    (hb : w.heap[E.β k]? = some (.cells vs ty (0, 0))) (hl : vs.size = cells.length) (hd : ∀ i y, cells[i]? = some y → Den E w A s.next y (vs.getD i undef)) (hav : ¬ s.avoid E (E.β k)) (hA : A (E.β k)) (hf : B.fresh (E.β k)) :
    ({ s with boxes := ⟨k, cells⟩ :: s.boxes } : AS).isA B E A a w := by
  refine ⟨h.defers, h.links, h.size, h.slots, fun x hx => ?_, fun x hx y hy e => ?_, ?_, h.own, h.ownkeys, h.sep, fun x hx y hy => ?_, h.one, h.base, fun b hb' => ?_, fun b hb' => ?_⟩
  · rcases List.mem_cons.1 hx with rfl | hx
    · exact ⟨hk, vs, ty, hb, hl, hd⟩
    · exact h.boxes x hx
  · rcases List.mem_cons.1 hx with rfl | hx <;> rcases List.mem_cons.1 hy with rfl | hy
    · rfl
    · exact absurd (.inl ⟨y, hy, e.symm⟩) hav
    · exact absurd (.inl ⟨x, hx, e⟩) hav
    · exact h.boxes2 x hx y hy e
  · simp only [List.map_cons, List.nodup_cons]
    refine ⟨fun hm => ?_, h.keys⟩
    obtain ⟨y, hy, e⟩ := List.mem_map.1 hm
    exact hn y hy e
  · rcases List.mem_cons.1 hx with rfl | hx
    · exact fun hb' => hav (.inr ⟨y, hy, hb'⟩)
    · exact h.sepB x hx y hy
  · rcases hb' with ⟨x, hx, rfl⟩ | hb'
    · rcases List.mem_cons.1 hx with rfl | hx
      · exact hf
      · exact h.fresh _ (.inl ⟨x, hx, rfl⟩)
    · exact h.fresh _ (.inr hb')
  · rcases hb' with ⟨x, hx, rfl⟩ | hb'
    · rcases List.mem_cons.1 hx with rfl | hx
      · exact hA
      · exact h.sub _ (.inl ⟨x, hx, rfl⟩)
    · exact h.sub _ (.inr hb')

/-- The state without a box and some of what is owned. -/
def dropP (k : Nat) (ks : List Nat) (s : AS) : AS := { s with own := remOs ks s.own, boxes := remB k s.boxes }

theorem AS.is.dropP {s : AS} {B : Base} {E : Env} {a : Act} {w : World} (h : s.is B E a w) (k : Nat) (ks : List Nat) : (Sx.dropP k ks s).isA B E (s.avoid E) a w := by
  have av : ∀ b, (Sx.dropP k ks s).avoid E b → s.avoid E b := by
    rintro b (⟨x, hx, hb⟩ | ⟨y, hy, hb⟩)
    · exact .inl ⟨x, (remB_mem.1 hx).1, hb⟩
    · exact .inr ⟨y, (remOs_mem.1 hy).1, hb⟩
  exact ⟨h.defers, h.links, h.size, h.slots, fun x hx => h.boxes x (remB_mem.1 hx).1, fun x hx y hy => h.boxes2 x (remB_mem.1 hx).1 y (remB_mem.1 hy).1, remB_keys h.keys, fun y hy => h.own y (remOs_mem.1 hy).1, remOs_nodup h.ownkeys,
    fun y hy z hz => h.sep y (remOs_mem.1 hy).1 z (remOs_mem.1 hz).1, fun x hx y hy => h.sepB x (remB_mem.1 hx).1 y (remOs_mem.1 hy).1, h.one, h.base, fun b hb => h.fresh b (av b hb), av⟩

def tailRes (ys : List AV) : AV :=
  match ys with
  | [y] => y
  | ys => .tup ys

/-- What is known behind the call: the box shows cs, the results are owned. -/
def afterP (k : Nat) (ks : List Nat) (cs : List Cell) (outs : List Arg) (dst : Option Tmp) (s : AS) : AS :=
  match addArgs (.agg cs :: outs) (dropP k ks s) with
  | (.agg zs :: ys, s') => ({ s' with boxes := ⟨k, zs⟩ :: s'.boxes } : AS).put dst (tailRes ys)
  | (_, s') => s'

theorem addC_bx (c : Cell) (s : AS) : (addC c s).2.boxes = s.boxes := by cases c <;> rfl
theorem addCs_bx : ∀ (cs : List Cell) (s : AS), (addCs cs s).2.boxes = s.boxes
  | [], _ => rfl
  | c :: cs, s => (addCs_bx cs (addC c s).2).trans (addC_bx c s)
theorem addArg_bx (x : Arg) (s : AS) : (addArg x s).2.boxes = s.boxes := by
  cases x with
  | one c => exact addC_bx c s
  | agg cs => exact addCs_bx cs s
  | ptr cs => rfl
  | fn f caps => rfl
theorem addArgs_bx : ∀ (l : List Arg) (s : AS), (addArgs l s).2.boxes = s.boxes
  | [], _ => rfl
  | x :: l, s => (addArgs_bx l (addArg x s).2).trans (addArg_bx x s)

theorem addArgs_agg (cs : List Cell) (outs : List Arg) (s : AS) : addArgs (.agg cs :: outs) s = (.agg (addCs cs s).1 :: (addArgs outs (addCs cs s).2).1, (addArgs outs (addCs cs s).2).2) := rfl

theorem callP {B : Base} {Q : Exit → Act → World → Prop} {H : World → Prop} {f : FuncId} {k : Nat} {rest : List AV} {dst : Option Tmp} {K : List KI} {s : AS} {pins : List (Cell × Value)} {cs : List Cell} {ins : List Arg} {ι : Type} {φ : ι → Prop} {cs' : ι → List Cell} {outs : ι → List Arg}
    (hf : MeetsP P H f pins cs ins φ cs' outs) (hH : ∀ w, B.rel w → H w) (hp : Pins B pins) {bx : Bx} (hb : getBx s.boxes k = some bx) (ho : outCs s.own bx.cells cs) (hk : noDup (bx.cells.flatMap keyC) = true)
    (hx : argsX (remOs (bx.cells.flatMap keyC) s.own) rest = some ins) (h : ∀ i, φ i → GW P B Q K (afterP k (bx.cells.flatMap keyC) (cs' i) (outs i) dst s)) : CW P B Q false f (.box k 0 :: rest) dst K s := by
  refine ⟨⟨hf.1, fun E a w hs vs hl hv => ?_⟩⟩
  obtain ⟨hm, hkey⟩ := getBx_mem hb
  obtain ⟨hklt, bvs, ty, b1, b2, b3⟩ := hs.boxes bx hm
  rw [hkey] at b1 hklt
  obtain ⟨r1, r2⟩ := argsX_get hx
  match vs, hl with
  | v :: us, hl =>
    have hv0 := hv 0 (.box k 0) rfl
    simp only [List.getD, List.getElem?_cons_zero, Option.getD_some] at hv0
    have hdb : Den E w (s.avoid E) s.next (.agg bx.cells) (.agg bvs.toList.toArray) := .agg bvs.toList (by simpa using b2) (fun i y hi => by rw [getD_toList]; exact b3 i y hi)
    obtain ⟨o1, o2⟩ := outA_ok (x := .agg bx.cells) (o := .agg cs) hs ho hdb
    have hks : (bx.cells.flatMap keyC).Nodup := noDup_spec hk
    let fp := (bx.cells.flatMap keyC).flatMap E.fp
    have hfn : fp.Nodup := keys_nodup hs hks o2
    have hin : ∀ b, b ∈ fp → ∃ y ∈ s.own, y.key ∈ bx.cells.flatMap keyC ∧ b ∈ E.fp y.key := by
      intro b hb'
      obtain ⟨j, hj, hb'⟩ := List.mem_flatMap.1 hb'
      obtain ⟨y, hy, rfl⟩ := o2 j hj
      exact ⟨y, hy, hj, hb'⟩
    have hb0 : E.β k ∉ fp := by
      intro hb'
      obtain ⟨y, hy, _, hb'⟩ := hin _ hb'
      have := hs.sepB bx hm y hy
      rw [hkey] at this
      exact this hb'
    let X : Nat → Prop := fun x => x = E.β k ∨ x ∈ fp
    have hX : Apart s E (bx.cells.flatMap keyC) X := by
      refine ⟨fun b hb' => ?_, fun y hy hne b hb' hX' => ?_⟩
      · rcases hb' with rfl | hb'
        · exact .inl ⟨bx, hm, by rw [hkey]⟩
        · obtain ⟨y, hy, _, hb'⟩ := hin b hb'
          exact .inr ⟨y, hy, hb'⟩
      · rcases hX' with rfl | hX'
        · have := hs.sepB bx hm y hy
          rw [hkey] at this
          exact this hb'
        · obtain ⟨y2, hy2, hk2, hb2⟩ := hin b hX'
          exact hs.sep y hy y2 hy2 (fun e => hne (e ▸ hk2)) b hb' hb2
    cases hv0 with
    | box _ _ =>
      refine (hf.2 w (E.β k) bvs.toList ty fp us (by simpa using b1) o1 hfn hb0 (fun w' hr => hH w' (relOf hs hX.av hr)) (hp.now hs hX.av) (by simp at hl; omega) (fun i z hi => ?_)).mono (fun e w' ⟨i, hi, hg⟩ => ?_)
      · obtain ⟨y, hy, hro⟩ := r2 i z hi
        have := hv (i + 1) y (by simpa using hy)
        exact argX_rep hs hX hro (by simpa [List.getD] using this)
      · obtain ⟨hrel, nvs, nty, rs, gps, rfl, hheap, hrl, hro, hfr, hdis⟩ := hg
        have hkept := kept_of_rel hrel
        have hI := hs.dropP k (bx.cells.flatMap keyC)
        have hX2 : ∀ b, X b → s.avoid E b ∧ ¬ (dropP k (bx.cells.flatMap keyC) s).avoid E b ∧ B.fresh b := by
          intro b hb'
          refine ⟨hX.av b hb', ?_, hs.fresh b (hX.av b hb')⟩
          rintro (⟨u, hu, rfl⟩ | ⟨u, hu, hb2⟩)
          · obtain ⟨q1, q2⟩ := remB_mem.1 hu
            rcases hb' with hb' | hb'
            · exact q2 ((hs.boxes2 u q1 bx hm (by rw [hkey]; exact hb')).trans hkey)
            · obtain ⟨y, hy, _, hb'⟩ := hin _ hb'
              exact hs.sepB u q1 y hy hb'
          · obtain ⟨q1, q2⟩ := remOs_mem.1 hu
            exact hX.own u q1 q2 b hb2 hb'
        have hI2 := hI.kept hkept hX2
        have hnew : ∀ j, j < (outs i).length + 1 → ∀ b ∈ gps j, (s.avoid E b ∨ w.heap.size ≤ b) ∧ ¬ (dropP k (bx.cells.flatMap keyC) s).avoid E b ∧ B.fresh b := fun j hj b hb' => by
          rcases ((hfr j hj).2 b hb').1 with h | h
          · refine ⟨.inr h, fun hav => ?_, .inl (Nat.le_trans hs.base.size h)⟩
            have := hs.avoid_lt (hI.sub b hav)
            have h : w.heap.size ≤ b := h
            omega
          · obtain ⟨q1, q2, q3⟩ := hX2 b h
            exact ⟨.inl q1, q2, q3⟩
        obtain ⟨E', hAd, hL, hD⟩ := addArgs_ok (.agg (cs' i) :: outs i) (.agg nvs.toArray :: rs) gps (dropP k (bx.cells.flatMap keyC) s) E hI2 (by simp [hrl]) hro (fun j hj => (hfr j (by simpa using hj)).1) (fun j l hj hl => hdis j l (by simpa using hj) (by simpa using hl)) (fun j hj => hnew j (by simpa using hj))
        have h := h i hi
        unfold afterP at h
        rw [addArgs_agg] at h hAd hL hD
        simp only at h hAd hL hD
        have hbk : E'.β k = E.β k := (hAd.keep k hklt).1
        have hz0 := hD 0 _ rfl
        simp only [List.getD, List.getElem?_cons_zero, Option.getD_some] at hz0
        have hboxes : (addArgs (outs i) (addCs (cs' i) (dropP k (bx.cells.flatMap keyC) s)).2).2.boxes = remB k s.boxes := (addArgs_bx _ _).trans (addCs_bx _ _)
        have hzs : nvs.length = (addCs (cs' i) (dropP k (bx.cells.flatMap keyC) s)).1.length ∧ ∀ j y, (addCs (cs' i) (dropP k (bx.cells.flatMap keyC) s)).1[j]? = some y → Den E' w' (fun b => s.avoid E b ∨ w.heap.size ≤ b) (addArgs (outs i) (addCs (cs' i) (dropP k (bx.cells.flatMap keyC) s)).2).2.next y (nvs.getD j undef) := by
          generalize hq : (Value.agg nvs.toArray) = q at hz0
          cases hz0 with
          | agg ws hwl hw =>
            have e : nvs = ws := by simpa using hq
            subst e
            exact ⟨hwl, hw⟩
        have hbox := hAd.isA.addBox (k := k) (Nat.lt_of_lt_of_le hklt hAd.next) (fun x hx e => by
          rw [hboxes] at hx
          exact (remB_mem.1 hx).2 e) (vs := nvs.toArray) (ty := nty) (by rw [hbk]; exact hheap) (by simpa using hzs.1) (fun j y hj => by rw [← getD_toList]; exact hzs.2 j y hj) (by
            rw [hbk]
            intro hav
            rcases hAd.avoid _ hav with h | h
            · exact (hX2 _ (.inl rfl)).2.1 h
            · obtain ⟨j, hj, hb'⟩ := List.mem_flatMap.1 h
              exact ((hfr j (by simpa using List.mem_range.1 hj)).2 _ hb').2 rfl) (by rw [hbk]; exact .inl (hX.av _ (.inl rfl))) (by rw [hbk]; exact hs.fresh _ (hX.av _ (.inl rfl)))
        have hLr : (addArgs (outs i) (addCs (cs' i) (dropP k (bx.cells.flatMap keyC) s)).2).1.length = (outs i).length := by simpa using hL
        have hres : Den E' w' (fun b => s.avoid E b ∨ w.heap.size ≤ b) (addArgs (outs i) (addCs (cs' i) (dropP k (bx.cells.flatMap keyC) s)).2).2.next (tailRes (addArgs (outs i) (addCs (cs' i) (dropP k (bx.cells.flatMap keyC) s)).2).1) (resVal rs) := getD_resVal (outs i) (addArgs (outs i) (addCs (cs' i) (dropP k (bx.cells.flatMap keyC) s)).2).1 rs hrl hLr (fun j x hj => by simpa [List.getD] using hD (j + 1) x (by simpa using hj))
        exact ⟨_, rfl, (fun h => by cases h), h.rec fun g => g E' _ w' ((hbox.put dst hres).is)⟩

end Go.Sx

/- The entries of functions that are handed a pointer, or values to keep; new blocks behind a pointer; operations on bits. -/
set_option maxRecDepth 100000
namespace Go.Sx
open Go
open Go.RowKit (Below)
variable {P : Program} {T : List (TypeId × TI)}

/-- The slots at a function's entry. -/
theorem den_ins {E : Env} {w : World} {A : Nat → Prop} {N : Nat} {ins : List Arg} {us : List Value} (_hl : us.length = ins.length) (hr : ∀ i z, ins[i]? = some z → RepArg w A z (us.getD i undef)) (i : Nat) (x : AV) (hx : (ins.map argAV)[i]? = some x) : Den E w A N x (us.getD i undef) := by
  simp only [List.getElem?_map, Option.map_eq_some_iff] at hx
  obtain ⟨q, hq, rfl⟩ := hx
  have hr := hr i q hq
  cases q with
  | one c => exact .c hr
  | agg cs =>
    obtain ⟨ws, hu, hul, hur⟩ := hr
    rw [hu]
    refine .agg ws (by simp [hul]) (fun j x hj => ?_)
    simp only [List.getElem?_map, Option.map_eq_some_iff] at hj
    obtain ⟨c, hc, rfl⟩ := hj
    exact .c (hur j c hc)
  | ptr cs => exact RepPtr.den hr (fun _ h => h)
  | fn f caps =>
    obtain ⟨ws, hu, hul, hur⟩ := hr
    rw [hu]
    refine .fn ws (by simp [hul]) (fun j x hj => ?_)
    simp only [List.getElem?_map, Option.map_eq_some_iff] at hj
    obtain ⟨c, hc, rfl⟩ := hj
    have hr := hur j c hc
    cases c with
    | one c => exact .c hr
    | ptr cs => exact RepPtr.den hr (fun _ h => h)

theorem den_slots {E : Env} {w : World} {A : Nat → Prop} {N m : Nat} {ys : List AV} {vs : List Value} (hl : vs.length = ys.length) (hd : ∀ i x, ys[i]? = some x → Den E w A N x (vs.getD i undef)) (i : Nat) (x : AV)
    (hx : (ys ++ List.replicate m .any)[i]? = some x) : Den E w A N x ((vs.toArray ++ Array.replicate m undef).getD i undef) := by
  by_cases hi : i < ys.length
  · rw [List.getElem?_append_left hi] at hx
    have e : (vs.toArray ++ Array.replicate m undef).getD i undef = vs.getD i undef := by
      simp [Array.getD, List.getD, show i < vs.length by omega, show i < vs.length + m by omega]
    rw [e]
    exact hd i x hx
  · rw [List.getElem?_append_right (by omega)] at hx
    rw [List.eq_of_mem_replicate (List.mem_of_getElem? hx)]
    exact .any _

def blankN (n k : Nat) : AS := { next := 0, slots := List.replicate (k + (n - k)) .any, boxes := [], own := [] }

theorem blankN_isA {B : Base} {w : World} {E0 : Env} {A : Nat → Prop} {a : Act} {m : Nat} (hd : a.defers = []) (hs : a.tmps.size = m) {next : Nat} {links : List (Nat × Value)} (hl : ∀ p ∈ links, p.1 < next ∧ E0.ov p.1 = p.2) (h1 : ∀ k, k < next → (E0.ov k).oneCell' = true) (hB : B.rel w) :
    ({ next := next, slots := List.replicate m .any, boxes := [], own := [], links := links } : AS).isA B E0 A a w := by
  have nav : ∀ b, ¬ ({ next := next, slots := List.replicate m .any, boxes := [], own := [], links := links } : AS).avoid E0 b := by
    rintro b (⟨x, hx, _⟩ | ⟨y, hy, _⟩)
    · simp at hx
    · simp at hy
  refine ⟨hd, hl, by simp [hs], fun i x hx => ?_, by simp, by simp, by simp, by simp, by simp, by simp, by simp, h1, hB, fun b hb => absurd hb (nav b), fun b hb => absurd hb (nav b)⟩
  rw [List.eq_of_mem_replicate (List.mem_of_getElem? hx)]
  exact .any _

def startC (n : Nat) (xs ins : List Arg) : AS :=
  match addArgs xs (blankN n (xs.length + ins.length)) with
  | (ys, s) => { s with slots := ys ++ ins.map argAV ++ List.replicate (n - (xs.length + ins.length)) .any }

theorem AS.isA.slotsAt {s : AS} {B : Base} {E : Env} {A : Nat → Prop} {a : Act} {w : World} (h : s.isA B E A a w) {sl : List AV} (hsz : a.tmps.size = sl.length) (hd : ∀ i x, sl[i]? = some x → Den E w A s.next x (a.tmps.getD i undef)) : ({ s with slots := sl } : AS).isA B E A a w :=
  ⟨h.defers, h.links, hsz, hd, h.boxes, h.boxes2, h.keys, h.own, h.ownkeys, h.sep, h.sepB, h.one, h.base, h.fresh, h.sub⟩

theorem addArgs_len : ∀ (l : List Arg) (s : AS), (addArgs l s).1.length = l.length
  | [], _ => rfl
  | x :: l, s => by
    have := addArgs_len l (addArg x s).2
    simp [addArgs, this]

theorem post_mono {Q Q' : Ending → World → Prop} {fn : Func} (hm : ∀ e w', Q e w' → Q' e w') {c : Code} {a : Act} {w : World} (h : Code.wp P c (bodyPost P fn Q) a w) : Code.wp P c (bodyPost P fn Q') a w := by
  refine Code.wp_mono (fun e a' w' hq => ?_) h
  cases e with
  | normal => obtain ⟨h1, u, h2, h3⟩ := hq; exact ⟨h1, u, h2, hm _ _ h3⟩
  | ret => obtain ⟨h1, u, h2, h3⟩ := hq; exact ⟨h1, u, h2, hm _ _ h3⟩
  | panic ch => exact ⟨hq.1, hm _ _ hq.2⟩
  | outgrown => exact hm _ _ hq
  | _ => exact hq

theorem enterC (hT : TblOk P T) (wr : Bool) {H : World → Prop} {f : FuncId} {fn : Func} {c : Code} {pins : List (Cell × Value)} {xs ins : List Arg} {ι : Type} {φ : ι → Prop} {outs : ι → List Arg} (hf : P.funcs[f]? = some fn) (hb : fn.body = some c) (hn : (fn.name == "runtime.NumGoroutine") = false)
    (h : ∀ B, (∀ w, B.rel w → H w) → Pins B pins → vcW P B (bodyPost P fn fun e w' => ∃ i, φ i ∧ GivesF B w' (outs i) e) (run0 T wr 100000 [.code c] (startC fn.ntmps xs ins))) : MeetsC P H f pins xs ins φ outs := by
  refine ⟨⟨fn, hf, hn, by simp [hb]⟩, fun w vs fps us hvl ho hnd hdis hH hp hul hro => calls_of_wp hf hb ?_⟩
  let B : Base := ⟨w, fun b => b ∈ allFp xs.length fps⟩
  have hrel : B.rel w := ⟨rfl, rfl, rfl, Nat.le_refl _, fun _ _ _ => rfl⟩
  let a : Act := { tmps := (vs ++ us).toArray ++ Array.replicate (fn.ntmps - (vs ++ us).toArray.size) undef, defers := [] }
  have hsz : a.tmps.size = xs.length + ins.length + (fn.ntmps - (xs.length + ins.length)) := by simp [a, hvl, hul]
  let E0 : Env := ⟨fun _ => .slice none 0 0, fun _ => []⟩
  have h0 : (blankN fn.ntmps (xs.length + ins.length)).isA B E0 (fun b => b ∈ allFp xs.length fps) a w := blankN_isA rfl hsz (by simp) (fun _ _ => rfl) hrel
  have nav : ∀ b, ¬ (blankN fn.ntmps (xs.length + ins.length)).avoid E0 b := by
    rintro b (⟨x, hx, _⟩ | ⟨y, hy, _⟩)
    · simp [blankN] at hx
    · simp [blankN] at hy
  obtain ⟨E', hA, hL, hD⟩ := addArgs_ok xs vs fps (blankN fn.ntmps (xs.length + ins.length)) E0 h0 hvl ho hnd hdis (fun i hi b hb' => ⟨List.mem_flatMap.2 ⟨i, List.mem_range.2 hi, hb'⟩, nav b, .inr (List.mem_flatMap.2 ⟨i, List.mem_range.2 hi, hb'⟩)⟩)
  have hS := hA.isA.slotsAt (sl := (addArgs xs (blankN fn.ntmps (xs.length + ins.length))).1 ++ ins.map argAV ++ List.replicate (fn.ntmps - (xs.length + ins.length)) .any) (by rw [hsz]; simp [hL]; try omega) (fun i x hx => by
    have hk : fn.ntmps - (xs.length + ins.length) = fn.ntmps - (vs ++ us).toArray.size := by simp [hvl, hul]
    rw [hk] at hx
    refine den_slots (vs := vs ++ us) (by simp [hL, hvl, hul]) (fun j y hj => ?_) i x hx
    by_cases hjl : j < xs.length
    · rw [List.getElem?_append_left (by rw [hL]; exact hjl)] at hj
      have := hD j y hj
      rwa [show (vs ++ us).getD j undef = vs.getD j undef by simp [List.getD, List.getElem?_append_left (show j < vs.length by omega)]]
    · rw [List.getElem?_append_right (by rw [hL]; omega), hL] at hj
      have := den_ins (E := E') (N := (addArgs xs (blankN fn.ntmps (xs.length + ins.length))).2.next) hul hro _ y hj
      rwa [show (vs ++ us).getD j undef = us.getD (j - xs.length) undef by simp [List.getD, List.getElem?_append_right (show vs.length ≤ j by omega), hvl]])
  exact (go hT wr (h B hH hp)).out E' a w hS.is

/-- The state at the entry of a function that is handed a pointer to block b. -/
def blankP (n k b : Nat) : AS := { next := 1, slots := List.replicate (k + (n - k)) .any, boxes := [], own := [], links := [(0, .pointer (some ⟨b, 0, none⟩))] }

def startP (n b : Nat) (cs : List Cell) (ins : List Arg) : AS :=
  match addCs cs (blankP n (1 + ins.length) b) with
  | (zs, s) => { s with boxes := [⟨0, zs⟩], slots := .box 0 0 :: ins.map argAV ++ List.replicate (n - (1 + ins.length)) .any }

theorem enterP (hT : TblOk P T) (wr : Bool) {H : World → Prop} {f : FuncId} {fn : Func} {c : Code} {pins : List (Cell × Value)} {cs : List Cell} {ins : List Arg} {ι : Type} {φ : ι → Prop} {cs' : ι → List Cell} {outs : ι → List Arg} (hf : P.funcs[f]? = some fn) (hb : fn.body = some c) (hn : (fn.name == "runtime.NumGoroutine") = false)
    (h : ∀ B b, (∀ w, B.rel w → H w) → Pins B pins → vcW P B (bodyPost P fn fun e w' => ∃ i, φ i ∧ GivesP B b w' (cs' i) (outs i) e) (run0 T wr 100000 [.code c] (startP fn.ntmps b cs ins))) : MeetsP P H f pins cs ins φ cs' outs := by
  refine ⟨⟨fn, hf, hn, by simp [hb]⟩, fun w b vs ty fp us hheap ho hnd hbn hH hp hul hro => calls_of_wp hf hb ?_⟩
  let B : Base := ⟨w, fun x => x = b ∨ x ∈ fp⟩
  have hrel : B.rel w := ⟨rfl, rfl, rfl, Nat.le_refl _, fun _ _ _ => rfl⟩
  let pv : Value := .pointer (some ⟨b, 0, none⟩)
  let a : Act := { tmps := (pv :: us).toArray ++ Array.replicate (fn.ntmps - (pv :: us).toArray.size) undef, defers := [] }
  have hsz : a.tmps.size = 1 + ins.length + (fn.ntmps - (1 + ins.length)) := by simp [a, hul]; omega
  let E0 : Env := ⟨fun k => if k = 0 then pv else .slice none 0 0, fun _ => []⟩
  have h0 : (blankP fn.ntmps (1 + ins.length) b).isA B E0 (fun x => x = b ∨ x ∈ fp) a w := blankN_isA rfl hsz (fun p hp' => by
    simp only [List.mem_singleton] at hp'
    subst hp'
    exact ⟨Nat.one_pos, rfl⟩) (fun k _ => by simp only [E0]; split <;> rfl) hrel
  have nav : ∀ x, ¬ (blankP fn.ntmps (1 + ins.length) b).avoid E0 x := by
    rintro b (⟨x, hx, _⟩ | ⟨y, hy, _⟩)
    · simp [blankP] at hx
    · simp [blankP] at hy
  obtain ⟨vs', fps, e1, hvl, hr, rfl⟩ := ho
  obtain rfl : vs = vs' := by simpa using e1
  obtain ⟨E', hA, hL, hD⟩ := addCs_ok cs vs fps (blankP fn.ntmps (1 + ins.length) b) E0 h0 hvl hr hnd (fun x hx => ⟨.inr hx, nav x, .inr (.inr hx)⟩)
  have hk0 := hA.keep 0 Nat.one_pos
  have hβ : E'.β 0 = b := by rw [hk0.1]; rfl
  have hbx : (addCs cs (blankP fn.ntmps (1 + ins.length) b)).2.boxes = [] := addCs_bx cs _
  have hB1 := hA.isA.addBox (k := 0) (Nat.lt_of_lt_of_le Nat.one_pos hA.next) (fun x hx => by rw [hbx] at hx; cases hx) (cells := (addCs cs (blankP fn.ntmps (1 + ins.length) b)).1) (vs := vs.toArray) (ty := ty) (by rw [hβ]; exact hheap) (by simp [hL, hvl])
    (fun i y hy => by
      have := hD i y hy
      rwa [show vs.toArray.getD i undef = vs.getD i undef by rw [← getD_toList]]) (by
      rw [hβ]
      intro hav
      rcases hA.avoid b hav with h | h
      · exact nav _ h
      · exact hbn h) (by rw [hβ]; exact .inl rfl) (by rw [hβ]; exact .inr (.inl rfl))
  rw [hbx] at hB1
  have hS := hB1.slotsAt (sl := .box 0 0 :: ins.map argAV ++ List.replicate (fn.ntmps - (1 + ins.length)) .any) (by rw [hsz]; simp; omega) (fun i x hx => by
    have hk : fn.ntmps - (1 + ins.length) = fn.ntmps - (pv :: us).toArray.size := by simp [hul]; omega
    rw [hk] at hx
    refine den_slots (ys := .box 0 0 :: ins.map argAV) (vs := pv :: us) (by simp [hul]) (fun j y hj => ?_) i x hx
    cases j with
    | zero =>
      simp only [List.getElem?_cons_zero, Option.some.injEq] at hj
      subst hj
      have := Den.box (E := E') (w := w) (A := fun x => x = b ∨ x ∈ (List.range cs.length).flatMap fps) (N := (addCs cs (blankP fn.ntmps (1 + ins.length) b)).2.next) (k := 0) 0 (Nat.lt_of_lt_of_le Nat.one_pos hA.next)
      rw [hβ] at this
      exact this
    | succ j => exact den_ins hul hro j y (by simpa using hj))
  exact (go hT wr (h B b hH hp)).out E' a w hS.is

/-! A function that makes a block and gives the pointer to it. -/

structure GivesN (w w' : World) (cs : List Cell) (e : Ending) : Prop where
  below : Below w.heap.size w w'
  res : ∃ (b : Nat) (vs : List Value) (ty : TypeId) (fp : List Nat), e = .returned (.pointer (some ⟨b, 0, none⟩)) ∧ w.heap.size ≤ b ∧ w'.heap[b]? = some (.cells vs.toArray ty (0, 0)) ∧ OwnArg w' (.agg cs) (.agg vs.toArray) fp ∧ fp.Nodup ∧ b ∉ fp ∧ ∀ x ∈ fp, w.heap.size ≤ x

def MeetsN (P : Program) (f : FuncId) (pins : List (Cell × Value)) (ins : List Arg) {ι : Type} (φ : ι → Prop) (cs : ι → List Cell) : Prop :=
  Callable P f ∧ ∀ (w : World) (us : List Value), us.length = ins.length → PinsAt w (fun _ => False) pins → (∀ i z, ins[i]? = some z → RepArg w (fun _ => False) z (us.getD i undef)) →
    Calls P f us.toArray w fun e w' => ∃ i, φ i ∧ GivesN w w' (cs i) e

theorem enterN (hT : TblOk P T) (wr : Bool) {f : FuncId} {fn : Func} {c : Code} {pins : List (Cell × Value)} {ins : List Arg} {ι : Type} {φ : ι → Prop} {cs : ι → List Cell} (hf : P.funcs[f]? = some fn) (hb : fn.body = some c) (hn : (fn.name == "runtime.NumGoroutine") = false)
    (h : ∀ W, Pins ⟨W, fun _ => False⟩ pins → vcW P ⟨W, fun _ => False⟩ (bodyPost P fn fun e w' => ∃ i, φ i ∧ GivesN W w' (cs i) e) (run0 T wr 100000 [.code c] (start fn.ntmps ins))) : MeetsN P f pins ins φ cs := by
  refine ⟨⟨fn, hf, hn, by simp [hb]⟩, fun w us hl hp hr => calls_of_wp hf hb ?_⟩
  let a : Act := { tmps := us.toArray ++ Array.replicate (fn.ntmps - us.toArray.size) undef, defers := [] }
  have hsz : a.tmps.size = ins.length + (fn.ntmps - ins.length) := by simp [a, hl]
  let E0 : Env := ⟨fun _ => .slice none 0 0, fun _ => []⟩
  have h0 : (blankN fn.ntmps ins.length).isA ⟨w, fun _ => False⟩ E0 (fun _ => False) a w := blankN_isA rfl hsz (by simp) (fun _ _ => rfl) ⟨rfl, rfl, rfl, Nat.le_refl _, fun _ _ _ => rfl⟩
  have hS := h0.slotsAt (sl := ins.map argAV ++ List.replicate (fn.ntmps - ins.length) .any) (by rw [hsz]; simp) (fun i x hx => by
    have hk : fn.ntmps - ins.length = fn.ntmps - us.toArray.size := by simp [hl]
    rw [hk] at hx
    exact den_slots (by simp [hl]) (fun j y hj => den_ins hl hr j y hj) i x hx)
  exact (go hT wr (h w hp)).out E0 a w hS.is

theorem retN (hT : TblOk P T) {W : World} {fn : Func} {ι : Type} {φ : ι → Prop} {cs : ι → List Cell} {s : AS} {k : Nat} {bx : Bx} (i : ι) (hi : φ i) (hx : retAV T fn.results.toList s = some [.box k 0]) (hb : getBx s.boxes k = some bx) (hk : noDup (bx.cells.flatMap keyC) = true) (ho : outCs s.own bx.cells (cs i)) :
    RW ⟨W, fun _ => False⟩ (bodyPost P fn fun e w' => ∃ i, φ i ∧ GivesN W w' (cs i) e) s := by
  refine ⟨fun E a w h => ?_⟩
  obtain ⟨rs, h1, h2, h3, h4⟩ := retAV_ok hT h fn.results.toList _ hx
  obtain ⟨hm, rfl⟩ := getBx_mem hb
  obtain ⟨k1, vs, ty, k2, k3, k4⟩ := h.boxes bx hm
  have hd : Den E w (s.avoid E) s.next (.agg bx.cells) (.agg vs.toList.toArray) := .agg vs.toList (by simpa using k3) (fun i y hi => by rw [getD_toList]; exact k4 i y hi)
  obtain ⟨o1, o2⟩ := outA_ok (x := .agg bx.cells) (o := .agg (cs i)) h ho hd
  have h0 := h4 0 _ rfl
  have hB := h.base
  have hnew : ∀ b, s.avoid E b → W.heap.size ≤ b := fun b hb => (h.fresh b hb).elim id False.elim
  refine ⟨h.defers, resVal rs, ?_, i, hi, ⟨hB.os, hB.tape, hB.output, hB.size, fun k hk => hB.block k hk (fun h => h)⟩, E.β bx.key, vs.toList, ty, _, ?_, hnew _ (.inl ⟨bx, hm, rfl⟩), by simpa using k2, o1, keys_nodup h (noDup_spec hk) o2, fun hb' => ?_, fun x hx => ?_⟩
  · rw [results_eq, Array.mapM_eq_mapM_toList]
    simp only [map_eq_pure_bind, Sem.run_bind, h1, Result.andThen_ok, Sem.run_pure]
    exact congrArg (fun v => Result.ok v w) (resVal_eq rs)
  · match rs, h2 with
    | [r], _ =>
      simp only [List.getD_cons_zero] at h0
      cases h0 with
      | box _ _ => rfl
  · obtain ⟨j, hj, hb'⟩ := List.mem_flatMap.1 hb'
    obtain ⟨y, hy, rfl⟩ := o2 j hj
    exact h.sepB bx hm y hy hb'
  · obtain ⟨j, hj, hx⟩ := List.mem_flatMap.1 hx
    obtain ⟨y, hy, rfl⟩ := o2 j hj
    exact hnew x (.inr ⟨y, hy, hx⟩)

/-- What is known behind it. -/
def afterN (cs : List Cell) (dst : Option Tmp) (s : AS) : AS :=
  match addCs cs { s with next := s.next + 1 } with
  | (zs, s') => ({ s' with boxes := ⟨s.next, zs⟩ :: s'.boxes } : AS).put dst (.box s.next 0)

theorem callN {B : Base} {Q : Exit → Act → World → Prop} {f : FuncId} {xs : List AV} {dst : Option Tmp} {K : List KI} {s : AS} {pins : List (Cell × Value)} {ins : List Arg} {ι : Type} {φ : ι → Prop} {cs : ι → List Cell}
    (hf : MeetsN P f pins ins φ cs) (hp : Pins B pins) (hx : argsOf s xs = some ins) (h : ∀ i, φ i → GW P B Q K (afterN (cs i) dst s)) : CW P B Q false f xs dst K s := by
  refine ⟨⟨hf.1, fun E a w hs vs hl hv => ?_⟩⟩
  obtain ⟨h1, h2⟩ := argsOf_get hx
  refine (hf.2 w vs (by omega) (hp.now hs (fun _ h => h.elim)) (fun i x hi => ?_)).mono (fun e w' ⟨i, hi, hg⟩ => ?_)
  · obtain ⟨y, hy, hc⟩ := h2 i x hi
    exact argOf_rep hs hc (hv i y hy)
  · obtain ⟨hb, b, nvs, ty, fp, rfl, hge, hheap, ho, hnd, hbn, hfr⟩ := hg
    have hA := hs.call hb
    -- a key for the block
    let E1 : Env := E.with s.next b
    have kE := Env.with_keep E s.next b
    have hA1 : ({ s with next := s.next + 1 } : AS).isA B E1 (fun b => s.avoid E b ∨ w.heap.size ≤ b) a w' := by
      have mv : ∀ x v, Den E w' (fun b => s.avoid E b ∨ w.heap.size ≤ b) s.next x v → Den E1 w' (fun b => s.avoid E b ∨ w.heap.size ≤ b) (s.next + 1) x v := fun x v hx => hx.move (Nat.le_succ _) kE (fun _ _ _ => rfl) (fun _ _ h => h)
      have kb : ∀ x ∈ s.boxes, E1.β x.key = E.β x.key := fun x hx => (kE _ (hs.boxes x hx).1).1
      have av : ∀ c, ({ s with next := s.next + 1 } : AS).avoid E1 c → s.avoid E c := by
        rintro c (⟨x, hx, hc⟩ | hc)
        · exact .inl ⟨x, hx, by rw [← kb x hx]; exact hc⟩
        · exact .inr hc
      refine ⟨hA.defers, fun p hp => ⟨Nat.lt_succ_of_lt (hA.links p hp).1, by rw [(kE _ (hA.links p hp).1).2]; exact (hA.links p hp).2⟩, hA.size, fun i x hx => mv _ _ (hA.slots i x hx), fun x hx => ?_, fun x hx y hy e => hA.boxes2 x hx y hy (by rw [← kb x hx, ← kb y hy]; exact e), hA.keys, fun y hy => ?_, hA.ownkeys, hA.sep, fun x hx y hy => ?_, fun k hk => ?_, hA.base, fun c hc => hA.fresh c (av c hc), fun c hc => hA.sub c (av c hc)⟩
      · obtain ⟨g1, ws, ty', g2, g3, g4⟩ := hA.boxes x hx
        exact ⟨Nat.lt_succ_of_lt g1, ws, ty', by rw [kb x hx]; exact g2, g3, fun i y hy => mv _ _ (g4 i y hy)⟩
      · obtain ⟨g1, g2, g3⟩ := hA.own y hy
        exact ⟨Nat.lt_succ_of_lt g1, by rw [(kE _ g1).2]; exact g2, g3⟩
      · rw [kb x hx]
        exact hA.sepB x hx y hy
      · by_cases e : k = s.next
        · subst e; simp [E1, Env.with, Value.oneCell']
        · have hk' : k < s.next := by have : k < s.next + 1 := hk; omega
          rw [(kE _ hk').2]
          exact hA.one k hk'
    have nav : ∀ c, w.heap.size ≤ c → ¬ ({ s with next := s.next + 1 } : AS).avoid E1 c := by
      intro c hc hav
      have : s.avoid E c := by
        rcases hav with ⟨x, hx, hc'⟩ | hc'
        · exact .inl ⟨x, hx, by rw [← (kE _ (hs.boxes x hx).1).1]; exact hc'⟩
        · exact .inr hc'
      have := hs.avoid_lt this
      omega
    obtain ⟨vs', fps, e1, hvl, hr, rfl⟩ := ho
    obtain rfl : nvs = vs' := by simpa using e1
    obtain ⟨E2, hAd, hL, hD⟩ := addCs_ok (cs i) nvs fps { s with next := s.next + 1 } E1 hA1 hvl hr hnd (fun c hc => ⟨.inr (hfr c hc), nav c (hfr c hc), .inl (Nat.le_trans hs.base.size (hfr c hc))⟩)
    have hkk : s.next < (addCs (cs i) { s with next := s.next + 1 }).2.next := Nat.lt_of_lt_of_le (Nat.lt_succ_self _) hAd.next
    have hβ : E2.β s.next = b := by rw [(hAd.keep s.next (Nat.lt_succ_self _)).1]; exact Env.with_self _ _ _
    have hbx : (addCs (cs i) { s with next := s.next + 1 }).2.boxes = s.boxes := addCs_bx _ _
    have hB1 := hAd.isA.addBox (k := s.next) hkk (fun x hx e => by
      rw [hbx] at hx
      have := (hs.boxes x hx).1
      omega) (cells := (addCs (cs i) { s with next := s.next + 1 }).1) (vs := nvs.toArray) (ty := ty) (by rw [hβ]; exact hheap) (by simp [hL, hvl])
      (fun j y hy => by
        have := hD j y hy
        rwa [show nvs.toArray.getD j undef = nvs.getD j undef by rw [← getD_toList]]) (by
        rw [hβ]
        intro hav
        rcases hAd.avoid b hav with h | h
        · exact nav b hge h
        · exact hbn h) (by rw [hβ]; exact .inr hge) (by rw [hβ]; exact .inl (Nat.le_trans hs.base.size hge))
    have hres := Den.box (E := E2) (w := w') (A := fun b => s.avoid E b ∨ w.heap.size ≤ b) (N := (addCs (cs i) { s with next := s.next + 1 }).2.next) (k := s.next) 0 hkk
    rw [hβ] at hres
    have h := h i hi
    unfold afterN at h
    exact ⟨_, rfl, (fun h => by cases h), h.rec fun g => g E2 _ w' ((hB1.put dst hres).is)⟩

/-! The bytes behind a named value; operations on bits. -/

/-- An element of a named slice: its place. -/
theorem idxP (hT : TblOk P T) {B : Base} {pins : List (Cell × Value)} (hF : Pins B pins) {Q : Exit → Act → World → Prop} {q : Bool} {all : Array Oper} {o : Oper} {rest : List Oper} {K : List KI} {s : AS} {x y : Operand} {t e : TypeId} {i i' : TI} (j : Nat) {n es : Nat} {row : Nat → List Cell} {v : Value} {ik : IntKind} {m : Int}
    (hj : pins[j]? = some (.sl n es row, v)) (hg : o.guard = none) (ho : o.op = .indexAddr t x y) (hi : find T t = some i) (he : i.elem = some e) (hi' : find T e = some i') (hes : Nat.beq i'.size es = true) (hx : s.ev x = .c (.val v)) (hy : s.ev y = .c (.val (.int ik m))) (hm : 0 ≤ m ∧ m < (n : Int))
    (h : GW P B Q (.ops q all rest :: K) (s.put o.dst (.el n es row m 0))) : GW P B Q (.ops q all (o :: rest) :: K) s := by
  refine ⟨G_ops_read hg (fun E a w hs => ?_)⟩
  have hrep : Rep w (s.avoid E) (.sl n es row) v := hF.now hs (fun _ h => h) _ (List.mem_of_getElem? hj)
  have hdx := hs.ev x
  rw [hx] at hdx
  have hdy := hs.ev y
  rw [hy] at hdy
  have ex := den_int hdx
  have ey := den_int hdy
  have hes := Nat.eq_of_beq_eq_true hes
  have hund := run_elem_ti (hT t i hi) he
  have hel : P.elem t = e := by simp [Program.elem, hund]
  obtain ⟨dst, op', ty, pos, after, guard⟩ := o
  simp only at ho
  subst ho
  have main : ∀ (u : Value), v = u → Rep w (s.avoid E) (.sl n es row) u → ∃ r, (∀ w', Kept0 w w' → (execOp a.eval ⟨dst, .indexAddr t x y, ty, pos, after, guard⟩).run P w' = .ok (.value r) w') ∧ Den E w (s.avoid E) s.next (.el n es row m 0) r := by
    intro u hu hr
    cases hr with
    | nil => exfalso; have := hm.2; have := hm.1; simp at *; omega
    | emp => exfalso; have := hm.2; have := hm.1; simp at *; omega
    | sl _ _ _ b off cap u' hA hn hc hl hu' hr =>
      refine ⟨.pointer (some ⟨b, off + m.toNat * es + 0, none⟩), fun w' _ => ?_, .el 0 b off cap (.sl n es row b off cap u' hA hn hc hl hu' hr) hm.1 hm.2⟩
      have := run_indexAt_slice (P := P) w' t ⟨b, off, none⟩ n cap ik m (by rw [hel]; exact hund)
      rw [if_pos hm, hel, run_sizeOf_ti (hT _ _ hi')] at this
      simp only [Result.andThen_ok, add_none] at this
      simp only [execOp, ex, hu, ey, Sem.run_bind, this, Result.andThen_ok, hes]
      rfl
  obtain ⟨r, h1, h2⟩ := main v rfl hrep
  exact ⟨r, h1, h.rec fun g => g E _ w (hs.put dst h2)⟩

theorem bits_and (x c : Int) (h0 : 0 ≤ c) (h1 : c ≤ 4611686018427387904) : ∃ r : Int, (∀ w, (Op.intBits .and .i64 x c).run P w = .ok (.int .i64 r) w) ∧ 0 ≤ r ∧ r ≤ c := by
  refine ⟨IntKind.i64.wrap (BitVec.ofInt 64 x &&& BitVec.ofInt 64 c).toNat, fun w => rfl, ?_⟩
  have hle : (BitVec.ofInt 64 x &&& BitVec.ofInt 64 c).toNat ≤ c.toNat := by
    rw [BitVec.toNat_and]
    refine Nat.le_trans Nat.and_le_right ?_
    rw [BitVec.toNat_ofInt]
    omega
  have : ((BitVec.ofInt 64 x &&& BitVec.ofInt 64 c).toNat : Int) ≤ c := by omega
  rw [IntKind.wrap_i64]
  omega

/-- '&' with a number that is not below 0. -/
theorem andW {B : Base} {Q : Exit → Act → World → Prop} {q : Bool} {all : Array Oper} {o : Oper} {rest : List Oper} {K : List KI} {s : AS} {x y : Operand} {t g : TypeId} {m c : Int}
    (hg : o.guard = none) (ho : o.op = .binOp .and t x y g) (hx : s.ev x = .c (.val (.int .i64 m))) (hy : s.ev y = .c (.val (.int .i64 c))) (h0 : 0 ≤ c) (h1 : c ≤ 4611686018427387904)
    (h : ∀ r : Int, 0 ≤ r → r ≤ c → GW P B Q (.ops q all rest :: K) (s.put o.dst (.c (.val (.int .i64 r))))) : GW P B Q (.ops q all (o :: rest) :: K) s := by
  refine ⟨G_ops_read hg (fun E a w hs => ?_)⟩
  have hdx := hs.ev x
  rw [hx] at hdx
  have hdy := hs.ev y
  rw [hy] at hdy
  have ex := den_int hdx
  have ey := den_int hdy
  obtain ⟨dst, op', ty, pos, after, guard⟩ := o
  simp only at ho
  subst ho
  obtain ⟨r, r1, r2, r3⟩ := bits_and (P := P) m c h0 h1
  refine ⟨.int .i64 r, fun w' _ => ?_, (h r r2 r3).rec fun g => g E _ w (hs.put dst (.c (.val _ rfl)))⟩
  have hb : binOp .and t (.int .i64 m) (.int .i64 c) = Op.intBits .and .i64 m c := by simp [binOp]
  simp only [execOp, ex, ey, Sem.run_bind, eqGuard_int, Result.andThen_ok, hb, r1]
  rfl

/-- '^': some number. -/
theorem xorW {B : Base} {Q : Exit → Act → World → Prop} {q : Bool} {all : Array Oper} {o : Oper} {rest : List Oper} {K : List KI} {s : AS} {x y : Operand} {t g : TypeId} {m c : Int}
    (hg : o.guard = none) (ho : o.op = .binOp .xor t x y g) (hx : s.ev x = .c (.val (.int .i64 m))) (hy : s.ev y = .c (.val (.int .i64 c)))
    (h : ∀ r : Int, GW P B Q (.ops q all rest :: K) (s.put o.dst (.c (.val (.int .i64 r))))) : GW P B Q (.ops q all (o :: rest) :: K) s := by
  refine ⟨G_ops_read hg (fun E a w hs => ?_)⟩
  have hdx := hs.ev x
  rw [hx] at hdx
  have hdy := hs.ev y
  rw [hy] at hdy
  have ex := den_int hdx
  have ey := den_int hdy
  obtain ⟨dst, op', ty, pos, after, guard⟩ := o
  simp only at ho
  subst ho
  have hr : ∀ w, (binOp .xor t (.int .i64 m) (.int .i64 c)).run P w = .ok (.int .i64 (IntKind.i64.wrap (BitVec.ofInt 64 m ^^^ BitVec.ofInt 64 c).toNat)) w := fun w => by
    have hb : binOp .xor t (.int .i64 m) (.int .i64 c) = Op.intBits .xor .i64 m c := by simp [binOp]
    rw [hb]
    rfl
  refine ⟨_, fun w' _ => ?_, (h (IntKind.i64.wrap (BitVec.ofInt 64 m ^^^ BitVec.ofInt 64 c).toNat)).out E _ w (hs.put dst (.c (.val _ rfl)))⟩
  simp only [execOp, ex, ey, Sem.run_bind, eqGuard_int, Result.andThen_ok, hr]
  rfl

/-- '>>': some number. -/
theorem shrW {B : Base} {Q : Exit → Act → World → Prop} {q : Bool} {all : Array Oper} {o : Oper} {rest : List Oper} {K : List KI} {s : AS} {x y : Operand} {t g : TypeId} {m c : Int} {kc : IntKind}
    (hg : o.guard = none) (ho : o.op = .binOp .shr t x y g) (hx : s.ev x = .c (.val (.int .i64 m))) (hy : s.ev y = .c (.val (.int kc c))) (hc : 0 ≤ c)
    (h : ∀ r : Int, GW P B Q (.ops q all rest :: K) (s.put o.dst (.c (.val (.int .i64 r))))) : GW P B Q (.ops q all (o :: rest) :: K) s := by
  refine ⟨G_ops_read hg (fun E a w hs => ?_)⟩
  have hdx := hs.ev x
  rw [hx] at hdx
  have hdy := hs.ev y
  rw [hy] at hdy
  have ex := den_int hdx
  have ey := den_int hdy
  obtain ⟨dst, op', ty, pos, after, guard⟩ := o
  simp only at ho
  subst ho
  have hr : ∀ w, (binOp .shr t (.int .i64 m) (.int kc c)).run P w = .ok (.int .i64 (m.fdiv (2 ^ min c.toNat 64))) w := fun w => by
    have : ¬ c < 0 := by omega
    simp [binOp, Op.shift, this, IntKind.bits]
  refine ⟨_, fun w' _ => ?_, (h (m.fdiv (2 ^ min c.toNat 64))).out E _ w (hs.put dst (.c (.val _ rfl)))⟩
  simp only [execOp, ex, ey, Sem.run_bind, eqGuard_int, Result.andThen_ok, hr]
  rfl

end Go.Sx

/- Regions that draw their order, walked operation by operation: for calls that change what a pointer shows. -/
set_option maxRecDepth 100000
namespace Go.Sx
open Go
open Go.RowKit (Below)
variable {P : Program} {T : List (TypeId × TI)}

/-- It ends, and then N holds. -/
def QN (N : Act → World → Prop) : Exit → Act → World → Prop
  | .normal, a, w => N a w
  | _, _, _ => False

def QF : Exit → Act → World → Prop := fun _ _ _ => False

theorem notOut (N : Act → World → Prop) : ¬ LetsOut (QN N) := fun ⟨_, _, h⟩ => h

/-- What is left of a region. -/
inductive AW (P : Program) (B : Base) (N : Act → World → Prop) (ops : Array Oper) (fuel : Nat) (listed : Array Bool) (s : AS) : Prop
  | mk (h : ∀ E a w, s.is B E a w → wpAny P .any ops (QN N) fuel listed a w) : AW P B N ops fuel listed s

theorem AW.out {B : Base} {N : Act → World → Prop} {ops : Array Oper} {fuel : Nat} {listed : Array Bool} {s : AS} (h : AW P B N ops fuel listed s) : ∀ E a w, s.is B E a w → wpAny P .any ops (QN N) fuel listed a w := h.rec fun h => h

theorem Oper.wp_Q {o : Oper} {a : Act} {w : World} {K : Act → World → Prop} {Q Q' : Exit → Act → World → Prop} (hq : ∀ e a w, e ≠ .normal → Q e a w → Q' e a w) (h : o.wp P a w K Q) : o.wp P a w K Q' := by
  have hl : LetsOut Q → LetsOut Q' := fun ⟨a, w, h⟩ => ⟨a, w, hq _ _ _ (by simp) h⟩
  unfold Oper.wp at *
  generalize (execOp a.eval o).run P w = r at *
  cases r with
  | ok n w' =>
    cases n <;> simp only [Oper.upon] at h ⊢ <;>
      first
        | exact h
        | exact Calls.mono h (fun e w'' he => by cases e <;> first | exact he | exact hq _ _ _ (by simp) he | exact hl he)
  | halt x w' => cases x <;> simp only [Oper.upon] at h ⊢ <;> first | exact h | exact hq _ _ _ (by simp) h

theorem wpAny_Q {ops : Array Oper} {Q Q' : Exit → Act → World → Prop} (hq : ∀ e a w, Q e a w → Q' e a w) : ∀ (fuel : Nat) (listed : Array Bool) (a : Act) (w : World), wpAny P .any ops Q fuel listed a w → wpAny P .any ops Q' fuel listed a w
  | 0, _, _, _, h => ⟨h.1, hq _ _ _ h.2⟩
  | fuel + 1, listed, a, w, h => ⟨fun h0 => hq _ _ _ (h.1 h0), fun i hi => by
      have := wpOp_mono (fun a w => wpAny_Q hq fuel _ a w) (h.2 i hi)
      have hl : LetsOut Q → LetsOut Q' := fun ⟨a, w, h⟩ => ⟨a, w, hq _ _ _ h⟩
      unfold wpOp at *
      split
      · rename_i ho; simpa only [ho] using this
      · rename_i o ho
        simp only [ho] at this
        split
        · rename_i hw; simp only [hw, if_true] at this; exact this.imp (Oper.wp_Q fun e a w _ => hq e a w) (fun ⟨h1, h2⟩ => ⟨h1, hl h2⟩)
        · rename_i hw; rw [if_neg hw] at this; exact this⟩

/-- A region that draws its order is taken operation by operation. -/
theorem drawA (hm : P.follows .mixedOrders = true) {B : Base} {Q : Exit → Act → World → Prop} {id : Nat} {ops : Array Oper} {K : List KI} {s : AS} (h : AW P B (fun a w => post P Q K .normal a w) ops ops.size (Array.replicate ops.size false) s) : GW P B Q (.code (.region id ops true) :: K) s :=
  ⟨fun E a w hs => wp_region_any hm (wpAny_Q (fun e a w he => by cases e <;> first | exact he | exact he.elim) _ _ _ _ (h.out E a _ (hs.call (w' := { w with drawn := w.drawn + 1 }) ⟨rfl, rfl, rfl, Nat.le_refl _, fun _ _ => rfl⟩).is))⟩

theorem doneA {B : Base} {Q : Exit → Act → World → Prop} {ops : Array Oper} {K : List KI} {s : AS} {listed : Array Bool} (hr : (Region.ready .any ops listed).isEmpty = true) (h : GW P B Q K s) : AW P B (fun a w => post P Q K .normal a w) ops 0 listed s :=
  ⟨fun E a w hs => ⟨by simpa using hr, h.out E a w hs⟩⟩

/-- Each operation that may come next. -/
def allAW (P : Program) (B : Base) (N : Act → World → Prop) (ops : Array Oper) (fuel : Nat) (listed : Array Bool) (s : AS) : List Nat → Prop
  | [] => True
  | i :: r => (match ops[i]? with
    | some o => GW P B QF [.ops false ops [o], .loop (fun a w => wpAny P .any ops (QN N) fuel (listed.setIfInBounds i true) a w)] s
    | none => False) ∧ allAW P B N ops fuel listed s r

theorem allAW_mem {B : Base} {N : Act → World → Prop} {ops : Array Oper} {fuel : Nat} {listed : Array Bool} {s : AS} {l : List Nat} (h : allAW P B N ops fuel listed s l) {i : Nat} (hi : i ∈ l) :
    ∃ o, ops[i]? = some o ∧ GW P B QF [.ops false ops [o], .loop (fun a w => wpAny P .any ops (QN N) fuel (listed.setIfInBounds i true) a w)] s := by
  induction l with
  | nil => simp at hi
  | cons j r ih =>
    obtain ⟨h1, h2⟩ := h
    rcases List.mem_cons.1 hi with rfl | hi
    · split at h1
      · rename_i o ho; exact ⟨o, ho, h1⟩
      · exact h1.elim
    · exact ih h2 hi

def eqL (a b : List Nat) : Bool :=
  match a, b with
  | [], [] => true
  | x :: a, y :: b => match Nat.beq x y with
    | true => eqL a b
    | false => false
  | _, _ => false
theorem eqL_eq {a b : List Nat} (h : eqL a b = true) : a = b := by
  induction a generalizing b with
  | nil => cases b <;> simp_all [eqL]
  | cons x a ih =>
    cases b with
    | nil => simp [eqL] at h
    | cons y b =>
      unfold eqL at h
      split at h
      · rename_i e; rw [Nat.eq_of_beq_eq_true e, ih h]
      · simp at h

theorem splitA {B : Base} {N : Act → World → Prop} {ops : Array Oper} {fuel : Nat} {listed : Array Bool} {s : AS} (l : List Nat) (hr : (eqL (Region.ready .any ops listed) l && !l.isEmpty) = true) (h : allAW P B N ops fuel listed s l) : AW P B N ops (fuel + 1) listed s := by
  simp only [Bool.and_eq_true, Bool.not_eq_true'] at hr
  have hr1 := eqL_eq hr.1
  refine ⟨fun E a w hs => ⟨fun h0 => ?_, fun i hi => ?_⟩⟩
  · rw [hr1] at h0
    rw [h0] at hr
    simp at hr
  · rw [hr1] at hi
    obtain ⟨o, ho, hg⟩ := allAW_mem h hi
    have := hg.out E a w hs
    change wpList P ops (Exit.then _ QF) [o] a w at this
    unfold wpList at this
    unfold wpOp
    simp only [ho]
    split
    · rename_i hw
      rw [if_pos hw] at this
      refine .inl ?_
      rcases this with h1 | ⟨_, a', w', h1⟩
      · exact Oper.wp_Q (fun e a w hne he => by cases e <;> first | exact absurd rfl hne | exact he.elim) h1
      · exact h1.elim
    · rename_i hw
      rw [if_neg hw] at this
      exact this

theorem loopA {B : Base} {N : Act → World → Prop} {ops : Array Oper} {fuel : Nat} {listed : Array Bool} {s : AS} (h : AW P B N ops fuel listed s) : GW P B QF [.loop (fun a w => wpAny P .any ops (QN N) fuel listed a w)] s :=
  ⟨fun E a w hs => h.out E a w hs⟩

/-- Operations that look at no world. -/
def pureOp : Op → Bool
  | .move _ => true
  | .assign _ => true
  | .binOp _ _ _ _ _ => true
  | .fieldAddr _ _ _ => true
  | .nilCheck _ => true
  | _ => false

theorem step_pure (hT : TblOk P T) {wr : Bool} {s : AS} {op : Op} {ps : List Prop} {x : AV} (hp0 : pureOp op = true) (hs : step T wr s op = .ok ps x) (hp : ∀ p ∈ ps, p) {B : Base} {E : Env} {a : Act} {w : World} (h : s.is B E a w)
    (o : Oper) (ho : o.op = op) : ∃ v, (∀ w', (execOp a.eval o).run P w' = .ok (.value v) w') ∧ Den E w (s.avoid E) s.next x v := by
  obtain ⟨dst, op', ty, pos, after, guard⟩ := o
  simp only at ho
  subst ho
  cases op' <;> simp only [pureOp, Bool.false_eq_true] at hp0
  case move y =>
    simp only [step, Step.ok.injEq] at hs
    obtain ⟨rfl, rfl⟩ := hs
    exact ⟨a.eval y, fun w' => by simp [execOp], h.ev y⟩
  case assign y =>
    simp only [step, Step.ok.injEq] at hs
    obtain ⟨rfl, rfl⟩ := hs
    exact ⟨a.eval y, fun w' => by simp [execOp], h.ev y⟩
  case binOp b t y z g =>
    simp only [step] at hs
    obtain ⟨r, h1, h2⟩ := bin_ok hT hs hp (h.ev y) (h.ev z) y z
    refine ⟨r, fun w' => ?_, h2⟩
    have h1 := h1 w'
    simp only [execOp, Sem.run_bind]
    simp only [Sem.run_bind] at h1
    rw [h1]
    rfl
  case fieldAddr t y f =>
    simp only [step] at hs
    have hy := h.ev y
    split at hs
    · rename_i o u hf
      split at hs
      · rename_i k off hsz e
        obtain ⟨j, hj, hjs⟩ := Option.map_eq_some_iff.1 hsz
        rw [e] at hy
        simp only [Step.ok.injEq] at hs
        obtain ⟨rfl, rfl⟩ := hs
        generalize hv : a.eval y = v at hy
        cases hy with
        | box _ hk => exact ⟨_, fun w' => by simp only [execOp, hv, Sem.run_bind, run_fieldAt hT hf hj (Nat.le_of_ble_eq_true hjs), Result.andThen_ok]; rfl, .box _ hk⟩
      · rename_i n es row j' off hsz e
        obtain ⟨j, hj, hjs⟩ := Option.map_eq_some_iff.1 hsz
        rw [e] at hy
        simp only [Step.ok.injEq] at hs
        obtain ⟨rfl, rfl⟩ := hs
        generalize hv : a.eval y = v at hy
        cases hy with
        | el _ b o' cap hr h0 hi => exact ⟨_, fun w' => by simp only [execOp, hv, Sem.run_bind, run_fieldAt hT hf hj (Nat.le_of_ble_eq_true hjs), Result.andThen_ok]; rfl, by rw [Nat.add_assoc]; exact .el _ b o' cap hr h0 hi⟩
      · rename_i k es j' off hsz e
        obtain ⟨j, hj, hjs⟩ := Option.map_eq_some_iff.1 hsz
        rw [e] at hy
        simp only [Step.ok.injEq] at hs
        obtain ⟨rfl, rfl⟩ := hs
        generalize hv : a.eval y = v at hy
        cases hy with
        | oel _ b o' n cap hk hov h0 hi => exact ⟨_, fun w' => by simp only [execOp, hv, Sem.run_bind, run_fieldAt hT hf hj (Nat.le_of_ble_eq_true hjs), Result.andThen_ok]; rfl, by rw [Nat.add_assoc]; exact .oel _ b o' n cap hk hov h0 hi⟩
      · simp at hs
    · simp at hs
  case nilCheck y =>
    simp only [step] at hs
    have hy := h.ev y
    split at hs
    · rename_i k off e
      rw [e] at hy
      simp only [Step.ok.injEq] at hs
      obtain ⟨rfl, rfl⟩ := hs
      generalize hv : a.eval y = v at hy
      cases hy with
      | box _ hk => exact ⟨_, fun w' => by simp only [execOp, hv]; rfl, .box _ hk⟩
    · rename_i n es row j off e
      rw [e] at hy
      simp only [Step.ok.injEq] at hs
      obtain ⟨rfl, rfl⟩ := hs
      generalize hv : a.eval y = v at hy
      cases hy with
      | el _ b o' cap hr h0 hi => exact ⟨_, fun w' => by simp only [execOp, hv]; rfl, .el _ b o' cap hr h0 hi⟩
    · rename_i k es j off e
      rw [e] at hy
      simp only [Step.ok.injEq] at hs
      obtain ⟨rfl, rfl⟩ := hs
      generalize hv : a.eval y = v at hy
      cases hy with
      | oel _ b o' n cap hk hov h0 hi => exact ⟨_, fun w' => by simp only [execOp, hv]; rfl, .oel _ b o' n cap hk hov h0 hi⟩
    · simp at hs


def freeA (ops : Array Oper) (listed : Array Bool) (i : Nat) (oi : Oper) : Bool :=
  (List.range ops.size).all fun j => j == i || listed.getD j true || match ops[j]? with
    | some oj => (oj.after.toList.any fun e => Region.binds .any e && e.on == i) || oi.apart ops oj
    | none => true

/-- An operation that looks at no world is taken first. -/
theorem preA (hT : TblOk P T) (wr : Bool) {B : Base} {N : Act → World → Prop} {ops : Array Oper} {fuel : Nat} {listed : Array Bool} {s : AS} (i : Nat) {o : Oper} (hi : ops[i]? = some o) (hg : o.guard = none) (hk : pureOp o.op = true)
    (hb : (Region.noSelect ops && (Region.ready .any ops listed).contains i && freeA ops listed i o) = true) {ps : List Prop} {x : AV} (hst : step T wr s o.op = .ok ps x) (hp : ∀ p ∈ ps, p)
    (h : AW P B N ops fuel (listed.setIfInBounds i true) (s.put o.dst x)) : AW P B N ops (fuel + 1) listed s := by
  simp only [Bool.and_eq_true, List.contains_iff_mem] at hb
  obtain ⟨⟨h1, h2⟩, h3⟩ := hb
  refine ⟨fun E a w hs => ?_⟩
  obtain ⟨v, hv, hd⟩ := step_pure hT hk hst hp hs o rfl
  refine wpAny_first hi (Region.noSelect_spec h1) (fun c a w hq => hq) fuel listed a w (fun j oj hoj hji hun hno => ?_) h2 (.inl ⟨by simp [Region.wanted, hg], hv⟩) (h.out E _ w (hs.put o.dst hd))
  have := List.all_eq_true.1 h3 j (List.mem_range.2 (Array.getElem?_eq_some_iff.1 hoj).1)
  simp only [hoj, hun, Bool.or_false, Bool.or_eq_true, beq_iff_eq, hji, false_or, List.any_eq_true, Bool.and_eq_true] at this
  rcases this with ⟨e, he, hb, hon⟩ | h
  · exact absurd hon (hno e (Array.mem_toList_iff.1 he) hb)
  · exact h


def andL (ps : List Prop) : Prop :=
  match ps with
  | [] => True
  | p :: r => p ∧ andL r
theorem andL_mem {ps : List Prop} (h : andL ps) : ∀ p ∈ ps, p := by
  induction ps with
  | nil => simp
  | cons q r ih =>
    intro p hp
    rcases List.mem_cons.1 hp with rfl | hp
    · exact h.1
    · exact ih h.2 p hp


/-- Before a call: what is owned is described otherwise. -/
theorem castC {B : Base} {Q : Exit → Act → World → Prop} {q : Bool} {f : FuncId} {xs : List AV} {dst : Option Tmp} {K : List KI} {s : AS} (k : Nat) (c' : Cell) {c : Cell} (hk : getOwn s.own k = some c) (hc : CastOk c c')
    (h : CW P B Q q f xs dst K { s with own := setOw s.own k c' }) : CW P B Q q f xs dst K s := by
  obtain ⟨h0, h⟩ := h
  refine ⟨⟨h0, fun E a w hs vs hl hv => ?_⟩⟩
  have hm := getOwn_mem hk
  have av : ∀ b, ({ s with own := setOw s.own k c' } : AS).avoid E b → s.avoid E b := by
    rintro b (hb | ⟨y, hy, hb⟩)
    · exact .inl hb
    · obtain ⟨z, hz, e⟩ := setOw_key hy
      exact .inr ⟨z, hz, by rw [e]; exact hb⟩
  have mv : ∀ x v, Den E w (s.avoid E) s.next x v → Den E w (({ s with own := setOw s.own k c' } : AS).avoid E) s.next x v := fun x v hx =>
    hx.move (Nat.le_refl _) (fun _ _ => ⟨rfl, rfl⟩) (fun _ _ _ => rfl) (fun b _ hb => av b hb)
  refine h E a w ⟨hs.defers, hs.links, hs.size, fun i x hx => mv _ _ (hs.slots i x hx), fun x hx => ?_, hs.boxes2, hs.keys, fun y hy => ?_, by rw [setOw_keys]; exact hs.ownkeys, fun y hy z hz hne => ?_, fun x hx y hy => ?_, hs.one, hs.base, fun b hb => hs.fresh b (av b hb)⟩ vs hl (fun i x hx => mv _ _ (hv i x hx))
  · obtain ⟨h1, vs, ty, h2, h3, h4⟩ := hs.boxes x hx
    exact ⟨h1, vs, ty, h2, h3, fun i y hy => mv _ _ (h4 i y hy)⟩
  · rcases setOw_mem hy with ⟨h1, h2, _⟩ | ⟨h1, _⟩
    · obtain ⟨g1, g2, g3⟩ := hs.own _ hm
      rw [h1, h2]
      exact ⟨g1, hc.own g2, g3⟩
    · exact hs.own y h1
  · obtain ⟨y', hy', e1⟩ := setOw_key hy
    obtain ⟨z', hz', e2⟩ := setOw_key hz
    rw [← e1, ← e2]
    exact hs.sep y' hy' z' hz' (by rw [e1, e2]; exact hne)
  · obtain ⟨y', hy', e1⟩ := setOw_key hy
    rw [← e1]
    exact hs.sepB x hx y' hy'

/-- The rows of a list that is written out. -/
def rowsAre {α : Type} (e : α → List Cell) (row : Nat → List Cell) : Nat → List α → Prop
  | _, [] => True
  | k, x :: r => row k = e x ∧ rowsAre e row (k + 1) r

theorem rowsAre_get {α : Type} [Inhabited α] {e : α → List Cell} {row : Nat → List Cell} : ∀ {k : Nat} {xs : List α}, rowsAre e row k xs → ∀ i, i < xs.length → row (k + i) = e (xs.getD i default)
  | _, [], _, i, hi => by simp at hi
  | k, x :: r, h, 0, _ => h.1
  | k, x :: r, h, i + 1, hi => by
    have := rowsAre_get h.2 i (by simpa using hi)
    rw [show k + (i + 1) = k + 1 + i by omega]
    simpa using this

theorem cast_rows {α : Type} [Inhabited α] {n es : Nat} {e : α → List Cell} {row : Nat → List Cell} {xs : List α} (hn : n = xs.length) (h : rowsAre e row 0 xs) : CastOk (.sl n es row) (slC es e xs) := by
  subst hn
  refine cast_slC fun i hi => ?_
  have := rowsAre_get h i hi
  rw [Nat.zero_add] at this
  rw [this]
  exact CastL.rfl' _


theorem remOs_nil (l : List Ow) : remOs [] l = l := by
  induction l with
  | nil => rfl
  | cons x r ih => exact congrArg (x :: ·) ih

theorem dropK_nil (s : AS) : dropK [] s = s := by
  obtain ⟨n, sl, bx, ow, lk⟩ := s
  exact congrArg (fun o => AS.mk n sl bx o lk) (remOs_nil ow)

/-- A call that is handed nothing to keep, its results one of many, owned. -/
theorem callC0 {B : Base} {Q : Exit → Act → World → Prop} {f : FuncId} {xs : List AV} {dst : Option Tmp} {K : List KI} {s : AS} {ins : List Arg} {ι : Type} {φ : ι → Prop} {outs : ι → List Arg}
    (hf : MeetsC P (fun _ => True) f [] [] ins φ outs) (hx : argsX s.own xs = some ins) (h : ∀ i, φ i → GW P B Q K ((addRes (outs i) s).2.put dst (addRes (outs i) s).1)) : CW P B Q false f xs dst K s :=
  callC [] hf (fun _ _ => trivial) (fun p hp => by cases hp) trivial rfl (by
    rw [show remOs (([] : List AV).flatMap keysA) s.own = s.own from remOs_nil _]; exact hx) (fun i hi => by
    have := h i hi
    rw [show dropK (([] : List AV).flatMap keysA) s = s from dropK_nil s]
    exact this)


/-- Keys are set aside. -/
theorem bumpW {B : Base} {Q : Exit → Act → World → Prop} {K : List KI} {s : AS} (n : Nat) (h : GW P B Q K { s with next := s.next + n }) : GW P B Q K s := by
  refine ⟨fun E a w hs => ?_⟩
  let E' : Env := ⟨fun k => if k < s.next then E.ov k else .slice none 0 0, E.fp⟩
  have kE : ∀ k, k < s.next → E'.β k = E.β k ∧ E'.ov k = E.ov k := fun k hk => by
    have h : E'.ov k = E.ov k := by simp [E', hk]
    exact ⟨Env.β_of h, h⟩
  have kb : ∀ x ∈ s.boxes, E'.β x.key = E.β x.key := fun x hx => (kE _ (hs.boxes x hx).1).1
  have av : ∀ b, ({ s with next := s.next + n } : AS).avoid E' b → s.avoid E b := by
    rintro b (⟨x, hx, hb⟩ | hb)
    · exact .inl ⟨x, hx, by rw [← kb x hx]; exact hb⟩
    · exact .inr hb
  have mv : ∀ x v, Den E w (s.avoid E) s.next x v → Den E' w (({ s with next := s.next + n } : AS).avoid E') (s.next + n) x v := fun x v hx =>
    hx.move (Nat.le_add_right _ _) kE (fun _ _ _ => rfl) (fun b _ hb => av b hb)
  refine h.out E' a w ⟨hs.defers, fun p hp => ⟨Nat.lt_of_lt_of_le (hs.links p hp).1 (Nat.le_add_right _ _), by rw [(kE _ (hs.links p hp).1).2]; exact (hs.links p hp).2⟩, hs.size, fun i x hx => mv _ _ (hs.slots i x hx), fun x hx => ?_, fun x hx y hy e => hs.boxes2 x hx y hy (by rw [← kb x hx, ← kb y hy]; exact e), hs.keys, fun y hy => ?_, hs.ownkeys, hs.sep, fun x hx y hy => ?_, fun k _ => ?_, hs.base, fun b hb => hs.fresh b (av b hb)⟩
  · obtain ⟨h1, vs, ty, h2, h3, h4⟩ := hs.boxes x hx
    exact ⟨Nat.lt_of_lt_of_le h1 (Nat.le_add_right _ _), vs, ty, by rw [kb x hx]; exact h2, h3, fun i y hy => mv _ _ (h4 i y hy)⟩
  · obtain ⟨h1, h2, h3⟩ := hs.own y hy
    exact ⟨Nat.lt_of_lt_of_le h1 (Nat.le_add_right _ _), by rw [(kE _ h1).2]; exact h2, h3⟩
  · rw [kb x hx]
    exact hs.sepB x hx y hy
  · simp only [E']
    split
    · rename_i hk; exact hs.one k hk
    · rfl


def rowsCast {α : Type} (e : α → List Cell) (row : Nat → List Cell) : Nat → List α → Prop
  | _, [] => True
  | k, x :: r => CastL (row k) (e x) ∧ rowsCast e row (k + 1) r

theorem rowsCast_get {α : Type} [Inhabited α] {e : α → List Cell} {row : Nat → List Cell} : ∀ {k : Nat} {xs : List α}, rowsCast e row k xs → ∀ i, i < xs.length → CastL (row (k + i)) (e (xs.getD i default))
  | _, [], _, i, hi => by simp at hi
  | k, x :: r, h, 0, _ => h.1
  | k, x :: r, h, i + 1, hi => by
    have := rowsCast_get h.2 i (by simpa using hi)
    rw [show k + (i + 1) = k + 1 + i by omega]
    simpa using this

theorem cast_rowsC {α : Type} [Inhabited α] {n es : Nat} {e : α → List Cell} {row : Nat → List Cell} {xs : List α} (hn : n = xs.length) (h : rowsCast e row 0 xs) : CastOk (.sl n es row) (slC es e xs) := by
  subst hn
  refine cast_slC fun i hi => ?_
  have := rowsCast_get h i hi
  rwa [Nat.zero_add] at this


/-- As callC0, with values known by name. -/
theorem callC1 {B : Base} {Q : Exit → Act → World → Prop} {H : World → Prop} {f : FuncId} {xs : List AV} {dst : Option Tmp} {K : List KI} {s : AS} {pins : List (Cell × Value)} {ins : List Arg} {ι : Type} {φ : ι → Prop} {outs : ι → List Arg}
    (hf : MeetsC P H f pins [] ins φ outs) (hH : ∀ w, B.rel w → H w) (hp : Pins B pins) (hx : argsX s.own xs = some ins) (h : ∀ i, φ i → GW P B Q K ((addRes (outs i) s).2.put dst (addRes (outs i) s).1)) : CW P B Q false f xs dst K s :=
  callC [] hf hH hp trivial rfl (by
    rw [show remOs (([] : List AV).flatMap keysA) s.own = s.own from remOs_nil _]; exact hx) (fun i hi => by
    have := h i hi
    rw [show dropK (([] : List AV).flatMap keysA) s = s from dropK_nil s]
    exact this)

/-- The entry of a function whose one argument is a slice: its value by name. -/
theorem enterV (hT : TblOk P T) (wr : Bool) {f : FuncId} {fn : Func} {c : Code} {n es : Nat} {row : Nat → List Cell} {outs : List Arg} (hf : P.funcs[f]? = some fn) (hb : fn.body = some c) (hn : (fn.name == "runtime.NumGoroutine") = false)
    (h : ∀ W a cp, Pins ⟨W, fun _ => False⟩ [(.sl n es row, .slice a n cp)] → vcW P ⟨W, fun _ => False⟩ (bodyPost P fn fun e w' => Gives W w' outs e) (run0 T wr 100000 [.code c] (start fn.ntmps [.one (.val (.slice a n cp))]))) : Meets P f [.one (.sl n es row)] outs := by
  refine ⟨⟨fn, hf, hn, by simp [hb]⟩, fun w vs hl hv => ?_⟩
  have h0 : Rep w (fun _ => False) (.sl n es row) (vs.getD 0 undef) := hv 0 _ rfl
  have hs : ∃ a cp, vs.getD 0 undef = .slice a n cp := by
    generalize vs.getD 0 undef = v at h0
    cases h0 with
    | nil => exact ⟨_, _, rfl⟩
    | emp => exact ⟨_, _, rfl⟩
    | sl => exact ⟨_, _, rfl⟩
  obtain ⟨a, cp, he⟩ := hs
  have hpin : Pins ⟨w, fun _ => False⟩ [(.sl n es row, .slice a n cp)] := fun p hp => by
    simp only [List.mem_singleton] at hp
    subst hp
    rw [← he]
    exact h0
  have hm : MeetsT P (fun w' => Pins ⟨w', fun _ => False⟩ [(.sl n es row, .slice a n cp)]) f [.one (.val (.slice a n cp))] outs :=
    enterT hT wr hf hb hn fun W hW => h W a cp hW
  refine hm.2 w hpin vs (by simpa using hl) (fun i x hi => ?_)
  match i, hi with
  | 0, hi =>
    simp only [List.getElem?_cons_zero, Option.some.injEq] at hi
    subst hi
    rw [he]
    exact .val _ rfl


/-- An argument that is nil is taken for an empty slice. -/
theorem nilC {B : Base} {Q : Exit → Act → World → Prop} {q : Bool} {f : FuncId} {xs : List AV} {dst : Option Tmp} {K : List KI} {s : AS} (i es : Nat) (row : Nat → List Cell) (hi : nth xs i = .c (.val (.slice none 0 0)))
    (h : CW P B Q q f (setNth xs i (.c (.sl 0 es row))) dst K s) : CW P B Q q f xs dst K s := by
  obtain ⟨h⟩ := h
  refine ⟨h.1, fun E a w hs vs hl hv => h.2 E a w hs vs (by rw [setNth_length]; exact hl) fun m z hz => ?_⟩
  rw [setNth_get] at hz
  split at hz
  · rename_i hm
    obtain ⟨rfl, hm⟩ := hm
    obtain rfl := Option.some.inj hz
    have hd := hv i (.c (.val (.slice none 0 0))) (by rw [nth_get, List.getElem?_eq_getElem hm] at hi; rw [List.getElem?_eq_getElem hm]; simpa using hi)
    rw [den_int hd]
    exact .c (.nil es row)
  · exact hv m z hz


theorem MeetsP.weak {H : World → Prop} {f : FuncId} {pins : List (Cell × Value)} {cs : List Cell} {ins : List Arg} {ι : Type} {φ φ' : ι → Prop} {cs' : ι → List Cell} {outs : ι → List Arg} (h : MeetsP P H f pins cs ins φ cs' outs) (hφ : ∀ i, φ i → φ' i) : MeetsP P H f pins cs ins φ' cs' outs :=
  ⟨h.1, fun w b vs ty fp us h1 h2 h3 h4 h5 h6 h7 h8 => (h.2 w b vs ty fp us h1 h2 h3 h4 h5 h6 h7 h8).mono fun _ _ ⟨i, hi, hg⟩ => ⟨i, hφ i hi, hg⟩⟩

/-- What is true of all of a list is true of each of them. -/
theorem getD_all {α : Type} {p : α → Prop} : ∀ (xs : List α) (k : Nat) (d : α), (∀ x ∈ xs, p x) → p d → p (xs.getD k d)
  | [], _, _, _, hd => hd
  | x :: _, 0, _, h, _ => h x (by simp)
  | _ :: r, k + 1, d, h, hd => by simpa using getD_all r k d (fun y hy => h y (List.mem_cons_of_mem _ hy)) hd

end Go.Sx

/- Contracts under a condition on memory, called from functions that may change what came in. -/
set_option maxRecDepth 100000
namespace Go.Sx
open Go
open Go.RowKit (Below)
variable {P : Program} {T : List (TypeId × TI)}

theorem call_ownH {B : Base} {H : World → Prop} {Q : Exit → Act → World → Prop} {q : Bool} {f : FuncId} {xs : List AV} {dst : Option Tmp} {K : List KI} {s : AS} {ins outs : List Arg} (hf : MeetsT P H f ins outs) (hH : ∀ w, B.rel w → H w) (hx : argsOf s xs = some ins)
    (h : G P B Q K ((addRes outs s).2.put dst (addRes outs s).1)) : CallG P B Q q f xs dst K s := by
  refine ⟨hf.1, fun E a w hs vs hl hv => ?_⟩
  obtain ⟨h1, h2⟩ := argsOf_get hx
  refine (hf.2 w (hH w hs.base) vs (by omega) (fun i x hi => ?_)).mono (fun e w' hg => ?_)
  · obtain ⟨y, hy, hc⟩ := h2 i x hi
    exact argOf_rep hs hc (hv i y hy)
  · obtain ⟨hb, rs, fps, rfl, hrl, hro, hfr, hdis⟩ := hg
    have hA := hs.call hb
    obtain ⟨E', hAd, hL, hD⟩ := addArgs_ok outs rs fps s E hA hrl hro (fun i hi => (hfr i hi).1) hdis (fun i hi b hb' => by
      have hge := (hfr i hi).2 b hb'
      refine ⟨.inr hge, fun hav => ?_, .inl (Nat.le_trans hs.base.size hge)⟩
      have := hs.avoid_lt hav
      omega)
    have hres := getD_resVal outs (addArgs outs s).1 rs hrl hL hD
    rw [addRes_eq] at h
    exact ⟨_, rfl, fun _ => .of_below hb, h E' _ w' ((hAd.isA.put dst hres).is)⟩

theorem call_roH {B : Base} {H : World → Prop} {Q : Exit → Act → World → Prop} {q : Bool} {f : FuncId} {xs : List AV} {dst : Option Tmp} {K : List KI} {s : AS} {ins outs : List Arg} (hf : MeetsT P H f ins outs) (hH : ∀ w, B.rel w → H w) (hx : argsOf s xs = some ins)
    (h : G P B Q K (s.put dst (resAV outs))) : CallG P B Q q f xs dst K s := by
  refine ⟨hf.1, fun E a w hs vs hl hv => ?_⟩
  obtain ⟨h1, h2⟩ := argsOf_get hx
  refine (hf.2 w (hH w hs.base) vs (by omega) (fun i x hi => ?_)).mono (fun e w' hg => ?_)
  · obtain ⟨y, hy, hc⟩ := h2 i x hi
    exact argOf_rep hs hc (hv i y hy)
  · obtain ⟨hb, rs, fps, rfl, hrl, hro, hfr, hdis⟩ := hg
    have hI := (hs.call hb).is
    have hno : ∀ i, i < outs.length → ∀ b ∈ fps i, ¬ s.avoid E b := fun i hi b hb' hav => by
      have := hs.avoid_lt hav
      have := (hfr i hi).2 b hb'
      omega
    have hone : ∀ i y, outs[i]? = some y → Den E w' (s.avoid E) s.next (argAV y) (rs.getD i undef) := by
      intro i y hy
      have hi : i < outs.length := (List.getElem?_eq_some_iff.1 hy).1
      have ho := hro i y hy
      cases y with
      | one c => exact .c (OwnRep.rep ho (hno i hi))
      | agg cs =>
        obtain ⟨us, gps, hu, hul, hur, hfp⟩ := ho
        rw [hu]
        refine .agg us (by simp [hul]) (fun j x hj => ?_)
        simp only [List.getElem?_map, Option.map_eq_some_iff] at hj
        obtain ⟨c, hc, rfl⟩ := hj
        have hj : j < cs.length := (List.getElem?_eq_some_iff.1 hc).1
        exact .c ((hur j c hc).rep (fun b hb' => hno i hi b (by rw [hfp]; exact mem_flat hj hb')))
      | ptr cs => exact ho.elim
      | fn f caps => exact ho.elim
    have hres : Den E w' (s.avoid E) s.next (resAV outs) (resVal rs) := by
      have := getD_resVal (E := E) (A := s.avoid E) (N := s.next) (w := w') outs (outs.map argAV) rs hrl (by simp) (fun i x hi => by
        simp only [List.getElem?_map, Option.map_eq_some_iff] at hi
        obtain ⟨y, hy, rfl⟩ := hi
        exact hone i y hy)
      match outs, this with
      | [], this => exact this
      | [o], this => exact this
      | o1 :: o2 :: r, this => exact this
    exact ⟨_, rfl, fun _ => .of_below hb, h E _ w' (hI.put dst hres)⟩

theorem callWH {B : Base} {H : World → Prop} {Q : Exit → Act → World → Prop} {q : Bool} {f : FuncId} {xs : List AV} {dst : Option Tmp} {K : List KI} {s : AS} {ins outs : List Arg} (hf : MeetsT P H f ins outs) (hH : ∀ w, B.rel w → H w) (hx : argsOf s xs = some ins)
    (h : GW P B Q K ((addRes outs s).2.put dst (addRes outs s).1)) : CW P B Q q f xs dst K s := ⟨call_ownH hf hH hx (h.rec id)⟩

theorem callRH {B : Base} {H : World → Prop} {Q : Exit → Act → World → Prop} {q : Bool} {f : FuncId} {xs : List AV} {dst : Option Tmp} {K : List KI} {s : AS} {ins outs : List Arg} (hf : MeetsT P H f ins outs) (hH : ∀ w, B.rel w → H w) (hx : argsOf s xs = some ins)
    (h : GW P B Q K (s.put dst (resAV outs))) : CW P B Q q f xs dst K s := ⟨call_roH hf hH hx (h.rec id)⟩

/-- The first elements of an owned slice. -/
theorem prefW (hT : TblOk P T) {B : Base} {Q : Exit → Act → World → Prop} {q : Bool} {all : Array Oper} {o : Oper} {rest : List Oper} {K : List KI} {s : AS} {t e : TypeId} {x y : Operand} {i j : TI}
    (hg : o.guard = none) (ho : o.op = .slice t x none (some y) none) (hi' : find T t = some i) (he : i.elem = some e) (hj : find T e = some j)
    {k n es : Nat} {row : Nat → List Cell} (hx : s.ev x = .own k) (hk : getOwn s.own k = some (.sl n es row)) (hes : es = j.size) {ik : IntKind} {m : Int} (hy : s.ev y = .c (.val (.int ik m)))
    (hm : 0 ≤ m ∧ m ≤ n) (hn : 0 < n) (c : Cell) (hc : c = .sl m.toNat es row)
    (hgo : GW P B Q (.ops q all rest :: K) (({ s with own := ⟨s.next, c⟩ :: remOs [k] s.own, next := s.next + 1 } : AS).put o.dst (.own s.next))) : GW P B Q (.ops q all (o :: rest) :: K) s := by
  subst hes hc
  refine ⟨G_ops_read hg (fun E a w hs => ?_)⟩
  have hmem := getOwn_mem hk
  obtain ⟨hklt, o2, o3⟩ := hs.own _ hmem
  simp only at o2 o3 hklt
  have hev := hs.ev x
  rw [hx] at hev
  generalize hv : a.eval x = v at hev
  cases hev with
  | own _ =>
    have hdy := hs.ev y
    rw [hy] at hdy
    have ey := den_int hdy
    have hav : ∀ z, z ∈ E.fp k → s.avoid E z ∧ ¬ ({ s with own := remOs [k] s.own } : AS).avoid E z ∧ B.fresh z := by
      intro z hz
      have h1 : s.avoid E z := .inr ⟨_, hmem, hz⟩
      refine ⟨h1, ?_, hs.fresh z h1⟩
      rintro (⟨b, hb, rfl⟩ | ⟨u, hu, hz'⟩)
      · exact hs.sepB b hb _ hmem hz
      · obtain ⟨h2, h3⟩ := remOs_mem.1 hu
        exact hs.sep _ hmem u h2 (fun e => h3 (by rw [← e]; exact List.mem_singleton.2 rfl)) z hz hz'
    generalize hfp : E.fp k = fp at o2 o3 hav
    generalize E.ov k = v at o2 hv
    cases o2 with
    | nil => omega
    | emp => omega
    | sl _ _ _ b off cap ty cells fps hnc hcap hb hs' hl hr =>
      have hsub : ∀ z, z ∈ b :: (List.range (m.toNat * j.size)).flatMap fps → z ∈ b :: (List.range (n * j.size)).flatMap fps := fun z hz => by
        rcases List.mem_cons.1 hz with rfl | hz
        · exact List.mem_cons_self ..
        · obtain ⟨l, hl', hz⟩ := List.mem_flatMap.1 hz
          exact List.mem_cons_of_mem _ (mem_flat (Nat.lt_of_lt_of_le (List.mem_range.1 hl') (Nat.mul_le_mul_right _ (by omega))) hz)
      have hnd : (b :: (List.range (m.toNat * j.size)).flatMap fps).Nodup := by
        have hle : m.toNat * j.size ≤ n * j.size := Nat.mul_le_mul_right _ (by omega)
        obtain ⟨r, hr'⟩ := Nat.exists_eq_add_of_le hle
        rw [hr', List.range_add, List.flatMap_append] at o3
        exact List.Sublist.nodup (List.Sublist.cons_cons _ (List.sublist_append_left _ _)) o3
      have ho' : OwnRep w (.sl m.toNat j.size row) (.slice (some ⟨b, off * j.size, none⟩) m.toNat cap) (b :: (List.range (m.toNat * j.size)).flatMap fps) :=
        .sl m.toNat j.size row b off cap ty cells fps (by omega) hcap hb hs' (fun i hi => hl i (by omega)) (fun i l c hi hc => hr i l c (by omega) hc)
      obtain ⟨k1, k2⟩ := (hs.drop [k]).addOwn ho' hnd (fun z hz => hav z (hsub z hz))
      refine ⟨_, fun w' _ => ?_, hgo.rec fun g => g _ _ _ ((k1.put o.dst k2).is)⟩
      have hrun := run_sub (a := some ⟨b, off * j.size, none⟩) (len := n) (cap := cap) (lo := none) (hi' := some (.int ik m)) (hT t i hi') he (hT e j hj) (.inl ⟨rfl, rfl⟩) (.inr ⟨ik, rfl⟩) (Int.le_refl 0) hm.1 hm.2 hnc w'
      obtain ⟨dst, op', ty', pos, after, guard⟩ := o
      simp only at ho
      subst ho
      have hcp : ¬ cap = 0 := by omega
      have hsl : sliced (some (⟨b, off * j.size, none⟩ : Addr)) (Int.toNat 0) m.toNat cap j.size = .slice (some ⟨b, off * j.size, none⟩) m.toNat cap := by
        unfold sliced
        simp [hcp, Addr.add]
      rw [hsl] at hrun
      simp [execOp, hv, ey, hrun]

/-- The entry of a function whose one argument is a slice: its value by name, under a condition on memory. -/
theorem enterVT (hT : TblOk P T) (wr : Bool) {H : World → Prop} {f : FuncId} {fn : Func} {c : Code} {n es : Nat} {row : Nat → List Cell} {outs : List Arg} (hf : P.funcs[f]? = some fn) (hb : fn.body = some c) (hn : (fn.name == "runtime.NumGoroutine") = false)
    (h : ∀ W, H W → ∀ a cp, Pins ⟨W, fun _ => False⟩ [(.sl n es row, .slice a n cp)] → vcW P ⟨W, fun _ => False⟩ (bodyPost P fn fun e w' => Gives W w' outs e) (run0 T wr 100000 [.code c] (start fn.ntmps [.one (.val (.slice a n cp))]))) : MeetsT P H f [.one (.sl n es row)] outs := by
  refine ⟨⟨fn, hf, hn, by simp [hb]⟩, fun w hHw vs hl hv => ?_⟩
  have h0 : Rep w (fun _ => False) (.sl n es row) (vs.getD 0 undef) := hv 0 _ rfl
  have hs : ∃ a cp, vs.getD 0 undef = .slice a n cp := by
    generalize vs.getD 0 undef = v at h0
    cases h0 with
    | nil => exact ⟨_, _, rfl⟩
    | emp => exact ⟨_, _, rfl⟩
    | sl => exact ⟨_, _, rfl⟩
  obtain ⟨a, cp, he⟩ := hs
  have hpin : Pins ⟨w, fun _ => False⟩ [(.sl n es row, .slice a n cp)] := fun p hp => by
    simp only [List.mem_singleton] at hp
    subst hp
    rw [← he]
    exact h0
  have hm : MeetsT P (fun w' => H w' ∧ Pins ⟨w', fun _ => False⟩ [(.sl n es row, .slice a n cp)]) f [.one (.val (.slice a n cp))] outs :=
    enterT hT wr hf hb hn fun W hW => h W hW.1 a cp hW.2
  refine hm.2 w ⟨hHw, hpin⟩ vs (by simpa using hl) (fun i x hi => ?_)
  match i, hi with
  | 0, hi =>
    simp only [List.getElem?_cons_zero, Option.some.injEq] at hi
    subst hi
    rw [he]
    exact .val _ rfl

end Go.Sx
