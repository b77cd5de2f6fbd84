/- A symbolic executor for the model's code, proved sound: part 5. No conditions. -/
import Derived.Test.YtlbmkgkmbjadcaaGreatEng4

/- Elements of owned slices opened and closed in one go; cells of mixed elements; parts of owned slices. -/
set_option maxRecDepth 100000
namespace Go.Sx
open Go
open Go.RowKit (Below)
variable {P : Program} {T : List (TypeId × TI)}

theorem blt_lt {a b : Nat} (h : Nat.blt a b = true) : a < b := Nat.le_of_ble_eq_true h

/-- What is owned may be listed otherwise. -/
theorem permW {B : Base} {Q : Exit → Act → World → Prop} {K : List KI} {s : AS} (l : List Ow) (hp0 : (s.own.map (·.key)).Nodup → l.Perm s.own) (h : GW P B Q K { s with own := l }) : GW P B Q K s := by
  refine ⟨fun E a w hs => ?_⟩
  have hp := hp0 hs.ownkeys
  have hav : ({ s with own := l } : AS).avoid E = s.avoid E := by
    funext b
    refine propext ⟨?_, ?_⟩
    · rintro (h | ⟨y, hy, h⟩)
      · exact .inl h
      · exact .inr ⟨y, hp.mem_iff.1 hy, h⟩
    · rintro (h | ⟨y, hy, h⟩)
      · exact .inl h
      · exact .inr ⟨y, hp.mem_iff.2 hy, h⟩
  refine h.out E a w ⟨hs.defers, hs.links, hs.size, ?_, ?_, hs.boxes2, hs.keys, fun y hy => hs.own y (hp.mem_iff.1 hy), (hp.map _).nodup_iff.2 hs.ownkeys, fun y hy z hz => hs.sep y (hp.mem_iff.1 hy) z (hp.mem_iff.1 hz), fun x hx y hy => hs.sepB x hx y (hp.mem_iff.1 hy), hs.one, hs.base, ?_⟩
  · rw [hav]; exact hs.slots
  · rw [hav]; exact hs.boxes
  · rw [hav]; exact hs.fresh

theorem inL_one {k j : Nat} : inL j [k] = true ↔ j = k := by rw [inL_spec]; simp
theorem inL_no {k j : Nat} (h : j ≠ k) : inL j [k] = false := by
  cases hh : inL j [k] with
  | false => rfl
  | true => exact absurd (inL_one.1 hh) h
theorem remOs_none {ks : List Nat} : ∀ (m : List Ow), (∀ y ∈ m, y.key ∉ ks) → remOs ks m = m := by
  intro m
  induction m with
  | nil => intro _; rfl
  | cons z m ih =>
    intro hm
    have hz : inL z.key ks = false := by
      cases hh : inL z.key ks with
      | false => rfl
      | true => exact absurd (inL_spec.1 hh) (hm z (by simp))
    simp only [remOs, hz, ih (fun y hy => hm y (List.mem_cons_of_mem _ hy))]
theorem front_perm {k : Nat} {c : Cell} : ∀ (l : List Ow), (l.map (·.key)).Nodup → getOwn l k = some c → ((⟨k, c⟩ : Ow) :: remOs [k] l).Perm l := by
  intro l
  induction l with
  | nil => intro _ hg; simp [getOwn] at hg
  | cons y r ih =>
    intro hnd hg
    simp only [List.map_cons, List.nodup_cons] at hnd
    unfold getOwn at hg
    cases hb : Nat.beq y.key k with
    | true =>
      have he := Nat.eq_of_beq_eq_true hb
      rw [hb] at hg
      have hc : y.cell = c := by simpa using hg
      have hr : remOs [k] r = r := remOs_none r (fun z hz e => hnd.1 (by rw [he, ← (show z.key = k by simpa using e)]; exact List.mem_map_of_mem hz))
      have hin : inL y.key [k] = true := inL_one.2 he
      simp only [remOs, hin, hr]
      have : (⟨k, c⟩ : Ow) = y := by cases y; simp_all
      rw [this]
    | false =>
      rw [hb] at hg
      have hin : inL y.key [k] = false := inL_no (fun e => by rw [e] at hb; simp at hb)
      simp only [remOs, hin]
      exact (List.Perm.swap _ _ _).trans ((ih hnd.2 hg).cons _)

def nSl : List Cell → Nat
  | [] => 0
  | c :: r => match isSl c with | true => nSl r + 1 | false => nSl r
def opO (k : Nat) : List Cell → List Ow
  | [] => []
  | c :: r => match isSl c with | true => ⟨k, c⟩ :: opO (k + 1) r | false => opO k r
def opH (k : Nat) (u : Nat → Value) : List Cell → List Cell
  | [] => []
  | c :: r => match isSl c with | true => .val (u k) :: opH (k + 1) u r | false => c :: opH k u r
def opL (k : Nat) (u : Nat → Value) (l : List (Nat × Value)) : List Cell → List (Nat × Value)
  | [] => l
  | c :: r => match isSl c with | true => opL (k + 1) u ((k, u k) :: l) r | false => opL k u l r
def opA (k : Nat) : List Cell → List AV
  | [] => []
  | c :: r => match isSl c with | true => .own k :: opA (k + 1) r | false => .c c :: opA k r

theorem opH_len (k : Nat) (u : Nat → Value) (r : List Cell) : (opH k u r).length = r.length := by
  induction r generalizing k with
  | nil => rfl
  | cons c r ih => cases c <;> simp [opH, isSl, ih]
theorem opH_congr {k : Nat} {u u' : Nat → Value} {r : List Cell} (h : ∀ i, k ≤ i → u i = u' i) : opH k u r = opH k u' r := by
  induction r generalizing k with
  | nil => rfl
  | cons c r ih =>
    cases c with
    | val v => simp only [opH, isSl]; rw [ih h]
    | sl n es row => simp only [opH, isSl]; rw [h k (Nat.le_refl _), ih (fun i hi => h i (by omega))]
theorem opL_congr {k : Nat} {u u' : Nat → Value} {r : List Cell} {l : List (Nat × Value)} (h : ∀ i, k ≤ i → u i = u' i) : opL k u l r = opL k u' l r := by
  induction r generalizing k l with
  | nil => rfl
  | cons c r ih =>
    cases c with
    | val v => simp only [opL, isSl]; rw [ih h]
    | sl n es row => simp only [opL, isSl]; rw [h k (Nat.le_refl _), ih (fun i hi => h i (by omega))]

theorem remOs_same (k : Nat) (l : List Ow) : remOs [k] (remOs [k] l) = remOs [k] l := by
  induction l with
  | nil => rfl
  | cons y r ih =>
    simp only [remOs]
    cases h : inL y.key [k] with
    | true => simp only [ih]
    | false => simp only [remOs, h, ih]

theorem splice_mid (d : List Cell) (c : Cell) (t : List Cell) (v : Cell) : spliceC (d ++ c :: t) d.length [v] = d ++ v :: t := by
  unfold spliceC
  rw [List.take_left, List.length_singleton, show d.length + 1 = (d ++ [c]).length by simp, show d ++ c :: t = (d ++ [c]) ++ t by simp, List.drop_left]
  simp

theorem getOwn_skip {k n : Nat} {c : Cell} {l : List Ow} (h : n ≠ k) : getOwn (⟨n, c⟩ :: l) k = getOwn l k := by
  have : Nat.beq n k = false := by
    cases hb : Nat.beq n k with
    | false => rfl
    | true => exact absurd (Nat.eq_of_beq_eq_true hb) h
  simp only [getOwn, this]
theorem getOwn_here {k : Nat} {c : Cell} {l : List Ow} : getOwn (⟨k, c⟩ :: l) k = some c := by
  have : Nat.beq k k = true := by simp
  simp only [getOwn, this]

theorem perm_mid {α : Type} (A : List α) (x y : α) (R : List α) : (x :: (A ++ y :: R)).Perm (A ++ y :: x :: R) :=
  ((List.perm_middle (a := y) (l₁ := A) (l₂ := R)).cons x).trans ((List.Perm.swap y x (A ++ R)).trans (((List.perm_middle (a := x) (l₁ := A) (l₂ := R)).symm.cons y).trans (List.perm_middle (a := y) (l₁ := A) (l₂ := x :: R)).symm))

/-- The inner slices of an element become owned by themselves. -/
theorem openG {B : Base} {Q : Exit → Act → World → Prop} {K : List KI} (k jn : Nat) {es n : Nat} {row : Nat → List Cell} (hj : jn < n) : ∀ (todo done : List Cell) {s : AS} (_ : k < s.next)
    (_ : getOwn s.own k = some (.sl n es (updR row jn (done ++ todo))))
    (_ : ∀ u, GW P B Q K { s with own := opO s.next todo ++ ⟨k, .sl n es (updR row jn (done ++ opH s.next u todo))⟩ :: remOs [k] s.own, next := s.next + nSl todo, links := opL s.next u s.links todo }), GW P B Q K s := by
  intro todo
  induction todo with
  | nil =>
    intro done s hlt hk h
    have := h fun _ => undef
    simp only [opO, opH, nSl, opL, List.nil_append, Nat.add_zero] at this
    exact permW _ (fun hnd => front_perm _ hnd hk) this
  | cons c todo ih =>
    intro done s hlt hk h
    cases c with
    | val v =>
      refine ih (done ++ [.val v]) hlt (by simpa using hk) (fun u => ?_)
      have := h u
      simpa [opO, opH, nSl, opL, isSl] using this
    | sl m fs rw' =>
      refine focusG k jn done.length hk hj (c := .sl m fs rw') (by simp) (fun v => ?_)
      rw [splice_mid]
      have hne : s.next ≠ k := by omega
      refine ih (done ++ [.val v]) (s := { s with own := ⟨s.next, .sl m fs rw'⟩ :: ⟨k, .sl n es (updR row jn (done ++ .val v :: todo))⟩ :: remOs [k] s.own, next := s.next + 1, links := (s.next, v) :: s.links }) (by simp only; omega)
        (by simp only; rw [getOwn_skip hne, getOwn_here]; simp) (fun u => ?_)
      have hu := h (fun i => if i = s.next then v else u i)
      have e1 : opH (s.next + 1) (fun i => if i = s.next then v else u i) todo = opH (s.next + 1) u todo := opH_congr (fun i hi => by rw [if_neg (by omega)])
      have e2 : ∀ l, opL (s.next + 1) (fun i => if i = s.next then v else u i) l todo = opL (s.next + 1) u l todo := fun l => opL_congr (fun i hi => by rw [if_neg (by omega)])
      simp only [opO, opH, opL, nSl, isSl, if_true, e1, e2] at hu
      have e3 : remOs [k] (⟨s.next, .sl m fs rw'⟩ :: ⟨k, .sl n es (updR row jn (done ++ .val v :: todo))⟩ :: remOs [k] s.own) = ⟨s.next, .sl m fs rw'⟩ :: remOs [k] s.own := by
        have a1 : inL s.next [k] = false := inL_no hne
        have a2 : inL k [k] = true := inL_one.2 rfl
        simp only [remOs, a1, a2, remOs_same]
      simp only [e3]
      rw [show s.next + 1 + nSl todo = s.next + (nSl todo + 1) by omega]
      refine permW _ (fun _ => ?_) (by simpa using hu)
      simp only [List.append_assoc, List.cons_append, List.nil_append]
      exact perm_mid _ _ _ _

/-- Cells that are known by name, told by the keys of what is owned. -/
def lnkOk (links : List (Nat × Value)) : List AV → List AV → Prop
  | [], [] => True
  | x :: xs, y :: ys => (x = y ∨ ∃ k v, x = .c (.val v) ∧ y = .own k ∧ getLink links k = some v) ∧ lnkOk links xs ys
  | _, _ => False

theorem lnkOk_get {links : List (Nat × Value)} : ∀ {xs ys : List AV}, lnkOk links xs ys → xs.length = ys.length ∧ ∀ (i : Nat) y, ys[i]? = some y → ∃ x, xs[i]? = some x ∧ (x = y ∨ ∃ k v, x = .c (.val v) ∧ y = .own k ∧ getLink links k = some v)
  | [], [], _ => ⟨rfl, fun i y h => by simp at h⟩
  | x :: xs, y :: ys, h => by
    obtain ⟨h1, h2⟩ := h
    obtain ⟨g1, g2⟩ := lnkOk_get h2
    refine ⟨by simp [g1], fun i z hz => ?_⟩
    cases i with
    | zero => exact ⟨x, rfl, by simpa using (Option.some.inj hz) ▸ h1⟩
    | succ i => simpa using g2 i z (by simpa using hz)
  | [], _ :: _, h => h.elim
  | _ :: _, [], h => h.elim

theorem den_lnk {E : Env} {w : World} {A : Nat → Prop} {N : Nat} {links : List (Nat × Value)} {xs ys : List AV} {v : Value} (hl : lnkOk links xs ys) (hE : ∀ p ∈ links, p.1 < N ∧ E.ov p.1 = p.2) (h : Den E w A N (.agg xs) v) : Den E w A N (.agg ys) v := by
  obtain ⟨g1, g2⟩ := lnkOk_get hl
  cases h with
  | agg vs hvl hx =>
    refine .agg vs (by omega) (fun i y hy => ?_)
    obtain ⟨x, hx1, hx2⟩ := g2 i y hy
    have := hx i x hx1
    rcases hx2 with rfl | ⟨k, u, rfl, rfl, hk⟩
    · exact this
    · obtain ⟨q1, q2⟩ := hE _ (getLink_mem hk)
      have q2 : E.ov k = u := q2
      rw [den_int this, ← q2]
      exact .own q1

theorem relinkW {B : Base} {Q : Exit → Act → World → Prop} {K : List KI} {s : AS} (d : Option Tmp) {xs ys : List AV} (hl : lnkOk s.links xs ys) (h : GW P B Q K (s.put d (.agg ys))) : GW P B Q K (s.put d (.agg xs)) := by
  cases d with
  | none => exact h
  | some d =>
    refine ⟨fun E a w hs => h.out E a w ⟨hs.defers, hs.links, by rw [hs.size]; simp [AS.put, setNth_length], fun m z hz => ?_, hs.boxes, hs.boxes2, hs.keys, hs.own, hs.ownkeys, hs.sep, hs.sepB, hs.one, hs.base, hs.fresh⟩⟩
    simp only [AS.put] at hz
    rw [setNth_get] at hz
    split at hz
    · rename_i hm
      obtain ⟨rfl, hm⟩ := hm
      obtain rfl := Option.some.inj hz
      have hd := hs.slots d (.agg xs) (by show (setNth s.slots d (.agg xs))[d]? = _; rw [setNth_get, if_pos ⟨rfl, hm⟩])
      exact den_lnk hl hs.links hd
    · rename_i hm
      exact hs.slots m z (by simp only [AS.put, setNth_get]; rw [if_neg hm]; exact hz)

theorem getLink_skip {k n : Nat} {v : Value} {l : List (Nat × Value)} (h : n ≠ k) : getLink ((n, v) :: l) k = getLink l k := by
  have : Nat.beq n k = false := by
    cases hb : Nat.beq n k with
    | false => rfl
    | true => exact absurd (Nat.eq_of_beq_eq_true hb) h
  simp only [getLink, this]
theorem getLink_opL (u : Nat → Value) : ∀ (r : List Cell) (k j : Nat) (l : List (Nat × Value)), j < k → getLink (opL k u l r) j = getLink l j := by
  intro r
  induction r with
  | nil => intro k j l _; rfl
  | cons c r ih =>
    intro k j l h
    cases c with
    | val v => simp only [opL, isSl]; exact ih k j l h
    | sl n es row => simp only [opL, isSl]; rw [ih (k + 1) j _ (by omega), getLink_skip (by omega)]

theorem opA_lnk (u : Nat → Value) : ∀ (r : List Cell) (k : Nat) (l : List (Nat × Value)) (xs : List AV), flatAV (opH k u r) = some xs → lnkOk (opL k u l r) xs (opA k r) := by
  intro r
  induction r with
  | nil => intro k l xs h; obtain rfl := Option.some.inj h; trivial
  | cons c r ih =>
    intro k l xs h
    cases c with
    | val v =>
      simp only [opH, isSl, flatAV] at h
      split at h
      · rename_i cs hcs
        obtain rfl := Option.some.inj h
        exact ⟨.inl rfl, ih k l cs hcs⟩
      · cases h
    | sl n es row =>
      simp only [opH, isSl, flatAV] at h
      split at h
      · rename_i cs hcs
        obtain rfl := Option.some.inj h
        refine ⟨.inr ⟨k, u k, rfl, rfl, ?_⟩, ih (k + 1) _ cs hcs⟩
        simp only [opL, isSl]
        rw [getLink_opL u r (k + 1) k _ (by omega)]
        have : Nat.beq k k = true := by simp
        simp only [getLink, this]
      · cases h

theorem opH_flat (u : Nat → Value) : ∀ (r : List Cell) (k : Nat), ∃ xs, flatAV (opH k u r) = some xs ∧ xs.length = r.length
  | [], _ => ⟨[], rfl, rfl⟩
  | .val v :: r, k => by
    obtain ⟨xs, h1, h2⟩ := opH_flat u r k
    exact ⟨.c (.val v) :: xs, by simp [opH, isSl, flatAV, h1], by simp [h2]⟩
  | .sl n es row :: r, k => by
    obtain ⟨xs, h1, h2⟩ := opH_flat u r (k + 1)
    exact ⟨.c (.val (u k)) :: xs, by simp [opH, isSl, flatAV, h1], by simp [h2]⟩

theorem getOwn_opO {k j : Nat} (r : List Cell) (l : List Ow) (h : j < k) : getOwn (opO k r ++ l) j = getOwn l j := by
  induction r generalizing k with
  | nil => rfl
  | cons c r ih =>
    cases c with
    | val v => simp only [opO, isSl]; exact ih h
    | sl n es row => simp only [opO, isSl, List.cons_append]; rw [getOwn_skip (by omega), ih (by omega)]

/-- An element is read: its inner slices become owned by themselves. -/
theorem peekW (hT : TblOk P T) {B : Base} {Q : Exit → Act → World → Prop} {q : Bool} {all : Array Oper} {o : Oper} {rest : List Oper} {K : List KI} {s : AS} {x : Operand} {t : TypeId} {i : TI}
    (hg : o.guard = none) (ho : o.op = .load t x) (hi : find T t = some i) {k es n jn : Nat} {j : Int} {row : Nat → List Cell} {r : List Cell}
    (hx : s.ev x = .oel k es j 0) (hk : getOwn s.own k = some (.sl n es row)) (hjn : j.toNat = jn) (hr : row jn = r) (hj : jn < n) (hlt : Nat.blt k s.next = true) (hsz : (i.agg && Nat.beq i.size r.length) = true)
    (h : ∀ u, GW P B Q (.ops q all rest :: K) (({ s with own := opO s.next r ++ ⟨k, .sl n es (updR row jn (opH s.next u r))⟩ :: remOs [k] s.own, next := s.next + nSl r, links := opL s.next u s.links r } : AS).put o.dst (.agg (opA s.next r)))) :
    GW P B Q (.ops q all (o :: rest) :: K) s := by
  simp only [Bool.and_eq_true] at hsz
  obtain ⟨hag, hsz⟩ := hsz
  have hsz := Nat.eq_of_beq_eq_true hsz
  have hlt := blt_lt hlt
  refine partW k jn hk hr ?_
  have hko : getOwn (setOw s.own k (.sl n es (updR row jn r))) k = some (.sl n es (updR row jn r)) := by
    generalize s.own = l at hk
    induction l with
    | nil => simp [getOwn] at hk
    | cons y l ih =>
      unfold getOwn at hk
      unfold setOw
      cases hb : Nat.beq y.key k with
      | true => exact getOwn_here
      | false =>
        rw [hb] at hk
        simp only [getOwn, hb]
        exact ih hk
  have hrem : remOs [k] (setOw s.own k (.sl n es (updR row jn r))) = remOs [k] s.own := by
    generalize s.own = l
    induction l with
    | nil => rfl
    | cons y l ih =>
      unfold setOw
      cases hb : Nat.beq y.key k with
      | true =>
        have he := Nat.eq_of_beq_eq_true hb
        have a1 : inL y.key [k] = true := inL_one.2 he
        have a2 : inL k [k] = true := inL_one.2 rfl
        simp only [remOs, a1, a2, ih]
      | false =>
        have a1 : inL y.key [k] = false := inL_no (fun e => by rw [e] at hb; simp at hb)
        simp only [remOs, a1, ih]
  refine openG k jn hj r [] hlt (by simpa using hko) (fun u => ?_)
  simp only [List.nil_append, hrem]
  obtain ⟨xs, hf, hfl⟩ := opH_flat u r s.next
  refine loadU hT hg ho hi (r := opH s.next u r) (xs := xs) hx (by simp only; rw [getOwn_opO _ _ hlt, getOwn_here]) hjn hf (by rw [opH_len, hsz]; simp) ?_
  have hre : readAV i xs 0 = .agg xs := by
    unfold readAV
    rw [hag]
    simp [seg, hsz, ← hfl]
  rw [hre]
  exact relinkW o.dst (opA_lnk u r s.next s.links xs hf) (h u)

theorem getOwn_rem {ks : List Nat} {l : List Ow} {k : Nat} (h : k ∉ ks) : getOwn (remOs ks l) k = getOwn l k := by
  induction l with
  | nil => rfl
  | cons y l ih =>
    cases hb : inL y.key ks with
    | true =>
      have hm := inL_spec.1 hb
      have hne : y.key ≠ k := fun e => h (e ▸ hm)
      simp only [remOs, hb]
      rw [show y = ⟨y.key, y.cell⟩ from rfl, getOwn_skip hne, ih]
    | false =>
      simp only [remOs, hb, getOwn, ih]
theorem remOs_remOs (ks js : List Nat) (l : List Ow) : remOs ks (remOs js l) = remOs (js ++ ks) l := by
  induction l with
  | nil => rfl
  | cons y l ih =>
    cases hb : inL y.key js with
    | true =>
      have : inL y.key (js ++ ks) = true := inL_spec.2 (List.mem_append_left _ (inL_spec.1 hb))
      simp only [remOs, hb, this, ih]
    | false =>
      cases hc : inL y.key ks with
      | true =>
        have : inL y.key (js ++ ks) = true := inL_spec.2 (List.mem_append_right _ (inL_spec.1 hc))
        simp only [remOs, hb, hc, this, ih]
      | false =>
        have : inL y.key (js ++ ks) = false := by
          cases hd : inL y.key (js ++ ks) with
          | false => rfl
          | true =>
            rcases List.mem_append.1 (inL_spec.1 hd) with h | h
            · rw [inL_spec.2 h] at hb; cases hb
            · rw [inL_spec.2 h] at hc; cases hc
        simp only [remOs, hb, hc, this, ih]
theorem remOs_congr {ks js : List Nat} (h : ∀ k, k ∈ ks ↔ k ∈ js) (l : List Ow) : remOs ks l = remOs js l := by
  induction l with
  | nil => rfl
  | cons y l ih =>
    have : inL y.key ks = inL y.key js := by
      rw [Bool.eq_iff_iff, inL_spec, inL_spec]; exact h _
    simp only [remOs, this, ih]

def setC (l : List Cell) (i : Nat) (c : Cell) : List Cell :=
  match l, i with
  | [], _ => []
  | _ :: r, 0 => c :: r
  | x :: r, i + 1 => x :: setC r i c
theorem setC_splice (c : Cell) : ∀ (l : List Cell) (i : Nat), i < l.length → setC l i c = spliceC l i [c]
  | [], _, h => absurd h (Nat.not_lt_zero _)
  | x :: r, 0, _ => by simp [setC, spliceC]
  | x :: r, i + 1, h => by
    have := setC_splice c r i (by simpa using h)
    simp only [setC, this, spliceC, List.length_singleton, List.take_succ_cons, List.cons_append, List.drop_succ_cons]
theorem setC_other (c : Cell) : ∀ (l : List Cell) (i j : Nat), i ≠ j → (setC l i c)[j]? = l[j]?
  | [], _, _, _ => rfl
  | x :: r, 0, j, h => by cases j with
    | zero => exact absurd rfl h
    | succ j => rfl
  | x :: r, i + 1, j, h => by cases j with
    | zero => rfl
    | succ j => simpa [setC] using setC_other c r i j (by omega)
/-- The holes of an element filled. -/
def shutC (own : List Ow) (r : List Cell) : List (Nat × Nat) → Option (List Cell)
  | [] => some r
  | (off, k) :: ps => match getOwn own k with
    | some c => shutC own (setC r off c) ps
    | none => none
def shutOk (links : List (Nat × Value)) (r : List Cell) : List (Nat × Nat) → Prop
  | [] => True
  | (off, k) :: ps => (∃ v, r[off]? = some (.val v) ∧ getLink links k = some v) ∧ shutOk links r ps
theorem shutOk_set {links : List (Nat × Value)} {r : List Cell} {off : Nat} {c : Cell} : ∀ {ps : List (Nat × Nat)}, off ∉ ps.map Prod.fst → shutOk links r ps → shutOk links (setC r off c) ps
  | [], _, _ => trivial
  | (o, k) :: ps, hn, h => by
    simp only [List.map_cons, List.mem_cons, not_or] at hn
    obtain ⟨⟨v, h1, h2⟩, h3⟩ := h
    exact ⟨⟨v, by rw [setC_other _ _ _ _ hn.1]; exact h1, h2⟩, shutOk_set hn.2 h3⟩

/-- What was taken out of an element is put back. -/
theorem shutG {B : Base} {Q : Exit → Act → World → Prop} {K : List KI} (k jn : Nat) {es n : Nat} {row : Nat → List Cell} (hj : jn < n) : ∀ (ps : List (Nat × Nat)) (r r' : List Cell) {s : AS}
    (_ : getOwn s.own k = some (.sl n es (updR row jn r))) (_ : (k :: ps.map Prod.snd).Nodup) (_ : (ps.map Prod.fst).Nodup) (_ : shutOk s.links r ps) (_ : shutC s.own r ps = some r')
    (_ : GW P B Q K { s with own := ⟨k, .sl n es (updR row jn r')⟩ :: remOs (k :: ps.map Prod.snd) s.own }), GW P B Q K s := by
  intro ps
  induction ps with
  | nil =>
    intro r r' s hk hn hf ho hc h
    obtain rfl := Option.some.inj hc
    exact permW _ (fun hnd => front_perm _ hnd hk) h
  | cons p ps ih =>
    obtain ⟨off, k2⟩ := p
    intro r r' s hk hn hf ho hc h
    have hn' := hn
    simp only [List.map_cons] at hn hf
    obtain ⟨hkk', hn2⟩ := List.nodup_cons.1 hn
    obtain ⟨hk2ps, hps⟩ := List.nodup_cons.1 hn2
    obtain ⟨hoffps, hfps⟩ := List.nodup_cons.1 hf
    have hkk : k ≠ k2 := fun e => hkk' (by rw [e]; exact List.mem_cons_self ..)
    have hkps : k ∉ ps.map Prod.snd := fun e => hkk' (List.mem_cons_of_mem _ e)
    obtain ⟨⟨v, hv1, hv2⟩, ho⟩ := ho
    unfold shutC at hc
    split at hc
    · rename_i c hg
      have hoff : off < r.length := (List.getElem?_eq_some_iff.1 hv1).1
      refine unfocusX k k2 off hk hj hv1 hg hv2 (by cases hb : Nat.beq k k2 with | false => rfl | true => exact absurd (Nat.eq_of_beq_eq_true hb) hkk) (setC_splice c r off hoff).symm ?_
      have hrem : remOs (k :: ps.map Prod.snd) (⟨k, .sl n es (updR row jn (setC r off c))⟩ :: remOs [k, k2] s.own) = remOs (k :: k2 :: ps.map Prod.snd) s.own := by
        have a1 : inL k (k :: ps.map Prod.snd) = true := inL_spec.2 (List.mem_cons_self ..)
        simp only [remOs, a1]
        rw [remOs_remOs]
        refine remOs_congr (fun z => ?_) _
        generalize ps.map Prod.snd = m
        simp only [List.cons_append, List.nil_append, List.mem_cons]
        constructor
        · rintro (h | h | h | h)
          · exact .inl h
          · exact .inr (.inl h)
          · exact .inl h
          · exact .inr (.inr h)
        · rintro (h | h | h)
          · exact .inl h
          · exact .inr (.inl h)
          · exact .inr (.inr (.inr h))
      have hgo : ∀ z, z ∈ ps.map Prod.snd → getOwn (⟨k, .sl n es (updR row jn (setC r off c))⟩ :: remOs [k, k2] s.own) z = getOwn s.own z := by
        intro z hz
        have z1 : k ≠ z := fun e => hkps (e ▸ hz)
        have z2 : k2 ≠ z := fun e => hk2ps (e ▸ hz)
        rw [getOwn_skip z1, getOwn_rem (by simp only [List.mem_cons, List.not_mem_nil, or_false]; rintro (e | e); exact z1 e.symm; exact z2 e.symm)]
      have hsh : ∀ (qs : List (Nat × Nat)) (r0 : List Cell), (∀ z ∈ qs.map Prod.snd, z ∈ ps.map Prod.snd) → shutC (⟨k, .sl n es (updR row jn (setC r off c))⟩ :: remOs [k, k2] s.own) r0 qs = shutC s.own r0 qs := by
        intro qs
        have : ∀ (own' : List Ow), (∀ z, z ∈ ps.map Prod.snd → getOwn own' z = getOwn s.own z) → ∀ (r : List Cell), (∀ z ∈ qs.map Prod.snd, z ∈ ps.map Prod.snd) → shutC own' r qs = shutC s.own r qs := by
          intro own' ho'
          induction qs with
          | nil => intro r _; rfl
          | cons q qs ih2 =>
            obtain ⟨o2, k3⟩ := q
            intro r hz
            unfold shutC
            rw [ho' k3 (hz k3 (by simp))]
            split
            · exact ih2 _ (fun z hz' => hz z (by simp only [List.map_cons]; exact List.mem_cons_of_mem _ hz'))
            · rfl
        exact this _ hgo
      refine ih (setC r off c) r' (s := { s with own := ⟨k, .sl n es (updR row jn (setC r off c))⟩ :: remOs [k, k2] s.own }) getOwn_here (List.nodup_cons.2 ⟨hkps, hps⟩) hfps (shutOk_set hoffps ho) (by simp only; rw [hsh ps _ (fun _ h => h)]; exact hc) ?_
      simp only
      rw [hrem]
      exact h
    · cases hc

/-- What was taken out of an element is put back, and the whole described anew. -/
theorem shutW {B : Base} {Q : Exit → Act → World → Prop} {K : List KI} {s : AS} (k jn : Nat) (ps : List (Nat × Nat)) {es n : Nat} {row : Nat → List Cell} {r r' : List Cell} (c : Cell) (hj : jn < n)
    (hk : getOwn s.own k = some (.sl n es (updR row jn r))) (hn : (noDup (k :: ps.map Prod.snd) && noDup (ps.map Prod.fst)) = true) (ho : shutOk s.links r ps) (hc : shutC s.own r ps = some r') (hcast : CastOk (.sl n es (updR row jn r')) c)
    (h : GW P B Q K { s with own := ⟨k, c⟩ :: remOs (k :: ps.map Prod.snd) s.own }) : GW P B Q K s := by
  simp only [Bool.and_eq_true] at hn
  refine shutG k jn hj ps r r' hk (noDup_spec hn.1) (noDup_spec hn.2) ho hc ?_
  refine castW k c getOwn_here hcast ?_
  have e1 : Nat.beq k k = true := by simp
  have e2 : setOw (remOs (k :: ps.map Prod.snd) s.own) k c = remOs (k :: ps.map Prod.snd) s.own := by
    have : ∀ (l : List Ow), (∀ y ∈ l, y.key ≠ k) → setOw l k c = l := by
      intro l
      induction l with
      | nil => intro _; rfl
      | cons y l ih =>
        intro hl
        have hb : Nat.beq y.key k = false := by
          cases hb : Nat.beq y.key k with
          | false => rfl
          | true => exact absurd (Nat.eq_of_beq_eq_true hb) (hl y (by simp))
        simp only [setOw, hb, ih (fun z hz => hl z (List.mem_cons_of_mem _ hz))]
    exact this _ (fun y hy e => (remOs_mem.1 hy).2 (by rw [e]; exact List.mem_cons_self ..))
  simp only [setOw, e1, e2]
  exact h

/-- One cell of an element of what is owned is read; it is known by name. -/
theorem loadF (hT : TblOk P T) {B : Base} {Q : Exit → Act → World → Prop} {q : Bool} {all : Array Oper} {o : Oper} {rest : List Oper} {K : List KI} {s : AS} {x : Operand} {t : TypeId} {i : TI}
    (hg : o.guard = none) (ho : o.op = .load t x) (hi : find T t = some i) (hag : i.agg = false) {k es off n jn : Nat} {j : Int} {row : Nat → List Cell} {r : List Cell} {v : Value}
    (hx : s.ev x = .oel k es j off) (hk : getOwn s.own k = some (.sl n es row)) (hjn : j.toNat = jn) (hr : row jn = r) (hc : r[off]? = some (.val v))
    (h : GW P B Q (.ops q all rest :: K) (s.put o.dst (.c (.val v)))) : GW P B Q (.ops q all (o :: rest) :: K) s := by
  refine ⟨G_ops_read hg (fun E a w hs => ?_)⟩
  have hm := getOwn_mem hk
  obtain ⟨hklt, o2, o3⟩ := hs.own _ hm
  simp only at o2 o3 hklt
  have hev := hs.ev x
  rw [hx] at hev
  generalize hv : a.eval x = v' at hev
  cases hev with
  | oel _ b o' n' cap hkl hov h0 hj =>
    rw [hov] at o2
    obtain ⟨m, rfl⟩ := Int.eq_ofNat_of_zero_le h0
    simp only [Int.toNat_natCast, Int.ofNat_lt] at *
    subst hjn
    generalize E.fp k = fp at o2
    cases o2 with
    | emp => exact absurd hj (Nat.not_lt_zero _)
    | sl _ _ _ _ offb _ ty cells fps hn hc' hb hsz hl hr' =>
      have hoff : off < es := by rw [← hl m hj, hr]; exact (List.getElem?_eq_some_iff.1 hc).1
      have hin := hr' m off _ hj (by rw [hr]; exact hc)
      have hcl : (offb + m) * es + off < cells.size := by
        have := idx_lt (show offb + m < offb + cap by omega) hoff
        omega
      have hval : cells.getD ((offb + m) * es + off) undef = v ∧ v.oneCell' = true := by
        generalize cells.getD ((offb + m) * es + off) undef = u, fps (m * es + off) = g at hin
        cases hin with
        | val _ h1 => exact ⟨rfl, h1⟩
      obtain ⟨hval, h1v⟩ := hval
      refine ⟨v, fun w' hkw => ?_, h.out E _ w (hs.put o.dst (.c (.val v h1v)))⟩
      obtain ⟨dst, op', ty', pos, after, guard⟩ := o
      simp only at ho
      subst ho
      obtain ⟨f, d, z, S⟩ := TI.of_spec (hT t i hi)
      have h1 := S.one (by rw [← S.agg]; exact hag)
      have hrun := run_loadVar_ti (hT t i hi) w' b (offb * es + m * es + off) ((List.range i.size).map fun _ => v) (by simp) (fun p hp => by
        obtain rfl : p = 0 := by omega
        refine hkw.cell ?_
        rw [show offb * es + m * es + off + 0 = (offb + m) * es + off by rw [Nat.add_mul]; omega, cell_of_row w b _ cells ty (0, 0) hb]
        simp only [h1, List.range_one, List.map_cons, List.map_nil, List.getD_cons_zero]
        rw [← hval, Array.getD_eq_getD_getElem?]
        simp [hcl])
      simp only [execOp, hv, Instr.loadAt, Instr.sureAddr, Sem.run_bind, Sem.run_pure, Result.andThen_ok, hrun, hag, h1]
      rfl

/-- An inner slice of an element is taken out as it is read. -/
theorem focusZ (hT : TblOk P T) {B : Base} {Q : Exit → Act → World → Prop} {q : Bool} {all : Array Oper} {o : Oper} {rest : List Oper} {K : List KI} {s : AS} {x : Operand} {t : TypeId} {i : TI}
    (hg : o.guard = none) (ho : o.op = .load t x) (hi : find T t = some i) (hag : i.agg = false) {k es off n jn : Nat} {j : Int} {row : Nat → List Cell} {r : List Cell} {c : Cell}
    (hx : s.ev x = .oel k es j off) (hk : getOwn s.own k = some (.sl n es row)) (hjn : j.toNat = jn) (hr : row jn = r) (hc : r[off]? = some c)
    (h : ∀ v, GW P B Q (.ops q all rest :: K) (({ s with own := ⟨s.next, c⟩ :: ⟨k, .sl n es (updR row jn (spliceC r off [.val v]))⟩ :: remOs [k] s.own, next := s.next + 1, links := (s.next, v) :: s.links } : AS).put o.dst (.own s.next))) :
    GW P B Q (.ops q all (o :: rest) :: K) s := by
  subst hjn
  refine focusW hT hg ho hi hag hx hk (c := c) (by rw [hr]; exact hc) fun v => ?_
  have := h v
  rw [← hole_eq row j.toNat off v hr] at this
  exact this
/-- The same, of an element that was told apart. -/
theorem focusZ2 (hT : TblOk P T) {B : Base} {Q : Exit → Act → World → Prop} {q : Bool} {all : Array Oper} {o : Oper} {rest : List Oper} {K : List KI} {s : AS} {x : Operand} {t : TypeId} {i : TI}
    (hg : o.guard = none) (ho : o.op = .load t x) (hi : find T t = some i) (hag : i.agg = false) {k es off n jn : Nat} {j : Int} {row : Nat → List Cell} {r : List Cell} {c : Cell}
    (hx : s.ev x = .oel k es j off) (hk : getOwn s.own k = some (.sl n es (updR row jn r))) (hjn : j.toNat = jn) (hc : r[off]? = some c)
    (h : ∀ v, GW P B Q (.ops q all rest :: K) (({ s with own := ⟨s.next, c⟩ :: ⟨k, .sl n es (updR row jn (spliceC r off [.val v]))⟩ :: remOs [k] s.own, next := s.next + 1, links := (s.next, v) :: s.links } : AS).put o.dst (.own s.next))) :
    GW P B Q (.ops q all (o :: rest) :: K) s := by
  subst hjn
  refine focusW hT hg ho hi hag hx hk (c := c) (by rw [updR_same]; exact hc) fun v => ?_
  have := h v
  rw [← hole_upd] at this
  exact this

/-- What may be done to a state ahead of a call. -/
theorem cwOf {B : Base} {Q : Exit → Act → World → Prop} {q : Bool} {f : FuncId} {xs : List AV} {dst : Option Tmp} {K : List KI} {s s' : AS} (hslots : s'.slots = s.slots) (tr : ∀ (K' : List KI) (sl : List AV), GW P B QF K' { s' with slots := sl } → GW P B QF K' { s with slots := sl })
    (h : CW P B Q q f xs dst K s') : CW P B Q q f xs dst K s := by
  obtain ⟨hc, h⟩ := h
  refine ⟨⟨hc, fun E a w hs vs hl hv => ?_⟩⟩
  let a2 : Act := { a with tmps := a.tmps ++ vs.toArray }
  have h2 : ({ s with slots := s.slots ++ xs } : AS).is B E a2 w := by
    refine ⟨hs.defers, hs.links, by simp [a2, hs.size, hl], fun i x hx => ?_, hs.boxes, hs.boxes2, hs.keys, hs.own, hs.ownkeys, hs.sep, hs.sepB, hs.one, hs.base, hs.fresh⟩
    have hsz := hs.size
    simp only at hx
    by_cases hi : i < s.slots.length
    · rw [List.getElem?_append_left hi] at hx
      have := hs.slots i x hx
      have e : a2.tmps.getD i undef = a.tmps.getD i undef := by
        rw [← getD_toList, ← getD_toList]
        simp only [a2, Array.toList_append, List.getD]
        rw [List.getElem?_append_left (by simpa [hsz] using hi)]
      rw [e]
      exact this
    · rw [List.getElem?_append_right (by omega)] at hx
      have := hv _ x hx
      have e : a2.tmps.getD i undef = vs.getD (i - s.slots.length) undef := by
        rw [← getD_toList]
        simp only [a2, Array.toList_append, List.getD]
        rw [List.getElem?_append_right (by simp [hsz]; omega)]
        simp [hsz]
      rw [e]
      exact this
  have := (tr [.loop (fun a' w' => ∃ E', ({ s' with slots := s.slots ++ xs } : AS).is B E' a' w')] (s.slots ++ xs) ⟨fun E' a' w' hs' => ⟨E', hs'⟩⟩).out E a2 w h2
  obtain ⟨E', hs'⟩ := this
  have hsz := hs.size
  refine h E' a w ⟨hs.defers, hs'.links, by rw [hslots]; exact hs.size, fun i x hx => ?_, hs'.boxes, hs'.boxes2, hs'.keys, hs'.own, hs'.ownkeys, hs'.sep, hs'.sepB, hs'.one, hs'.base, hs'.fresh⟩ vs hl fun i x hx => ?_
  · rw [hslots] at hx
    have hi : i < s.slots.length := (List.getElem?_eq_some_iff.1 hx).1
    have := hs'.slots i x (by simp only; rw [List.getElem?_append_left hi]; exact hx)
    have e : a2.tmps.getD i undef = a.tmps.getD i undef := by
      rw [← getD_toList, ← getD_toList]
      simp only [a2, Array.toList_append, List.getD]
      rw [List.getElem?_append_left (by simpa [hsz] using hi)]
    rw [e] at this
    exact this
  · have hi : i < xs.length := (List.getElem?_eq_some_iff.1 hx).1
    have := hs'.slots (s.slots.length + i) x (by simp only; rw [List.getElem?_append_right (by omega)]; simpa using hx)
    have e : a2.tmps.getD (s.slots.length + i) undef = vs.getD i undef := by
      rw [← getD_toList]
      simp only [a2, Array.toList_append, List.getD]
      rw [List.getElem?_append_right (by simp [hsz])]
      simp [hsz]
    rw [e] at this
    exact this

/-- As shutW, ahead of a call. -/
theorem shutCW {B : Base} {Q : Exit → Act → World → Prop} {q : Bool} {f : FuncId} {xs : List AV} {dst : Option Tmp} {K : List KI} {s : AS} (k jn : Nat) (ps : List (Nat × Nat)) {es n : Nat} {row : Nat → List Cell} {r r' : List Cell} (c : Cell) (hj : jn < n)
    (hk : getOwn s.own k = some (.sl n es (updR row jn r))) (hn : (noDup (k :: ps.map Prod.snd) && noDup (ps.map Prod.fst)) = true) (ho : shutOk s.links r ps) (hc : shutC s.own r ps = some r') (hcast : CastOk (.sl n es (updR row jn r')) c)
    (h : CW P B Q q f xs dst K { s with own := ⟨k, c⟩ :: remOs (k :: ps.map Prod.snd) s.own }) : CW P B Q q f xs dst K s :=
  cwOf (s' := { s with own := ⟨k, c⟩ :: remOs (k :: ps.map Prod.snd) s.own }) rfl (fun _ sl g => shutW (s := { s with slots := sl }) k jn ps c hj hk hn ho hc hcast g) h

/-- What may be done to a state ahead of a return. -/
theorem rwOf (P : Program) {B : Base} {Q : Exit → Act → World → Prop} {s s' : AS} (tr : ∀ (K' : List KI), GW P B QF K' s' → GW P B QF K' s) (h : RW B Q s') : RW B Q s :=
  ⟨fun E a w hs => (tr [.loop (fun a w => Q .ret a w)] ⟨fun E a w hs => h.rec fun g => g E a w hs⟩).out E a w hs⟩

/-- A cell of a box is known by name. -/
theorem nameBx {B : Base} {Q : Exit → Act → World → Prop} {K : List KI} {s : AS} (k j key : Nat) {b : Bx} (hb : getBx s.boxes k = some b) (hj : nth b.cells j = .own key)
    (h : ∀ v, GW P B Q K { s with boxes := setBx s.boxes k (setNth b.cells j (.c (.val v))), links := (key, v) :: s.links }) : GW P B Q K s := by
  refine ⟨fun E a w hs => ?_⟩
  obtain ⟨hm, hbk⟩ := getBx_mem hb
  obtain ⟨h1, vs, ty, h2, h3, h4⟩ := hs.boxes b hm
  have hlt : key < s.next := by
    rw [nth_get] at hj
    cases hg : b.cells[j]? with
    | none => rw [hg] at hj; simp at hj
    | some x =>
      rw [hg] at hj
      have hx : x = .own key := by simpa using hj
      subst hx
      have := h4 j _ hg
      generalize vs.getD j undef = q at this
      cases this with
      | own hk => exact hk
  have hone : (E.ov key).oneCell' = true := hs.one key hlt
  refine (h (E.ov key)).out E a w ⟨hs.defers, fun p hp => ?_, hs.size, ?_, fun x hx => ?_, fun x hx y hy => ?_, by rw [setBx_keys]; exact hs.keys, hs.own, hs.ownkeys, hs.sep, fun x hx y hy => ?_, hs.one, hs.base, ?_⟩
  · rcases List.mem_cons.1 hp with rfl | hp
    · exact ⟨hlt, rfl⟩
    · exact hs.links p hp
  all_goals
    have av : ∀ c, ({ s with boxes := setBx s.boxes k (setNth b.cells j (.c (.val (E.ov key)))), links := (key, E.ov key) :: s.links } : AS).avoid E c → s.avoid E c := by
      rintro c (⟨x, hx, rfl⟩ | hc)
      · rcases setBx_mem hx hs.keys with ⟨e1, _, y, hy, e2⟩ | ⟨hx, _⟩
        · exact .inl ⟨y, hy, by rw [e1, e2]⟩
        · exact .inl ⟨x, hx, rfl⟩
      · exact .inr hc
    have mv : ∀ x v, Den E w (s.avoid E) s.next x v → Den E w (({ s with boxes := setBx s.boxes k (setNth b.cells j (.c (.val (E.ov key)))), links := (key, E.ov key) :: s.links } : AS).avoid E) s.next x v := fun x v hx =>
      hx.move (Nat.le_refl _) (fun _ _ => ⟨rfl, rfl⟩) (fun _ _ _ => rfl) (fun b _ hb => av b hb)
  · exact fun i x hx => mv _ _ (hs.slots i x hx)
  · rcases setBx_mem hx hs.keys with ⟨e1, e2, _⟩ | ⟨hx, _⟩
    · rw [e1, e2]
      refine ⟨by rw [← hbk]; exact h1, vs, ty, by rw [← hbk]; exact h2, by rw [setNth_length]; exact h3, fun i y hy => ?_⟩
      rw [setNth_get] at hy
      split at hy
      · rename_i hm'
        obtain ⟨rfl, hm'⟩ := hm'
        obtain rfl := Option.some.inj hy
        have := h4 j (.own key) (by rw [nth_get, List.getElem?_eq_getElem hm'] at hj; rw [List.getElem?_eq_getElem hm']; simpa using hj)
        generalize vs.getD j undef = q at this
        cases this with
        | own hk => exact .c (.val _ hone)
      · exact mv _ _ (h4 i y hy)
    · obtain ⟨g1, vs', ty', g2, g3, g4⟩ := hs.boxes x hx
      exact ⟨g1, vs', ty', g2, g3, fun i y hy => mv _ _ (g4 i y hy)⟩
  · intro e
    have kx : ∃ x' ∈ s.boxes, x'.key = x.key := by
      rcases setBx_mem hx hs.keys with ⟨e1, _, y, hy, e2⟩ | ⟨hx, _⟩
      · exact ⟨y, hy, by rw [e1, e2]⟩
      · exact ⟨x, hx, rfl⟩
    have ky : ∃ x' ∈ s.boxes, x'.key = y.key := by
      rcases setBx_mem hy hs.keys with ⟨e1, _, y', hy', e2⟩ | ⟨hy, _⟩
      · exact ⟨y', hy', by rw [e1, e2]⟩
      · exact ⟨y, hy, rfl⟩
    obtain ⟨x', hx', ex⟩ := kx
    obtain ⟨y', hy', ey⟩ := ky
    rw [← ex, ← ey]
    exact hs.boxes2 x' hx' y' hy' (by rw [ex, ey]; exact e)
  · rcases setBx_mem hx hs.keys with ⟨e1, _, z, hz, e2⟩ | ⟨hx, _⟩
    · rw [e1, ← e2]; exact hs.sepB z hz y hy
    · exact hs.sepB x hx y hy
  · exact fun c hc => hs.fresh c (av c hc)

/-- A cell of a box that is known by name is told by its key. -/
theorem linkBx {B : Base} {Q : Exit → Act → World → Prop} {K : List KI} {s : AS} (k j key : Nat) {b : Bx} {v : Value} (hb : getBx s.boxes k = some b) (hj : nth b.cells j = .c (.val v)) (hl : getLink s.links key = some v)
    (h : GW P B Q K { s with boxes := setBx s.boxes k (setNth b.cells j (.own key)) }) : GW P B Q K s := by
  refine ⟨fun E a w hs => ?_⟩
  obtain ⟨hm, hbk⟩ := getBx_mem hb
  obtain ⟨h1, vs, ty, h2, h3, h4⟩ := hs.boxes b hm
  obtain ⟨hlt, hov⟩ := hs.links _ (getLink_mem hl)
  have hov : E.ov key = v := hov
  have av : ∀ c, ({ s with boxes := setBx s.boxes k (setNth b.cells j (.own key)) } : AS).avoid E c → s.avoid E c := by
    rintro c (⟨x, hx, rfl⟩ | hc)
    · rcases setBx_mem hx hs.keys with ⟨e1, _, y, hy, e2⟩ | ⟨hx, _⟩
      · exact .inl ⟨y, hy, by rw [e1, e2]⟩
      · exact .inl ⟨x, hx, rfl⟩
    · exact .inr hc
  have mv : ∀ x v, Den E w (s.avoid E) s.next x v → Den E w (({ s with boxes := setBx s.boxes k (setNth b.cells j (.own key)) } : AS).avoid E) s.next x v := fun x v hx =>
    hx.move (Nat.le_refl _) (fun _ _ => ⟨rfl, rfl⟩) (fun _ _ _ => rfl) (fun b _ hb => av b hb)
  have kx : ∀ x ∈ setBx s.boxes k (setNth b.cells j (.own key)), ∃ x' ∈ s.boxes, x'.key = x.key := fun x hx => by
    rcases setBx_mem hx hs.keys with ⟨e1, _, y, hy, e2⟩ | ⟨hx, _⟩
    · exact ⟨y, hy, by rw [e1, e2]⟩
    · exact ⟨x, hx, rfl⟩
  refine h.out E a w ⟨hs.defers, hs.links, hs.size, fun i x hx => mv _ _ (hs.slots i x hx), fun x hx => ?_, fun x hx y hy e => ?_, by rw [setBx_keys]; exact hs.keys, hs.own, hs.ownkeys, hs.sep, fun x hx y hy => ?_, hs.one, hs.base, fun c hc => hs.fresh c (av c hc)⟩
  · rcases setBx_mem hx hs.keys with ⟨e1, e2, _⟩ | ⟨hx, _⟩
    · rw [e1, e2]
      refine ⟨by rw [← hbk]; exact h1, vs, ty, by rw [← hbk]; exact h2, by rw [setNth_length]; exact h3, fun i y hy => ?_⟩
      rw [setNth_get] at hy
      split at hy
      · rename_i hm'
        obtain ⟨rfl, hm'⟩ := hm'
        obtain rfl := Option.some.inj hy
        have := h4 j (.c (.val v)) (by rw [nth_get, List.getElem?_eq_getElem hm'] at hj; rw [List.getElem?_eq_getElem hm']; simpa using hj)
        rw [den_int this, ← hov]
        exact .own hlt
      · exact mv _ _ (h4 i y hy)
    · obtain ⟨g1, vs', ty', g2, g3, g4⟩ := hs.boxes x hx
      exact ⟨g1, vs', ty', g2, g3, fun i y hy => mv _ _ (g4 i y hy)⟩
  · obtain ⟨x', hx', ex⟩ := kx x hx
    obtain ⟨y', hy', ey⟩ := kx y hy
    rw [← ex, ← ey]
    exact hs.boxes2 x' hx' y' hy' (by rw [ex, ey]; exact e)
  · obtain ⟨x', hx', ex⟩ := kx x hx
    rw [← ex]
    exact hs.sepB x' hx' y hy

/-- As shutW, ahead of a return. -/
theorem shutRW (P : Program) {B : Base} {Q : Exit → Act → World → Prop} {s : AS} (k jn : Nat) (ps : List (Nat × Nat)) {es n : Nat} {row : Nat → List Cell} {r r' : List Cell} (c : Cell) (hj : jn < n)
    (hk : getOwn s.own k = some (.sl n es (updR row jn r))) (hn : (noDup (k :: ps.map Prod.snd) && noDup (ps.map Prod.fst)) = true) (ho : shutOk s.links r ps) (hc : shutC s.own r ps = some r') (hcast : CastOk (.sl n es (updR row jn r')) c)
    (h : RW B Q { s with own := ⟨k, c⟩ :: remOs (k :: ps.map Prod.snd) s.own }) : RW B Q s :=
  rwOf P (s' := { s with own := ⟨k, c⟩ :: remOs (k :: ps.map Prod.snd) s.own }) (fun _ g => shutW k jn ps c hj hk hn ho hc hcast g) h

/-! In a region that draws its order: an operation that reads may come first. -/

variable {ops : Array Oper}

def closedB (ops : Array Oper) (listed : Array Bool) : Bool :=
  (List.range ops.size).all fun j => !listed.getD j false || match ops[j]? with
    | some o => o.after.toList.all fun e => !Region.binds .any e || listed.getD e.on false
    | none => true
theorem closedB_spec {listed : Array Bool} (h : closedB ops listed = true) : ClosedM ops listed := by
  intro j o ho hl e he hb
  have := List.all_eq_true.1 h j (List.mem_range.2 (Array.getElem?_eq_some_iff.1 ho).1)
  simp only [hl, ho, Bool.not_true, Bool.false_or] at this
  have := List.all_eq_true.1 this e (Array.mem_toList_iff.2 he)
  simpa [hb] using this

theorem readF {B : Base} {N : Act → World → Prop} {fuel : Nat} {listed : Array Bool} {s s' : AS} (i : Nat) {o : Oper} (hi : ops[i]? = some o)
    (hb : (Nat.beq (kindOp o.op) 0 && Region.noSelect ops && (Region.ready .any ops listed).contains i && freeM ops listed i o && closedB ops listed) = true)
    (ht : GW P B QF [.ops true ops [o], .loop (fun a w => ∃ E, s'.is B E a w)] s) (h : BW P B N ops fuel (listed.setIfInBounds i true) s') : BW P B N ops (fuel + 1) listed s := by
  simp only [Bool.and_eq_true, List.contains_iff_mem] at hb
  obtain ⟨⟨⟨⟨h0, h1⟩, h2⟩, h3⟩, h4⟩ := hb
  have h0 := Nat.eq_of_beq_eq_true h0
  refine ⟨fun E a w hs => ?_⟩
  have hg : wpMix P ops (fun a w => ∃ E, s'.is B E a w) [o] a w := ht.out E a w hs
  have hfree : ∀ j oj, ops[j]? = some oj → j ≠ i → listed.getD j true = false → waitsM ops ops.size j i = true ∨ (o.apart ops oj = true ∧ (blind o.op = true ∨ kindOp oj.op ≤ 1)) := by
    intro j oj hoj hji hun
    have := List.all_eq_true.1 h3 j (List.mem_range.2 (Array.getElem?_eq_some_iff.1 hoj).1)
    simp only [hoj, hun, Bool.or_false, Bool.or_eq_true, beq_iff_eq, hji, false_or, Bool.and_eq_true] at this
    exact this.symm.imp id fun ⟨h1, h2⟩ => ⟨h1, h2.imp id fun h => Nat.le_of_ble_eq_true h⟩
  unfold wpMix at hg
  by_cases hw : Region.wanted o (yielded ops a.tmps) = true
  · rw [if_pos hw] at hg
    rcases hg with ⟨v, hv, hn⟩ | ⟨hk, _⟩
    · obtain ⟨E', hs'⟩ := hn
      exact anyM_first hi (Region.noSelect_spec h1) ops.size fuel listed a w (closedB_spec h4) hfree h2 (.inl ⟨hw, fun w' hw' => hw'.elim (fun hb => blind_run hb a.eval (hv w (Kept0.refl w))) (hv w')⟩) (h.out E' _ w hs')
    · exact absurd h0 hk
  · rw [if_neg hw] at hg
    obtain ⟨E', hs'⟩ := hg
    exact anyM_first hi (Region.noSelect_spec h1) ops.size fuel listed a w (closedB_spec h4) hfree h2 (.inr ⟨by simpa using hw, rfl⟩) (h.out E' _ w hs')

/-- A part of what is owned, flat: the rest is let go. -/
theorem subW (hT : TblOk P T) {B : Base} {Q : Exit → Act → World → Prop} {q : Bool} {all : Array Oper} {o : Oper} {rest : List Oper} {K : List KI} {s : AS} {t e : TypeId} {x : Operand} {lo hi : Option Operand} {i j : TI}
    (hg : o.guard = none) (ho : o.op = .slice t x lo hi none) (hi' : find T t = some i) (he : i.elem = some e) (hj : find T e = some j)
    {k n es : Nat} {row : Nat → List Cell} (hx : s.ev x = .own k) (hk : getOwn s.own k = some (.sl n es row)) (hes : es = j.size) {l h : Int} (hl : bnd s lo 0 = some l) (hh : bnd s hi n = some h)
    (hb : 0 ≤ l ∧ l ≤ h ∧ h ≤ n) (c : Cell) (hc : SubOk n es row l h c)
    (hgo : GW P B Q (.ops q all rest :: K) (({ s with own := ⟨s.next, c⟩ :: remOs [k] s.own, next := s.next + 1 } : AS).put o.dst (.own s.next))) : GW P B Q (.ops q all (o :: rest) :: K) s := by
  subst hes
  refine ⟨G_ops_read hg (fun E a w hs => ?_)⟩
  have hd := hs.ev x
  rw [hx] at hd
  have hm := getOwn_mem hk
  obtain ⟨hklt, o2, o3⟩ := hs.own _ hm
  simp only at o2 o3 hklt
  have h1 := bnd_val hs hl
  have h2 := bnd_val hs hh
  have hv : a.eval x = E.ov k := by
    generalize a.eval x = v at hd
    cases hd with
    | own _ => rfl
  -- the part, in memory of its own
  have key : ∃ ad cap fp', E.ov k = .slice ad n cap ∧ n ≤ cap ∧ OwnRep w c (sliced ad l.toNat h.toNat cap j.size) fp' ∧ fp'.Nodup ∧ ∀ b ∈ fp', b ∈ E.fp k := by
    obtain ⟨row', rfl, hrow⟩ := hc
    generalize E.ov k = u, E.fp k = fp at o2 o3 ⊢
    obtain ⟨p, rfl⟩ : ∃ p : Nat, l = p := ⟨l.toNat, by omega⟩
    obtain ⟨q, rfl⟩ : ∃ q : Nat, h = q := ⟨h.toNat, by omega⟩
    have e : ((q : Int) - p).toNat = q - p := by omega
    simp only [Int.toNat_natCast] at hrow ⊢
    rw [e] at hrow ⊢
    cases o2 with
    | nil =>
      have e1 : p = 0 := by omega
      have e2 : q = 0 := by omega
      subst e1; subst e2
      exact ⟨none, 0, [], rfl, Nat.le_refl _, .nil _ _, by simp, by simp⟩
    | emp _ _ b0 o0 =>
      have e1 : p = 0 := by omega
      have e2 : q = 0 := by omega
      subst e1; subst e2
      exact ⟨_, 0, [], rfl, Nat.le_refl _, .emp _ _ _ _, by simp, by simp⟩
    | sl _ _ _ b offb cap ty cells fps hn hcp hbk hcs hl' hr =>
      obtain ⟨f1, f2⟩ := List.nodup_cons.1 o3
      obtain ⟨f3, f4⟩ := nodup_flatMap.1 f2
      have hpq : p ≤ q := by omega
      have hqn : q ≤ n := by omega
      refine ⟨some ⟨b, offb * j.size, none⟩, cap, ?_⟩
      by_cases hcl : cap = p
      · refine ⟨[], rfl, hn, ?_, by simp, by simp⟩
        have e1 : q - p = 0 := by omega
        unfold sliced
        rw [if_pos hcl, e1, show cap - p = 0 by omega]
        exact .emp _ _ _ _
      · have ea : (some (⟨b, offb * j.size, none⟩ : Addr)).map (·.add (p * j.size)) = some ⟨b, (offb + p) * j.size, none⟩ := by
          simp only [Option.map_some, add_none, Nat.add_mul]
        refine ⟨b :: (List.range ((q - p) * j.size)).flatMap (fun i => fps (p * j.size + i)), rfl, hn, ?_, ?_, ?_⟩
        · unfold sliced
          rw [if_neg hcl, ea]
          refine .sl (q - p) j.size row' b (offb + p) (cap - p) ty cells (fun i => fps (p * j.size + i)) (by omega) (by omega) hbk (by rw [show offb + p + (cap - p) = offb + cap by omega]; exact hcs) (fun i hi => by rw [hrow i hi]; exact hl' _ (by omega)) (fun i m c hi hm => ?_)
          rw [hrow i hi] at hm
          have := hr (p + i) m c (by omega) hm
          rw [show (p + i) * j.size + m = p * j.size + (i * j.size + m) by rw [Nat.add_mul]; omega, show offb + (p + i) = offb + p + i by omega] at this
          exact this
        · have hin : ∀ i, i < (q - p) * j.size → p * j.size + i < n * j.size := fun i hi => by
            have h1 : (q - p) * j.size ≤ (n - p) * j.size := Nat.mul_le_mul_right _ (by omega)
            have h2 : p * j.size + (n - p) * j.size = n * j.size := by rw [← Nat.add_mul]; congr 1; omega
            omega
          refine List.nodup_cons.2 ⟨fun hm => ?_, nodup_flatMap.2 ⟨fun i hi => f3 _ (List.mem_range.2 (hin i (List.mem_range.1 hi))), ?_⟩⟩
          · obtain ⟨i, hi, hm⟩ := List.mem_flatMap.1 hm
            exact f1 (mem_flat (hin i (List.mem_range.1 hi)) hm)
          · refine List.pairwise_iff_getElem.2 (fun i m hi hm him z hz hz' => ?_)
            simp only [List.length_range] at hi hm
            simp only [List.getElem_range] at hz hz'
            have hp := List.pairwise_iff_getElem.1 f4 (p * j.size + i) (p * j.size + m) (by simpa using hin i hi) (by simpa using hin m hm) (by omega) z
            simp only [List.getElem_range] at hp
            exact hp hz hz'
        · intro z hz
          rcases List.mem_cons.1 hz with rfl | hz
          · simp
          · obtain ⟨i, hi, hz⟩ := List.mem_flatMap.1 hz
            refine List.mem_cons_of_mem _ (mem_flat ?_ hz)
            have h1 : (q - p) * j.size ≤ (n - p) * j.size := Nat.mul_le_mul_right _ (by omega)
            have h2 : p * j.size + (n - p) * j.size = n * j.size := by rw [← Nat.add_mul]; congr 1; omega
            have := List.mem_range.1 hi
            omega
  obtain ⟨ad, cap, fp', hov, hcap, hrep, hnd, hsub⟩ := key
  have hI := hs.drop [k]
  obtain ⟨k1, k2⟩ := hI.addOwn hrep hnd (fun z hz => by
    have hzk := hsub z hz
    have hav : s.avoid E z := .inr ⟨_, hm, hzk⟩
    refine ⟨hav, ?_, hs.fresh z hav⟩
    rintro (⟨r, hr', rfl⟩ | ⟨r, hr', hz'⟩)
    · exact hs.sepB r hr' _ hm hzk
    · obtain ⟨q1, q2⟩ := remOs_mem.1 hr'
      exact hs.sep _ hm r q1 (fun e => q2 (by simp at e; simp [e])) z hzk hz')
  refine ⟨_, fun w' _ => ?_, hgo.out _ _ w ((k1.put o.dst k2).is)⟩
  have hrun := run_sub (a := ad) (hT t i hi') he (hT e j hj) h1 h2 hb.1 hb.2.1 hb.2.2 hcap w'
  obtain ⟨dst, op', ty, pos, after, guard⟩ := o
  simp only at ho
  subst ho
  simp [execOp, hv, hov, hrun]

end Go.Sx

set_option maxRecDepth 100000
namespace Go.Sx
open Go

variable {P : Program} {ops : Array Oper}

theorem endFv {α : Sort _} {B : Base} {s : α → AS} (v : α) : GW P B QF [.loop (fun a w => ∃ v E, (s v).is B E a w)] (s v) := ⟨fun E _ _ hs => ⟨v, E, hs⟩⟩

/-- As readF: the read gives something a name. -/
theorem readFv {α : Sort _} {B : Base} {N : Act → World → Prop} {fuel : Nat} {listed : Array Bool} {s : AS} {s' : α → AS} (i : Nat) {o : Oper} (hi : ops[i]? = some o)
    (hb : (Nat.beq (kindOp o.op) 0 && Region.noSelect ops && (Region.ready .any ops listed).contains i && freeM ops listed i o && closedB ops listed) = true)
    (ht : GW P B QF [.ops true ops [o], .loop (fun a w => ∃ v E, (s' v).is B E a w)] s) (h : ∀ v, BW P B N ops fuel (listed.setIfInBounds i true) (s' v)) : BW P B N ops (fuel + 1) listed s := by
  simp only [Bool.and_eq_true, List.contains_iff_mem] at hb
  obtain ⟨⟨⟨⟨h0, h1⟩, h2⟩, h3⟩, h4⟩ := hb
  have h0 := Nat.eq_of_beq_eq_true h0
  refine ⟨fun E a w hs => ?_⟩
  have hg : wpMix P ops (fun a w => ∃ v E, (s' v).is B E a w) [o] a w := ht.out E a w hs
  have hfree : ∀ j oj, ops[j]? = some oj → j ≠ i → listed.getD j true = false → waitsM ops ops.size j i = true ∨ (o.apart ops oj = true ∧ (blind o.op = true ∨ kindOp oj.op ≤ 1)) := by
    intro j oj hoj hji hun
    have := List.all_eq_true.1 h3 j (List.mem_range.2 (Array.getElem?_eq_some_iff.1 hoj).1)
    simp only [hoj, hun, Bool.or_false, Bool.or_eq_true, beq_iff_eq, hji, false_or, Bool.and_eq_true] at this
    exact this.symm.imp id fun ⟨h1, h2⟩ => ⟨h1, h2.imp id fun h => Nat.le_of_ble_eq_true h⟩
  unfold wpMix at hg
  by_cases hw : Region.wanted o (yielded ops a.tmps) = true
  · rw [if_pos hw] at hg
    rcases hg with ⟨v, hv, hn⟩ | ⟨hk, _⟩
    · obtain ⟨u, E', hs'⟩ := hn
      exact anyM_first hi (Region.noSelect_spec h1) ops.size fuel listed a w (closedB_spec h4) hfree h2 (.inl ⟨hw, fun w' hw' => hw'.elim (fun hb => blind_run hb a.eval (hv w (Kept0.refl w))) (hv w')⟩) ((h u).out E' _ w hs')
    · exact absurd h0 hk
  · rw [if_neg hw] at hg
    obtain ⟨u, E', hs'⟩ := hg
    exact anyM_first hi (Region.noSelect_spec h1) ops.size fuel listed a w (closedB_spec h4) hfree h2 (.inr ⟨by simpa using hw, rfl⟩) ((h u).out E' _ w hs')

/-- What a box holds by name is one cell. -/
theorem oneBx {B : Base} {Q : Exit → Act → World → Prop} {K : List KI} {s : AS} (k j : Nat) {b : Bx} {v : Value} (hb : getBx s.boxes k = some b) (hj : nth b.cells j = .c (.val v)) (h : oneCells [v] = true → GW P B Q K s) : GW P B Q K s := by
  refine ⟨fun E a w hs => ?_⟩
  obtain ⟨hm, hbk⟩ := getBx_mem hb
  obtain ⟨h1, vs, ty, h2, h3, h4⟩ := hs.boxes b hm
  have ho : v.oneCell' = true := by
    rw [nth_get] at hj
    cases hg : b.cells[j]? with
    | none => rw [hg] at hj; simp at hj
    | some x =>
      rw [hg] at hj
      have hx : x = .c (.val v) := by simpa using hj
      subst hx
      have := h4 j _ hg
      have e := den_int this
      rw [e] at this
      exact this.cell1 rfl hs.one
  have ho : oneCells [v] = true := by
    cases v <;> first | rfl | cases ho
  exact (h ho).out E a w hs

/-- The end of a function without a return. -/
theorem endB {B : Base} {fn : Func} {R : Ending → World → Prop} {s : AS} (h : RW B (bodyPost P fn R) s) : GW P B (bodyPost P fn R) [] s :=
  ⟨fun E a w hs => by
    have g : bodyPost P fn R .ret a w := h.rec fun g => g E a w hs
    exact g⟩

end Go.Sx
