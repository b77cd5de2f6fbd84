/- A symbolic executor for the model's code, proved sound: part 3. No conditions. -/
import Derived.Test.YteonkhnmlolfgaaGreatDoorEng2
import Derived.Laws.BytesArg
import Derived.Lib.ItoaNum
import Derived.Sort.Grow
import Derived.Deep.Draws
import Derived.Lib.ItoaLen
import Derived.Lib.Join
import Derived.WideLaws
import Derived.Laws.Strings2
import Derived.Lib.AtoiAll
import Derived.Lib.Fields

/- The return of what was changed; an inner slice taken out and put back; a nil slice adopted. -/
namespace Go.Sx
open Go.RowKit (Below)
variable {P : Program} {T : List (TypeId × TI)}

theorem GW.out {B : Base} {Q : Exit → Act → World → Prop} {K : List KI} {s : AS} (h : GW P B Q K s) : G P B Q K s := h.rec fun h => h

def linksOk (links : List (Nat × Value)) (l : Nat → Value) (ks : List Nat) : Prop :=
  match ks with
  | [] => True
  | k :: r => getLink links k = some (l k) ∧ linksOk links l r

theorem linksOk_mem {links : List (Nat × Value)} {l : Nat → Value} {ks : List Nat} (h : linksOk links l ks) {k : Nat} (hk : k ∈ ks) : (k, l k) ∈ links := by
  induction ks with
  | nil => simp at hk
  | cons j r ih =>
    rcases List.mem_cons.1 hk with rfl | hk
    · exact getLink_mem h.1
    · exact ih h.2 hk

def outVs (xs : List AV) (us : List Value) : Prop :=
  match xs, us with
  | [], [] => True
  | x :: xs, u :: us => x = .v u ∧ outVs xs us
  | _, _ => False

theorem outVs_get {xs : List AV} {us : List Value} (h : outVs xs us) : xs = us.map AV.v := by
  induction xs generalizing us with
  | nil => cases us <;> simp_all [outVs]
  | cons x xs ih =>
    cases us with
    | nil => simp [outVs] at h
    | cons u us =>
      obtain ⟨rfl, h⟩ := h
      rw [ih h]; rfl

def plainB (x : AV) : Bool :=
  match x with
  | .own _ => true
  | .c (.val u) => oneCells [u]
  | _ => false
def plainA (x : AV) : Bool :=
  match x with
  | .agg xs => allB plainB xs
  | x => plainB x

theorem den_mkC {E : Env} {w : World} {A : Nat → Prop} {N : Nat} {l : Nat → Value} {x : AV} (hp : plainB x = true) (hk : ∀ k ∈ keyC x, k < N ∧ E.ov k = l k) : Den E w A N x (valC l x) := by
  unfold plainB at hp
  split at hp
  · rename_i k
    obtain ⟨h1, h2⟩ := hk k (by simp [keyC])
    have : Den E w A N (.own k) (E.ov k) := .own h1
    rw [h2] at this
    exact this
  · rename_i u
    exact .c (.val u (oneCells_spec hp u (by simp)))
  · simp at hp

theorem den_mkA {E : Env} {w : World} {A : Nat → Prop} {N : Nat} {l : Nat → Value} {x : AV} (hp : plainA x = true) (hk : ∀ k ∈ keysA x, k < N ∧ E.ov k = l k) : Den E w A N x (valA l x) := by
  cases x with
  | agg xs =>
    refine .agg _ (by simp) (fun i z hz => ?_)
    simp only [List.getD, List.getElem?_map, hz, Option.map_some, Option.getD_some]
    exact den_mkC (allB_mem hp (List.mem_of_getElem? hz)) (fun k hk' => hk k (List.mem_flatMap.2 ⟨z, List.mem_of_getElem? hz, hk'⟩))
  | own k => exact den_mkC hp hk
  | c z => exact den_mkC hp hk
  | _ => simp [plainA, plainB] at hp

theorem retU (hT : TblOk P T) {W : World} {may : Nat → Prop} {fn : Func} {x0 : AV} {l : Nat → Value} {y : Arg} {outs : List Value} {s : AS} {xs : List AV} (hx : retAV T fn.results.toList s = some xs) (hv : outVs xs outs)
    (hp : plainA x0 = true) (hk : noDup (keysA x0) = true) (ho : outA s.own x0 y) (hl : linksOk s.links l (keysA x0)) : RW ⟨W, may⟩ (bodyPost P fn fun e w' => GivesU W may (valA l x0) y outs w' e) s := by
  refine ⟨fun E a w h => ?_⟩
  obtain ⟨vs, h1, h2, h3, h4⟩ := retAV_ok hT h fn.results.toList xs hx
  obtain rfl := outVs_get hv
  have hvs : vs = outs := by
    apply List.ext_getElem?
    intro i
    by_cases hi : i < outs.length
    · have hi' : i < vs.length := by rw [h2]; simpa using hi
      have := den_int (h4 i (.v outs[i]) (by simp [hi]))
      simp only [List.getD, List.getElem?_eq_getElem hi', Option.getD_some] at this
      rw [List.getElem?_eq_getElem hi, List.getElem?_eq_getElem hi', this]
    · rw [List.getElem?_eq_none (by rw [h2]; simp; omega), List.getElem?_eq_none (by omega)]
  subst hvs
  have hD : Den E w (s.avoid E) s.next x0 (valA l x0) := den_mkA hp (fun k hk' => h.links _ (linksOk_mem hl hk'))
  obtain ⟨o1, o2⟩ := outA_ok h ho hD
  refine ⟨h.defers, resVal vs, ?_, rfl, ⟨_, o1, keys_nodup h (noDup_spec hk) o2, fun b hb => ?_⟩, ?_⟩
  · rw [results_eq, Array.mapM_eq_mapM_toList]
    simp only [map_eq_pure_bind, Sem.run_bind, h1, Result.andThen_ok, Sem.run_pure]
    exact congrArg (fun v => Result.ok v w) (resVal_eq vs)
  · obtain ⟨k, hk', hb⟩ := List.mem_flatMap.1 hb
    obtain ⟨z, hz, rfl⟩ := o2 k hk'
    exact (h.fresh b (.inr ⟨z, hz, hb⟩)).symm
  · have hB := h.base
    exact ⟨hB.os, hB.tape, hB.output, hB.size, fun k hk hm => hB.block k hk hm⟩


/-- One place of what is owned is described anew. -/
theorem own_swap {w : World} {n es : Nat} {row : Nat → List Cell} {b off cap : Nat} {ty : TypeId} {cells : Array Value} {fps : Nat → List Nat} (hn : n ≤ cap) (hc : cap ≤ maxLen)
    (hb : w.heap[b]? = some (.cells cells ty (0, 0))) (hs : (off + cap) * es ≤ cells.size) (hl : ∀ i, i < n → (row i).length = es)
    (hr : ∀ i j c, i < n → (row i)[j]? = some c → OwnRep w c (cells.getD ((off + i) * es + j) undef) (fps (i * es + j)))
    (hnd : (b :: (List.range (n * es)).flatMap fps).Nodup)
    {j o : Nat} (hj : j < n) (ho : o < es) {c : Cell} {g : List Nat} (hg : OwnRep w c (cells.getD ((off + j) * es + o) undef) g) (hgn : g.Nodup)
    (hgd : ∀ x ∈ g, x ≠ b ∧ ∀ k, k < n * es → k ≠ j * es + o → x ∉ fps k) {c' : Cell} (hu : UpdOk n es row j o [c] c') :
    OwnRep w c' (.slice (some ⟨b, off * es, none⟩) n cap) (b :: (List.range (n * es)).flatMap (fun k => if k = j * es + o then g else fps k)) ∧
      (b :: (List.range (n * es)).flatMap (fun k => if k = j * es + o then g else fps k)).Nodup := by
  obtain ⟨row', rfl, hu1, hu2⟩ := hu
  obtain ⟨hb0, hnd1⟩ := List.nodup_cons.1 hnd
  constructor
  · refine .sl n es row' b off cap ty cells _ hn hc hb hs (fun i hi => ?_) (fun i m d hi hd => ?_)
    · by_cases e : i = j
      · subst e
        rw [hu2]
        simp [spliceC, hl i hi]
        omega
      · rw [hu1 i hi e]; exact hl i hi
    · by_cases e : i = j
      · subst e
        rw [hu2] at hd
        have hl1 : (List.take o (row i)).length = o := by simp [hl i hi]; omega
        simp only [spliceC] at hd
        by_cases h1 : m = o
        · subst h1
          rw [if_pos rfl]
          rw [List.append_assoc, List.getElem?_append_right (by omega), hl1, Nat.sub_self] at hd
          simp only [List.cons_append, List.getElem?_cons_zero, Option.some.injEq] at hd
          subst hd
          exact hg
        · rw [if_neg (by omega)]
          refine hr i m d hi ?_
          by_cases h2 : m < o
          · rw [List.append_assoc, List.getElem?_append_left (by omega), List.getElem?_take, if_pos h2] at hd
            exact hd
          · rw [List.getElem?_append_right (by simp [hl i hi]; omega)] at hd
            simp only [List.length_append, hl1, List.getElem?_drop, List.length_singleton] at hd
            rwa [show o + 1 + (m - (o + 1)) = m by omega] at hd
      · rw [hu1 i hi e] at hd
        have hml : m < es := by have := (List.getElem?_eq_some_iff.1 hd).1; rw [hl i hi] at this; exact this
        have hne : i * es + m ≠ j * es + o := by
          intro h
          rcases Nat.lt_or_gt_of_ne e with h' | h'
          · have : (i + 1) * es ≤ j * es := Nat.mul_le_mul_right _ h'
            rw [Nat.add_mul] at this
            omega
          · have : (j + 1) * es ≤ i * es := Nat.mul_le_mul_right _ h'
            rw [Nat.add_mul] at this
            omega
        rw [if_neg hne]
        exact hr i m d hi hd
  · obtain ⟨f1, f2⟩ := nodup_flatMap.1 hnd1
    refine List.nodup_cons.2 ⟨fun h => ?_, nodup_flatMap.2 ⟨fun k hk => ?_, ?_⟩⟩
    · obtain ⟨k, hk, hx⟩ := List.mem_flatMap.1 h
      split at hx
      · exact (hgd b hx).1 rfl
      · exact hb0 (mem_flat (List.mem_range.1 hk) hx)
    · split
      · exact hgn
      · exact f1 k hk
    · refine List.Pairwise.imp_of_mem ?_ ((List.nodup_range (n := n * es)).and f2)
      intro p q hp hq ⟨hne, hpq⟩ z hz hz'
      split at hz
      · split at hz'
        · omega
        · exact (hgd z hz).2 q (List.mem_range.1 hq) (by assumption) hz'
      · split at hz'
        · exact (hgd z hz').2 p (List.mem_range.1 hp) (by assumption) hz
        · exact hpq z hz hz'

/-- An inner slice is taken out of one that is owned. -/
theorem focusW (hT : TblOk P T) {B : Base} {Q : Exit → Act → World → Prop} {q : Bool} {all : Array Oper} {o : Oper} {rest : List Oper} {K : List KI} {s : AS} {x : Operand} {t : TypeId} {i : TI}
    (hg : o.guard = none) (ho : o.op = .load t x) (hi : find T t = some i) (hag : i.agg = false) {k es off n : Nat} {j : Int} {row : Nat → List Cell}
    (hx : s.ev x = .oel k es j off) (hk : getOwn s.own k = some (.sl n es row)) {c : Cell} (hc : (row j.toNat)[off]? = some c)
    (h : ∀ v, GW P B Q (.ops q all rest :: K) (({ s with own := ⟨s.next, c⟩ :: ⟨k, .sl n es fun i => if i = j.toNat then spliceC (row i) off [.val v] else row i⟩ :: remOs [k] s.own, next := s.next + 1, links := (s.next, v) :: s.links } : AS).put o.dst (.own s.next))) :
    GW P B Q (.ops q all (o :: rest) :: K) s := by
  refine ⟨G_ops_read hg (fun E a w hs => ?_)⟩
  have hm := getOwn_mem hk
  obtain ⟨hklt, o2, o3⟩ := hs.own _ hm
  simp only at o2 o3 hklt
  have hev := hs.ev x
  rw [hx] at hev
  generalize hv : a.eval x = v at hev
  cases hev with
  | oel _ b o' n' cap hkl hov h0 hj =>
    rw [hov] at o2
    generalize hfp : E.fp k = fp at o2 o3
    obtain ⟨jn, rfl⟩ := Int.eq_ofNat_of_zero_le h0
    simp only [Int.toNat_natCast, Int.ofNat_lt] at *
    cases o2 with
    | emp => exact absurd hj (Nat.not_lt_zero _)
    | sl _ _ _ _ offb _ ty cells fps hn hcp hb hcs hl hr =>
      have hoff : off < es := by have := (List.getElem?_eq_some_iff.1 hc).1; rwa [hl jn hj] at this
      have hin := hr jn off c hj hc
      obtain ⟨hb0, hnd1⟩ := List.nodup_cons.1 o3
      obtain ⟨f1, f2⟩ := nodup_flatMap.1 hnd1
      have hpos : jn * es + off < n * es := idx_lt hj hoff
      have hcl : (offb + jn) * es + off < cells.size := by
        have := idx_lt (show offb + jn < offb + cap by omega) hoff
        omega
      generalize hu : cells.getD ((offb + jn) * es + off) undef = u at hin
      have hdis : ∀ z ∈ fps (jn * es + off), z ≠ b ∧ ∀ k, k < n * es → k ≠ jn * es + off → z ∉ fps k := by
        intro z hz
        refine ⟨fun e => hb0 (e ▸ mem_flat hpos hz), fun k hk hne hz' => ?_⟩
        have hp := List.pairwise_iff_getElem.1 f2
        rcases Nat.lt_or_gt_of_ne hne with h' | h'
        · have := hp k (jn * es + off) (by simpa using hk) (by simpa using hpos) h' z
          simp only [List.getElem_range] at this
          exact this hz' hz
        · have := hp (jn * es + off) k (by simpa using hpos) (by simpa using hk) h' z
          simp only [List.getElem_range] at this
          exact this hz hz'
      have hone : u.oneCell' = true := hin.one
      obtain ⟨s1, s2⟩ := own_swap hn hcp hb hcs hl hr o3 hj hoff (c := .val u) (g := []) (by rw [hu]; exact .val u hone) (by simp) (by simp)
        (c' := .sl n es fun i => if i = jn then spliceC (row i) off [.val u] else row i) ⟨_, rfl, fun i _ hne => by simp [hne], by simp⟩
      have hI := hs.drop [k]
      have key : ∀ z, z ∈ b :: (List.range (n * es)).flatMap fps → s.avoid E z ∧ ¬ ({ s with own := remOs [k] s.own } : AS).avoid E z ∧ B.fresh z := by
        intro z hz
        have hzk : z ∈ E.fp k := by rw [hfp]; exact hz
        have hav : s.avoid E z := .inr ⟨_, hm, hzk⟩
        refine ⟨hav, ?_, hs.fresh z hav⟩
        rintro (⟨r, hr', rfl⟩ | ⟨r, hr', hz'⟩)
        · exact hs.sepB r hr' _ hm hzk
        · obtain ⟨q1, q2⟩ := remOs_mem.1 hr'
          exact hs.sep _ hm r q1 (fun e => q2 (by simp at e; simp [e])) z hzk hz'
      have sub1 : ∀ z, z ∈ b :: (List.range (n * es)).flatMap (fun k => if k = jn * es + off then [] else fps k) → z ∈ b :: (List.range (n * es)).flatMap fps := by
        intro z hz
        rcases List.mem_cons.1 hz with rfl | hz
        · simp
        · obtain ⟨p, hp, hz⟩ := List.mem_flatMap.1 hz
          split at hz
          · simp at hz
          · exact List.mem_cons_of_mem _ (List.mem_flatMap.2 ⟨p, hp, hz⟩)
      have hI3 := hI.addAt (k := k) hklt (fun y' hy => fun e => (remOs_mem.1 hy).2 (by rw [e]; simp)) (by rw [hov]; exact s1) s2 (fun z hz => key z (sub1 z hz))
      have hav3 : ∀ z, z ∈ fps (jn * es + off) → ¬ ({ s with own := ⟨k, .sl n es fun i => if i = jn then spliceC (row i) off [.val u] else row i⟩ :: remOs [k] s.own } : AS).avoid (E.setFp k (b :: (List.range (n * es)).flatMap (fun k => if k = jn * es + off then [] else fps k))) z := by
        intro z hz
        have hzin : z ∈ b :: (List.range (n * es)).flatMap fps := List.mem_cons_of_mem _ (mem_flat hpos hz)
        rintro (⟨r, hr', rfl⟩ | ⟨r, hr', hz'⟩)
        · exact (key _ hzin).2.1 (.inl ⟨r, hr', rfl⟩)
        · rcases List.mem_cons.1 hr' with rfl | hr'
          · simp only [Env.setFp, if_true] at hz'
            rcases List.mem_cons.1 hz' with rfl | hz'
            · exact (hdis _ hz).1 rfl
            · obtain ⟨p, hp, hz'⟩ := List.mem_flatMap.1 hz'
              split at hz'
              · simp at hz'
              · exact (hdis z hz).2 p (List.mem_range.1 hp) (by assumption) hz'
          · have hne : r.key ≠ k := fun e => (remOs_mem.1 hr').2 (by rw [e]; simp)
            simp only [Env.setFp, hne, if_false] at hz'
            exact (key z hzin).2.1 (.inr ⟨r, hr', hz'⟩)
      obtain ⟨k1, k2⟩ := hI3.addOwn hin (f1 _ (List.mem_range.2 hpos)) (fun z hz => ⟨(key z (List.mem_cons_of_mem _ (mem_flat hpos hz))).1, hav3 z hz, (key z (List.mem_cons_of_mem _ (mem_flat hpos hz))).2.2⟩)
      have k3 : ({ s with own := ⟨s.next, c⟩ :: ⟨k, .sl n es fun i => if i = jn then spliceC (row i) off [.val u] else row i⟩ :: remOs [k] s.own, next := s.next + 1, links := (s.next, u) :: s.links } : AS).isA B
          ((E.setFp k (b :: (List.range (n * es)).flatMap (fun k => if k = jn * es + off then [] else fps k))).withOwn s.next u (fps (jn * es + off))) (s.avoid E) a w := by
        refine ⟨k1.defers, fun p hp => ?_, k1.size, k1.slots, k1.boxes, k1.boxes2, k1.keys, k1.own, k1.ownkeys, k1.sep, k1.sepB, k1.one, k1.base, k1.fresh, k1.sub⟩
        rcases List.mem_cons.1 hp with rfl | hp
        · exact ⟨Nat.lt_succ_self _, by simp [Env.withOwn]⟩
        · exact k1.links p hp
      refine ⟨u, fun w' hkw => ?_, (h u).out _ _ w ((k3.put o.dst k2).is)⟩
      obtain ⟨dst, op', ty', pos, after, guard⟩ := o
      simp only at ho
      subst ho
      obtain ⟨f, d, z, S⟩ := TI.of_spec (hT t i hi)
      have hd : isAggD d = false := by rw [← S.agg]; exact hag
      have h1 := S.one hd
      have hrun := run_loadVar_ti (hT t i hi) w' b (offb * es + jn * es + off) ((List.range i.size).map fun _ => u) (by simp) (fun p hp => by
        obtain rfl : p = 0 := by omega
        refine hkw.cell ?_
        rw [show offb * es + jn * es + off + 0 = (offb + jn) * es + off by rw [Nat.add_mul]; omega, cell_of_row w b _ cells ty (0, 0) hb]
        simp only [h1, List.range_one, List.map_cons, List.map_nil, List.getD_cons_zero]
        rw [← hu, Array.getD_eq_getD_getElem?]
        simp [hcl])
      simp only [execOp, hv, Instr.loadAt, Instr.sureAddr, Sem.run_bind, Sem.run_pure, Result.andThen_ok, hrun, hag, h1]
      rfl


/-- The inner slice is put back. -/
theorem unfocusW {B : Base} {Q : Exit → Act → World → Prop} {K : List KI} {s : AS} (k k2 : Nat) {n es : Nat} {row : Nat → List Cell} {j off : Nat} {v : Value} {c : Cell} (hk : getOwn s.own k = some (.sl n es row))
    (hj : j < n) (hc : (row j)[off]? = some (.val v)) (h2 : getOwn s.own k2 = some c) (hl : getLink s.links k2 = some v) (hne : Nat.beq k k2 = false) (c' : Cell) (hu : UpdOk n es row j off [c] c')
    (h : GW P B Q K { s with own := ⟨k, c'⟩ :: remOs [k, k2] s.own }) : GW P B Q K s := by
  refine ⟨fun E a w hs => ?_⟩
  have hm := getOwn_mem hk
  have hm2 := getOwn_mem h2
  have hkk : k ≠ k2 := fun e => by subst e; simp at hne
  obtain ⟨hklt, o2, o3⟩ := hs.own _ hm
  obtain ⟨hklt2, p2, p3⟩ := hs.own _ hm2
  simp only at o2 o3 hklt p2 p3 hklt2
  have hlv := (hs.links _ (getLink_mem hl)).2
  simp only at hlv
  have hI := hs.drop [k, k2]
  have key : ∀ z, (z ∈ E.fp k ∨ z ∈ E.fp k2) → s.avoid E z ∧ ¬ ({ s with own := remOs [k, k2] s.own } : AS).avoid E z ∧ B.fresh z := by
    intro z hz
    have : ∃ y ∈ s.own, y.key ∈ [k, k2] ∧ z ∈ E.fp y.key := by
      rcases hz with hz | hz
      · exact ⟨_, hm, by simp, hz⟩
      · exact ⟨_, hm2, by simp, hz⟩
    obtain ⟨y, hy, hyk, hz⟩ := this
    have hav : s.avoid E z := .inr ⟨_, hy, hz⟩
    refine ⟨hav, ?_, hs.fresh z hav⟩
    rintro (⟨r, hr', rfl⟩ | ⟨r, hr', hz'⟩)
    · exact hs.sepB r hr' _ hy hz
    · obtain ⟨q1, q2⟩ := remOs_mem.1 hr'
      exact hs.sep _ hy r q1 (fun e => q2 (e ▸ hyk)) z hz hz'
  have hsep := hs.sep _ hm _ hm2 hkk
  generalize hov : E.ov k = vv, hfp : E.fp k = fp at o2 o3
  cases o2 with
  | nil => omega
  | emp => omega
  | sl _ _ _ b offb cap ty cells fps hn hcp hb hcs hl' hr =>
    have hoff : off < es := by have := (List.getElem?_eq_some_iff.1 hc).1; rwa [hl' j hj] at this
    have hin := hr j off _ hj hc
    generalize hu' : cells.getD ((offb + j) * es + off) undef = u at hin
    have huv : u = v := by
      revert hin
      generalize fps (j * es + off) = g
      intro hin
      cases hin; rfl
    obtain ⟨s1, s2⟩ := own_swap hn hcp hb hcs hl' hr o3 hj hoff (c := c) (g := E.fp k2) (by rw [hu', huv, ← hlv]; exact p2) p3 (fun z hz => by
      refine ⟨fun e => ?_, fun p hp _ hz' => ?_⟩
      · subst e
        exact hsep z (by simp only [hfp]; simp) hz
      · exact hsep z (by simp only [hfp]; exact List.mem_cons_of_mem _ (mem_flat hp hz')) hz) hu
    have hI3 := hI.addAt (k := k) hklt (fun y' hy => fun e => (remOs_mem.1 hy).2 (by rw [e]; simp)) (by rw [hov]; exact s1) s2 (fun z hz => by
      rcases List.mem_cons.1 hz with rfl | hz
      · exact key z (.inl (by rw [hfp]; simp))
      · obtain ⟨p, hp, hz⟩ := List.mem_flatMap.1 hz
        split at hz
        · exact key z (.inr hz)
        · exact key z (.inl (by rw [hfp]; exact List.mem_cons_of_mem _ (List.mem_flatMap.2 ⟨p, hp, hz⟩))))
    exact h.out _ a w hI3.is

/-- The nil slice in a slot is taken for an empty slice of one's own. -/
theorem nilW {B : Base} {Q : Exit → Act → World → Prop} {K : List KI} {s : AS} (i es : Nat) (row : Nat → List Cell) (hi : nth s.slots i = .c (.val (.slice none 0 0)))
    (h : GW P B Q K { s with slots := setNth s.slots i (.own s.next), own := ⟨s.next, .sl 0 es row⟩ :: s.own, next := s.next + 1 }) : GW P B Q K s := by
  refine ⟨fun E a w hs => ?_⟩
  have hI : s.isA B E (s.avoid E) a w := ⟨hs.defers, hs.links, hs.size, hs.slots, hs.boxes, hs.boxes2, hs.keys, hs.own, hs.ownkeys, hs.sep, hs.sepB, hs.one, hs.base, hs.fresh, fun _ h => h⟩
  obtain ⟨k1, k2⟩ := hI.addOwn (.nil es row) (by simp) (by simp)
  have k3 := k1.is
  refine h.out (E.withOwn s.next (.slice none 0 0) []) a w ⟨k3.defers, k3.links, by rw [k3.size]; exact (setNth_length _ _ _).symm, fun m z hz => ?_, k3.boxes, k3.boxes2, k3.keys, k3.own, k3.ownkeys, k3.sep, k3.sepB, k3.one, k3.base, k3.fresh⟩
  simp only at hz
  rw [setNth_get] at hz
  split at hz
  · rename_i hm
    obtain ⟨rfl, hm⟩ := hm
    obtain rfl := Option.some.inj hz
    have hd := hs.slots i (.c (.val (.slice none 0 0))) (by rw [nth_get, List.getElem?_eq_getElem hm] at hi; rw [List.getElem?_eq_getElem hm]; simpa using hi)
    rw [den_int hd]
    have : Den (E.withOwn s.next (.slice none 0 0) []) w _ _ (.own s.next) (.slice none 0 0) := k2
    exact this.move (Nat.le_refl _) (fun _ _ => ⟨rfl, rfl⟩) (fun _ _ _ => rfl) (fun b _ hb => k1.sub b hb)
  · exact k3.slots m z hz

end Go.Sx

/- The types that the statements speak of. -/
namespace Go.Sx

abbrev sInt (xs : List Int) : Cell := slC 1 (fun n => [vi n]) xs
abbrev sBool (xs : List Bool) : Cell := slC 1 (fun b => [vb b]) xs
abbrev sStr (xs : List ByteArray) : Cell := slC 1 (fun b => [vs b]) xs

structure GStamp where
  epoch : Int
  turn : Int
  deriving Inhabited, DecidableEq
def GStamp.c (x : GStamp) : List Cell := [vi x.epoch, vi x.turn]
structure GCount where
  stamp : GStamp
  n : Int
  deriving Inhabited, DecidableEq
def GCount.c (x : GCount) : List Cell := [vi x.stamp.epoch, vi x.stamp.turn, vi x.n]
structure GRecord where
  op : Int
  stamp : GStamp
  key : Int
  val : Int
  deriving Inhabited, DecidableEq
def GRecord.c (x : GRecord) : List Cell := [vi x.op, vi x.stamp.epoch, vi x.stamp.turn, vi x.key, vi x.val]
abbrev sGRecord (xs : List GRecord) : Cell := slC 5 GRecord.c xs

structure GLink where
  cap : Int
  queue : List GRecord
  credits : Int
  back : Int
  sent : Int
  got : Int
  deriving Inhabited, DecidableEq
def GLink.c (x : GLink) : List Cell := [vi x.cap, sGRecord x.queue, vi x.credits, vi x.back, vi x.sent, vi x.got]
abbrev sGLink (xs : List GLink) : Cell := slC 6 GLink.c xs

structure GNode where
  kind : Int
  a : Int
  b : Int
  outs : List Int
  deriving Inhabited, DecidableEq
def GNode.c (x : GNode) : List Cell := [vi x.kind, vi x.a, vi x.b, sInt x.outs]
abbrev sGNode (xs : List GNode) : Cell := slC 4 GNode.c xs

structure GGraph where
  nodes : List GNode
  workers : Int
  cap : Int
  deriving Inhabited, DecidableEq
def GGraph.c (x : GGraph) : List Cell := [sGNode x.nodes, vi x.workers, vi x.cap]
structure GCell where
  op : Int
  epoch : Int
  key : Int
  val : Int
  deriving Inhabited, DecidableEq
def GCell.c (x : GCell) : List Cell := [vi x.op, vi x.epoch, vi x.key, vi x.val]
abbrev sGCell (xs : List GCell) : Cell := slC 4 GCell.c xs

structure GDone where
  epoch : Int
  capped : Bool
  deriving Inhabited, DecidableEq
def GDone.c (x : GDone) : List Cell := [vi x.epoch, vb x.capped]
abbrev sGDone (xs : List GDone) : Cell := slC 2 GDone.c xs

structure GWorker where
  queue : List GRecord
  staged : List GRecord
  inputs : List GRecord
  cells : List GCell
  sums : List Int
  black : List Bool
  caps : List Bool
  dones : List GDone
  deriving Inhabited, DecidableEq
def GWorker.c (x : GWorker) : List Cell := [sGRecord x.queue, sGRecord x.staged, sGRecord x.inputs, sGCell x.cells, sInt x.sums, sBool x.black, sBool x.caps, sGDone x.dones]
abbrev sGWorker (xs : List GWorker) : Cell := slC 8 GWorker.c xs

structure GToken where
  going : Bool
  at_ : Int
  sum : Int
  black : Bool
  capped : Bool
  deriving Inhabited, DecidableEq
def GToken.c (x : GToken) : List Cell := [vb x.going, vi x.at_, vi x.sum, vb x.black, vb x.capped]
abbrev sGToken (xs : List GToken) : Cell := slC 5 GToken.c xs

structure GNews where
  to_ : Int
  epoch : Int
  capped : Bool
  deriving Inhabited, DecidableEq
def GNews.c (x : GNews) : List Cell := [vi x.to_, vi x.epoch, vb x.capped]
abbrev sGNews (xs : List GNews) : Cell := slC 3 GNews.c xs

structure GCluster where
  graph : GGraph
  workers : List GWorker
  links : List GLink
  tokens : List GToken
  news : List GNews
  deriving Inhabited, DecidableEq
def GCluster.c (x : GCluster) : List Cell := [sGNode x.graph.nodes, vi x.graph.workers, vi x.graph.cap, sGWorker x.workers, sGLink x.links, sGToken x.tokens, sGNews x.news]
structure GPick where
  kind : Int
  a : Int
  b : Int
  deriving Inhabited, DecidableEq
def GPick.c (x : GPick) : List Cell := [vi x.kind, vi x.a, vi x.b]
abbrev sGPick (xs : List GPick) : Cell := slC 3 GPick.c xs

structure GScript where
  graph : GGraph
  inputs : List GRecord
  picks : List GPick
  rounds : Int
  deriving Inhabited, DecidableEq
def GScript.c (x : GScript) : List Cell := [sGNode x.graph.nodes, vi x.graph.workers, vi x.graph.cap, sGRecord x.inputs, sGPick x.picks, vi x.rounds]
/-! How large a thing is, as the statements count it; which things come in from outside. -/

def wS {α : Type} (w : α → Nat) (xs : List α) : Nat := xs.length + (xs.map w).sum

def GStamp.ok (x : GStamp) : Prop := inR .i64 x.epoch ∧ inR .i64 x.turn
def GCount.ok (x : GCount) : Prop := x.stamp.ok ∧ inR .i64 x.n
def GRecord.ok (x : GRecord) : Prop := inR .i64 x.op ∧ x.stamp.ok ∧ inR .i64 x.key ∧ inR .i64 x.val
def GLink.w (x : GLink) : Nat := x.queue.length
def GLink.ok (x : GLink) : Prop := inR .i64 x.cap ∧ (x.queue.length ≤ maxLen ∧ ∀ y ∈ x.queue, y.ok) ∧ inR .i64 x.credits ∧ inR .i64 x.back ∧ inR .i64 x.sent ∧ inR .i64 x.got
def GNode.w (x : GNode) : Nat := x.outs.length
def GNode.ok (x : GNode) : Prop := inR .i64 x.kind ∧ inR .i64 x.a ∧ inR .i64 x.b ∧ (x.outs.length ≤ maxLen ∧ ∀ y ∈ x.outs, inR .i64 y)
def GGraph.w (x : GGraph) : Nat := wS GNode.w x.nodes
def GGraph.ok (x : GGraph) : Prop := (x.nodes.length ≤ maxLen ∧ ∀ y ∈ x.nodes, y.ok) ∧ inR .i64 x.workers ∧ inR .i64 x.cap
def GCell.ok (x : GCell) : Prop := inR .i64 x.op ∧ inR .i64 x.epoch ∧ inR .i64 x.key ∧ inR .i64 x.val
def GDone.ok (x : GDone) : Prop := inR .i64 x.epoch
def GWorker.w (x : GWorker) : Nat := x.queue.length + x.staged.length + x.inputs.length + x.cells.length + x.sums.length + x.black.length + x.caps.length + x.dones.length
def GWorker.ok (x : GWorker) : Prop := (x.queue.length ≤ maxLen ∧ ∀ y ∈ x.queue, y.ok) ∧ (x.staged.length ≤ maxLen ∧ ∀ y ∈ x.staged, y.ok) ∧ (x.inputs.length ≤ maxLen ∧ ∀ y ∈ x.inputs, y.ok) ∧ (x.cells.length ≤ maxLen ∧ ∀ y ∈ x.cells, y.ok) ∧ (x.sums.length ≤ maxLen ∧ ∀ y ∈ x.sums, inR .i64 y) ∧ x.black.length ≤ maxLen ∧ x.caps.length ≤ maxLen ∧ (x.dones.length ≤ maxLen ∧ ∀ y ∈ x.dones, y.ok)
def GToken.ok (x : GToken) : Prop := inR .i64 x.at_ ∧ inR .i64 x.sum
def GNews.ok (x : GNews) : Prop := inR .i64 x.to_ ∧ inR .i64 x.epoch
def GCluster.w (x : GCluster) : Nat := x.graph.w + wS GWorker.w x.workers + wS GLink.w x.links + x.tokens.length + x.news.length
def GCluster.ok (x : GCluster) : Prop := x.graph.ok ∧ (x.workers.length ≤ maxLen ∧ ∀ y ∈ x.workers, y.ok) ∧ (x.links.length ≤ maxLen ∧ ∀ y ∈ x.links, y.ok) ∧ (x.tokens.length ≤ maxLen ∧ ∀ y ∈ x.tokens, y.ok) ∧ (x.news.length ≤ maxLen ∧ ∀ y ∈ x.news, y.ok)
def GPick.ok (x : GPick) : Prop := inR .i64 x.kind ∧ inR .i64 x.a ∧ inR .i64 x.b
def GScript.w (x : GScript) : Nat := x.graph.w + x.inputs.length + x.picks.length
def GScript.ok (x : GScript) : Prop := x.graph.ok ∧ (x.inputs.length ≤ maxLen ∧ ∀ y ∈ x.inputs, y.ok) ∧ (x.picks.length ≤ maxLen ∧ ∀ y ∈ x.picks, y.ok) ∧ inR .i64 x.rounds

theorem wS_take {α : Type} [Inhabited α] (w : α → Nat) (xs : List α) (k : Nat) (hk : k < xs.length) : ((xs.take (k + 1)).map w).sum = ((xs.take k).map w).sum + w (xs.getD k default) := by
  rw [List.take_add_one, List.map_append, List.sum_append, List.getElem?_eq_getElem hk]
  simp [List.getD, hk]

theorem wS_take_le {α : Type} [Inhabited α] (w : α → Nat) (xs : List α) (k : Nat) (hk : k < xs.length) : ((xs.take k).map w).sum + w (xs.getD k default) ≤ (xs.map w).sum := by
  rw [← wS_take w xs k hk]
  conv => rhs; rw [← List.take_append_drop (k + 1) xs, List.map_append, List.sum_append]
  omega

theorem wS_all {α : Type} (w : α → Nat) (xs : List α) (k : Nat) (hk : ¬ k < xs.length) : ((xs.take k).map w).sum = (xs.map w).sum := by
  rw [List.take_of_length_le (by omega)]

/-- What the statements' count leaves. -/
def szR (w : Nat) (left : Int) : Int := if (w : Int) ≤ left then left - w else -1

theorem szR_pos {w : Nat} {left : Int} (h : (w : Int) ≤ left) : szR w left = left - w := by simp only [szR]; rw [if_pos h]
theorem szR_neg {w : Nat} {left : Int} (h : ¬ (w : Int) ≤ left) : szR w left = -1 := by simp only [szR]; rw [if_neg h]
theorem szR_lt {w : Nat} {left : Int} (h : szR w left < 0) (_h0 : 0 ≤ left) : ¬ (w : Int) ≤ left := by
  intro h'
  rw [szR_pos h'] at h
  omega
theorem szR_ge {w : Nat} {left : Int} (h : ¬ szR w left < 0) : (w : Int) ≤ left := by
  refine Decidable.byContradiction fun h' => ?_
  rw [szR_neg h'] at h
  omega
theorem wS_eq {α : Type} (w : α → Nat) (xs : List α) : wS w xs = xs.length + (xs.map w).sum := rfl

theorem ba_self (b : ByteArray) : (b == b) = true := by rw [beq_toListBytes]; simp

theorem ba_eq {a b : ByteArray} (h : (a == b) = true) : a = b := by
  rw [beq_toListBytes] at h
  have h := eq_of_beq h
  rw [ByteArray.toList_eq, ByteArray.toList_eq] at h
  obtain ⟨⟨x⟩⟩ := a
  obtain ⟨⟨y⟩⟩ := b
  simp at h
  rw [h]

end Go.Sx

/- What is owned may be described otherwise: an empty slice for nil. -/
namespace Go.Sx
open Go.RowKit (Below)
variable {P : Program} {T : List (TypeId × TI)}

def CastC (c c' : Cell) : Prop := c' = c ∨ (c = .val (.slice none 0 0) ∧ ∃ es row, c' = .sl 0 es row)

def CastL (cs cs' : List Cell) : Prop :=
  match cs, cs' with
  | [], [] => True
  | c :: cs, c' :: cs' => CastC c c' ∧ CastL cs cs'
  | _, _ => False

theorem CastL.get {cs cs' : List Cell} (h : CastL cs cs') : cs'.length = cs.length ∧ ∀ (i : Nat) (c' : Cell), cs'[i]? = some c' → ∃ c, cs[i]? = some c ∧ CastC c c' := by
  induction cs generalizing cs' with
  | nil => cases cs' <;> simp_all [CastL]
  | cons c cs ih =>
    cases cs' with
    | nil => simp [CastL] at h
    | cons c' cs' =>
      obtain ⟨h1, h2⟩ := h
      obtain ⟨g1, g2⟩ := ih h2
      refine ⟨by simp [g1], fun i d hd => ?_⟩
      cases i with
      | zero => simp only [List.getElem?_cons_zero, Option.some.injEq] at hd; subst hd; exact ⟨c, by simp, h1⟩
      | succ i => simpa using g2 i d (by simpa using hd)

theorem CastC.own {w : World} {c c' : Cell} {v : Value} {fp : List Nat} (h : CastC c c') (ho : OwnRep w c v fp) : OwnRep w c' v fp := by
  rcases h with rfl | ⟨rfl, es, row, rfl⟩
  · exact ho
  · cases ho; exact .nil es row

theorem CastC.refl (c : Cell) : CastC c c := .inl rfl
theorem CastC.nil (es : Nat) (row : Nat → List Cell) : CastC (.val (.slice none 0 0)) (.sl 0 es row) := .inr ⟨rfl, es, row, rfl⟩

/-- The same slice, described otherwise. -/
def CastOk (c c' : Cell) : Prop :=
  match c, c' with
  | .sl n es row, .sl n' es' row' => n' = n ∧ es' = es ∧ ∀ i, i < n → CastL (row i) (row' i)
  | _, _ => False

theorem CastOk.own {w : World} {c c' : Cell} {v : Value} {fp : List Nat} (h : CastOk c c') (ho : OwnRep w c v fp) : OwnRep w c' v fp := by
  cases ho with
  | val x hx => cases c' <;> exact h.elim
  | nil es row =>
    cases c' with
    | val => exact h.elim
    | sl n' es' row' =>
      obtain ⟨rfl, rfl, _⟩ := h
      exact .nil _ row'
  | emp es row b0 o0 =>
    cases c' with
    | val => exact h.elim
    | sl n' es' row' =>
      obtain ⟨rfl, rfl, _⟩ := h
      exact .emp _ row' b0 o0
  | sl n es row b off cap ty cells fps hn hc hb hs hl hr =>
    cases c' with
    | val => exact h.elim
    | sl n' es' row' =>
      obtain ⟨rfl, rfl, h⟩ := h
      refine .sl _ _ row' b off cap ty cells fps hn hc hb hs (fun i hi => ?_) (fun i j d hi hd => ?_)
      · rw [(h i hi).get.1]; exact hl i hi
      · obtain ⟨c, h1, h2⟩ := (h i hi).get.2 j d hd
        exact h2.own (hr i j c hi h1)

def setOw (l : List Ow) (k : Nat) (c : Cell) : List Ow :=
  match l with
  | [] => []
  | y :: r => match Nat.beq y.key k with
    | true => ⟨k, c⟩ :: setOw r k c
    | false => y :: setOw r k c

theorem setOw_mem {l : List Ow} {k : Nat} {c : Cell} {y : Ow} (h : y ∈ setOw l k c) : (y.key = k ∧ y.cell = c ∧ ∃ z ∈ l, z.key = k) ∨ (y ∈ l ∧ y.key ≠ k) := by
  induction l with
  | nil => simp [setOw] at h
  | cons x r ih =>
    unfold setOw at h
    split at h
    · rename_i e
      have e := Nat.eq_of_beq_eq_true e
      rcases List.mem_cons.1 h with rfl | h
      · exact .inl ⟨rfl, rfl, x, by simp, e⟩
      · rcases ih h with ⟨h1, h2, z, hz, h3⟩ | ⟨h1, h2⟩
        · exact .inl ⟨h1, h2, z, List.mem_cons_of_mem _ hz, h3⟩
        · exact .inr ⟨List.mem_cons_of_mem _ h1, h2⟩
    · rename_i e
      rcases List.mem_cons.1 h with rfl | h
      · exact .inr ⟨by simp, fun e' => by rw [e', Nat.beq_refl] at e; cases e⟩
      · rcases ih h with ⟨h1, h2, z, hz, h3⟩ | ⟨h1, h2⟩
        · exact .inl ⟨h1, h2, z, List.mem_cons_of_mem _ hz, h3⟩
        · exact .inr ⟨List.mem_cons_of_mem _ h1, h2⟩

theorem setOw_keys (l : List Ow) (k : Nat) (c : Cell) : (setOw l k c).map (·.key) = l.map (·.key) := by
  induction l with
  | nil => rfl
  | cons x r ih =>
    unfold setOw
    split
    · rename_i e
      have e := Nat.eq_of_beq_eq_true e
      simp [ih, e]
    · simp [ih]

theorem setOw_key {l : List Ow} {k : Nat} {c : Cell} {y : Ow} (h : y ∈ setOw l k c) : ∃ z ∈ l, z.key = y.key := by
  rcases setOw_mem h with ⟨h1, _, z, hz, h3⟩ | ⟨h1, _⟩
  · exact ⟨z, hz, h3.trans h1.symm⟩
  · exact ⟨y, h1, rfl⟩

/-- What is owned is described otherwise. -/
theorem castW {B : Base} {Q : Exit → Act → World → Prop} {K : List KI} {s : AS} (k : Nat) (c' : Cell) {c : Cell} (hk : getOwn s.own k = some c) (hc : CastOk c c')
    (h : GW P B Q K { s with own := setOw s.own k c' }) : GW P B Q K s := by
  refine ⟨fun E a w hs => ?_⟩
  have hm := getOwn_mem hk
  have av : ∀ b, ({ s with own := setOw s.own k c' } : AS).avoid E b → s.avoid E b := by
    rintro b (hb | ⟨y, hy, hb⟩)
    · exact .inl hb
    · obtain ⟨z, hz, e⟩ := setOw_key hy
      exact .inr ⟨z, hz, by rw [e]; exact hb⟩
  have mv : ∀ x v, Den E w (s.avoid E) s.next x v → Den E w (({ s with own := setOw s.own k c' } : AS).avoid E) s.next x v := fun x v hx =>
    hx.move (Nat.le_refl _) (fun _ _ => ⟨rfl, rfl⟩) (fun _ _ _ => rfl) (fun b _ hb => av b hb)
  refine h.out E a w ⟨hs.defers, hs.links, hs.size, fun i x hx => mv _ _ (hs.slots i x hx), fun x hx => ?_, hs.boxes2, hs.keys, fun y hy => ?_, by rw [setOw_keys]; exact hs.ownkeys, fun y hy z hz hne => ?_, fun x hx y hy => ?_, hs.one, hs.base, fun b hb => hs.fresh b (av b hb)⟩
  · obtain ⟨h1, vs, ty, h2, h3, h4⟩ := hs.boxes x hx
    exact ⟨h1, vs, ty, h2, h3, fun i y hy => mv _ _ (h4 i y hy)⟩
  · rcases setOw_mem hy with ⟨h1, h2, _⟩ | ⟨h1, _⟩
    · obtain ⟨g1, g2, g3⟩ := hs.own _ hm
      rw [h1, h2]
      exact ⟨g1, hc.own g2, g3⟩
    · exact hs.own y h1
  · obtain ⟨y', hy', e1⟩ := setOw_key hy
    obtain ⟨z', hz', e2⟩ := setOw_key hz
    rw [← e1, ← e2]
    exact hs.sep y' hy' z' hz' (by rw [e1, e2]; exact hne)
  · obtain ⟨y', hy', e1⟩ := setOw_key hy
    rw [← e1]
    exact hs.sepB x hx y' hy'

theorem cast_slC {α : Type} [Inhabited α] {es : Nat} {e : α → List Cell} {row : Nat → List Cell} {xs : List α} (h : ∀ i, i < xs.length → CastL (row i) (e (xs.getD i default))) : CastOk (.sl xs.length es row) (slC es e xs) :=
  ⟨rfl, rfl, h⟩

theorem cast_make {α : Type} [Inhabited α] {es : Nat} {e : α → List Cell} {z : List Cell} (n : Nat) (h : CastL z (e default)) : CastOk (.sl n es fun _ => z) (slC es e (List.replicate n default)) :=
  ⟨List.length_replicate, rfl, fun i hi => by
    have : (List.replicate n (default : α)).getD i default = default := by simp [List.getD, hi]
    show CastL z (e ((List.replicate n default).getD i default))
    rw [this]; exact h⟩

theorem rep_start {α : Type} [Inhabited α] {es : Nat} {e : α → List Cell} (xs : List α) : slC es e (List.replicate xs.length default) = slC es e (xs.take 0 ++ List.replicate (xs.length - 0) default) := by simp

end Go.Sx

/- What came in, as the types that the statements speak of. -/
namespace Go.Sx
open Go.RowKit (Below)
variable {P : Program} {T : List (TypeId × TI)}

/-- Whatever stands for cs stands for cs'. -/
def Wk (cs cs' : List Cell) : Prop := cs'.length = cs.length ∧ ∀ (i : Nat) (c' : Cell), cs'[i]? = some c' → ∃ c, cs[i]? = some c ∧ ∀ w A v, Rep w A c v → Rep w A c' v

theorem Wk.refl (cs : List Cell) : Wk cs cs := ⟨rfl, fun _ c h => ⟨c, h, fun _ _ _ h => h⟩⟩

theorem Wk.append {a a' b b' : List Cell} (h : Wk a a') (k : Wk b b') : Wk (a ++ b) (a' ++ b') := by
  refine ⟨by simp [h.1, k.1], fun i c hc => ?_⟩
  by_cases hi : i < a'.length
  · rw [List.getElem?_append_left hi] at hc
    rw [List.getElem?_append_left (by rw [← h.1]; exact hi)]
    exact h.2 i c hc
  · rw [List.getElem?_append_right (by omega)] at hc
    rw [List.getElem?_append_right (by rw [← h.1]; omega), ← h.1]
    exact k.2 _ c hc

theorem wk_sl {α : Type} [Inhabited α] {es n : Nat} {row : Nat → List Cell} {e : α → List Cell} {ok : α → Prop} (h : ∀ i, i < n → ∃ x, ok x ∧ Wk (row i) (e x)) :
    ∃ xs : List α, xs.length = n ∧ (∀ y ∈ xs, ok y) ∧ Wk [.sl n es row] [slC es e xs] := by
  have hex : ∀ i, ∃ x, i < n → ok x ∧ Wk (row i) (e x) := fun i => by
    by_cases hi : i < n
    · obtain ⟨x, hx⟩ := h i hi; exact ⟨x, fun _ => hx⟩
    · exact ⟨default, fun h => absurd h hi⟩
  let g := fun i => Classical.choose (hex i)
  have hg : ∀ i, i < n → ok (g i) ∧ Wk (row i) (e (g i)) := fun i => Classical.choose_spec (hex i)
  have hget : ∀ i, i < n → ((List.range n).map g).getD i default = g i := fun i hi => by simp [List.getD, hi]
  refine ⟨(List.range n).map g, by simp, fun y hy => ?_, rfl, fun i c hc => ?_⟩
  · obtain ⟨i, hi, rfl⟩ := List.mem_map.1 hy
    exact (hg i (List.mem_range.1 hi)).1
  · cases i with
    | succ i => simp at hc
    | zero =>
      simp only [List.getElem?_cons_zero, Option.some.injEq] at hc
      subst hc
      refine ⟨_, rfl, fun w A v hr => ?_⟩
      have hlen : ((List.range n).map g).length = n := by simp
      unfold slC
      rw [hlen]
      cases hr with
      | nil => exact .nil _ _
      | emp _ _ a => exact .emp _ _ a
      | sl _ _ _ b off cap u hA hn hc hl hu hr =>
        refine .sl n es _ b off cap u hA hn hc (fun i hi => ?_) hu (fun i j c hi hc => ?_)
        · rw [hget i hi, (hg i hi).2.1]; exact hl i hi
        · rw [hget i hi] at hc
          obtain ⟨c0, h1, h2⟩ := (hg i hi).2.2 j c hc
          exact h2 _ _ _ (hr i j c0 hi h1)

theorem Wk.repL {w : World} {xs ys : List Cell} {cs : List Value} (h : Wk xs ys) (hr : RepL w xs cs) : RepL w ys cs := by
  refine ⟨h.1.trans hr.1, fun i c hc => ?_⟩
  obtain ⟨c0, h1, h2⟩ := h.2 i c hc
  exact h2 _ _ _ (hr.2 i c0 h1)

theorem RepL.aggs {w : World} {cs : List Cell} {vs : Array Value} (h : RepL w cs vs.toList) : RepArg w (fun _ => False) (.agg cs) (.agg vs) :=
  ⟨vs.toList, by simp, h.1.symm, h.2⟩

end Go.Sx

/- Marks: what the statements write into a thing, and read back. -/
namespace Go.Sx

def markL {α : Type} (f : α → Int → α) (c : α → Nat) (l : List α) (k : Int) : List α :=
  match l with
  | [] => []
  | x :: r => f x k :: markL f c r (k + c x)

theorem markL_length {α : Type} (f : α → Int → α) (c : α → Nat) (l : List α) (k : Int) : (markL f c l k).length = l.length := by
  induction l generalizing k with
  | nil => rfl
  | cons x r ih => simp [markL, ih]

theorem markL_getD {α : Type} (f : α → Int → α) (c : α → Nat) (l : List α) (k : Int) (j : Nat) (d : α) (h : j < l.length) : (markL f c l k).getD j d = f (l.getD j d) (k + (((l.take j).map c).sum : Nat)) := by
  induction l generalizing k j with
  | nil => simp at h
  | cons x r ih =>
    cases j with
    | zero => simp [markL]
    | succ j =>
      have := ih (k + c x) j (by simpa using h)
      simp only [markL, List.getD_cons_succ, this, List.take_succ_cons, List.map_cons, List.sum_cons]
      congr 1
      omega

theorem markL_append {α : Type} (f : α → Int → α) (c : α → Nat) (l m : List α) (k : Int) : markL f c (l ++ m) k = markL f c l k ++ markL f c m (k + ((l.map c).sum : Nat)) := by
  induction l generalizing k with
  | nil => simp [markL]
  | cons x r ih =>
    simp only [List.cons_append, markL, ih, List.map_cons, List.sum_cons]
    rw [show k + (c x : Int) + ((r.map c).sum : Nat) = k + ((c x + (r.map c).sum : Nat) : Int) by omega]

/-- Marked as far as j. -/
def markJ {α : Type} (f : α → Int → α) (c : α → Nat) (l : List α) (k : Int) (j : Nat) : List α := markL f c (l.take j) k ++ l.drop j

theorem markJ_length {α : Type} (f : α → Int → α) (c : α → Nat) (l : List α) (k : Int) (j : Nat) : (markJ f c l k j).length = l.length := by
  simp only [markJ, List.length_append, markL_length, List.length_take, List.length_drop]
  omega

theorem markJ_end {α : Type} (f : α → Int → α) (c : α → Nat) (l : List α) (k : Int) (j : Nat) (h : ¬ j < l.length) : markJ f c l k j = markL f c l k := by
  simp only [markJ]
  rw [List.take_of_length_le (by omega), List.drop_of_length_le (by omega), List.append_nil]

theorem markJ_get {α : Type} (f : α → Int → α) (c : α → Nat) (l : List α) (k : Int) (j : Nat) (d : α) (h : j < l.length) : (markJ f c l k j).getD j d = l.getD j d := by
  have hl : (markL f c (l.take j) k).length = j := by rw [markL_length, List.length_take]; omega
  simp [markJ, List.getD, List.getElem?_append_right, hl]

theorem markJ_other {α : Type} [Inhabited α] (f : α → Int → α) (c : α → Nat) (l : List α) (k : Int) (j i : Nat) (h : j < l.length) (hi : i ≠ j) : (markJ f c l k (j + 1)).getD i default = (markJ f c l k j).getD i default := by
  have e : l.take (j + 1) = l.take j ++ [l.getD j default] := by rw [List.take_add_one]; simp [List.getD, h]
  have hl : (markL f c (l.take j) k).length = j := by rw [markL_length, List.length_take]; omega
  have hd : l.drop j = l.getD j default :: l.drop (j + 1) := by rw [List.drop_eq_getElem_cons h]; simp [List.getD, h]
  simp only [markJ, e, markL_append, List.append_assoc, hd]
  simp only [List.getD]
  rcases Nat.lt_or_gt_of_ne hi with hi | hi
  · rw [List.getElem?_append_left (by omega), List.getElem?_append_left (by omega)]
  · obtain ⟨m, hm⟩ : ∃ m, i - j = m + 1 := ⟨i - j - 1, by omega⟩
    conv => lhs; rw [List.getElem?_append_right (by omega), hl, hm]
    conv => rhs; rw [List.getElem?_append_right (by omega), hl, hm]
    simp [markL]

theorem markJ_next {α : Type} [Inhabited α] (f : α → Int → α) (c : α → Nat) (l : List α) (k : Int) (j : Nat) (h : j < l.length) : (markJ f c l k (j + 1)).getD j default = f (l.getD j default) (k + (((l.take j).map c).sum : Nat)) := by
  have e : l.take (j + 1) = l.take j ++ [l.getD j default] := by rw [List.take_add_one]; simp [List.getD, h]
  have hl : (markL f c (l.take j) k).length = j := by rw [markL_length, List.length_take]; omega
  simp only [markJ, e, markL_append]
  simp [List.getD, hl, markL]

/-- One element written anew. -/
def updR (row : Nat → List Cell) (j : Nat) (r : List Cell) : Nat → List Cell := fun i => if i = j then r else row i

theorem updR_same (row : Nat → List Cell) (j : Nat) (r : List Cell) : updR row j r j = r := by simp [updR]
theorem updR_other (row : Nat → List Cell) (j i : Nat) (r : List Cell) (h : i ≠ j) : updR row j r i = row i := by simp [updR, h]

theorem CastL.refl (cs : List Cell) : CastL cs cs := by
  induction cs with
  | nil => trivial
  | cons c cs ih => exact ⟨.refl c, ih⟩

theorem hole_eq (row : Nat → List Cell) (j off : Nat) (v : Value) {r : List Cell} (hr : row j = r) : (fun i => if i = j then spliceC (row i) off [.val v] else row i) = updR row j (spliceC r off [.val v]) := by
  funext i
  unfold updR
  by_cases h : i = j
  · subst h; rw [if_pos rfl, if_pos rfl, hr]
  · rw [if_neg h, if_neg h]

open Go.RowKit (Below) in
/-- An inner slice is taken out of one that is owned. -/
theorem focusX {P : Program} {T : List (TypeId × TI)} (hT : TblOk P T) {B : Base} {Q : Exit → Act → World → Prop} {q : Bool} {all : Array Oper} {o : Oper} {rest : List Oper} {K : List KI} {s : AS} {x : Operand} {t : TypeId} {i : TI}
    (hg : o.guard = none) (ho : o.op = .load t x) (hi : find T t = some i) (hag : i.agg = false) {k es off n j : Nat} {row : Nat → List Cell}
    (hx : s.ev x = .oel k es (j : Int) off) (hk : getOwn s.own k = some (.sl n es row)) {r : List Cell} (hr : row j = r) {c : Cell} (hc : r[off]? = some c)
    (h : ∀ v, GW P B Q (.ops q all rest :: K) (({ s with own := ⟨s.next, c⟩ :: ⟨k, .sl n es (updR row j (spliceC r off [.val v]))⟩ :: remOs [k] s.own, next := s.next + 1, links := (s.next, v) :: s.links } : AS).put o.dst (.own s.next))) :
    GW P B Q (.ops q all (o :: rest) :: K) s :=
  focusW hT hg ho hi hag hx hk (c := c) (by rw [Int.toNat_natCast, hr]; exact hc) fun v => by
    have := h v
    rw [← hole_eq row j off v hr] at this
    rw [Int.toNat_natCast]
    exact this

theorem getD_set_self {α : Type} (l : List α) (j : Nat) (x d : α) (h : j < l.length) : (l.set j x).getD j d = x := by simp [List.getD, h]
theorem getD_set_ne {α : Type} (l : List α) (i j : Nat) (x d : α) (h : i ≠ j) : (l.set j x).getD i d = l.getD i d := by simp [List.getD, List.getElem?_set_ne (Ne.symm h)]

theorem slC_set1 {α : Type} [Inhabited α] {es : Nat} {e : α → List Cell} {xs : List α} {j off : Nat} {y x : α} {cs : List Cell} (hj : j < xs.length) (hy : xs.getD j default = y) (h : spliceC (e y) off cs = e x) :
    UpdOk xs.length es (fun i => e (xs.getD i default)) j off cs (slC es e (xs.set j x)) := slC_set hj (by rw [hy]; exact h)

theorem slC_set2 {α : Type} [Inhabited α] {es : Nat} {e : α → List Cell} {xs : List α} {j off : Nat} {x1 x2 : α} {cs : List Cell} (hj : j < xs.length) (h : spliceC (e x1) off cs = e x2) :
    UpdOk (xs.set j x1).length es (fun i => e ((xs.set j x1).getD i default)) j off cs (slC es e (xs.set j x2)) := by
  refine ⟨_, by rw [slC, List.length_set, List.length_set], fun i _ hne => ?_, ?_⟩
  · simp only [getD_set_ne _ _ _ _ _ hne]
  · simp only [getD_set_self _ _ _ _ hj, h]

theorem slC_back1 {α : Type} [Inhabited α] {es : Nat} {e : α → List Cell} {xs : List α} {j off : Nat} {x2 : α} {r cs : List Cell} (hj : j < xs.length) (h : spliceC r off cs = e x2) :
    UpdOk xs.length es (updR (fun i => e (xs.getD i default)) j r) j off cs (slC es e (xs.set j x2)) := by
  refine ⟨_, by rw [slC, List.length_set], fun i _ hne => ?_, ?_⟩
  · simp only [getD_set_ne _ _ _ _ _ hne, updR_other _ _ _ _ hne]
  · simp only [getD_set_self _ _ _ _ hj, updR_same, h]

theorem slC_back2 {α : Type} [Inhabited α] {es : Nat} {e : α → List Cell} {xs : List α} {j off : Nat} {x1 x2 : α} {r cs : List Cell} (hj : j < xs.length) (h : spliceC r off cs = e x2) :
    UpdOk (xs.set j x1).length es (updR (fun i => e ((xs.set j x1).getD i default)) j r) j off cs (slC es e (xs.set j x2)) := by
  refine ⟨_, by rw [slC, List.length_set, List.length_set], fun i _ hne => ?_, ?_⟩
  · simp only [getD_set_ne _ _ _ _ _ hne, updR_other _ _ _ _ hne]
  · simp only [getD_set_self _ _ _ _ hj, updR_same, h]

theorem markJ_set {α : Type} [Inhabited α] (f : α → Int → α) (c : α → Nat) (l : List α) (k : Int) (j : Nat) (h : j < l.length) :
    (markJ f c l k j).set j (f (l.getD j default) (k + (((l.take j).map c).sum : Nat))) = markJ f c l k (j + 1) := by
  apply List.ext_getElem?
  intro i
  have hl := markJ_length f c l k j
  have hl' := markJ_length f c l k (j + 1)
  by_cases hi : i = j
  · subst hi
    have := markJ_next f c l k i h
    rw [List.getElem?_set_self (by omega), ← this]
    simp [List.getD, List.getElem?_eq_getElem (show i < (markJ f c l k (i + 1)).length by omega)]
  · rw [List.getElem?_set_ne (by omega)]
    have := markJ_other f c l k j i h hi
    by_cases hb : i < l.length
    · simp only [List.getD, List.getElem?_eq_getElem (show i < (markJ f c l k (j + 1)).length by omega), List.getElem?_eq_getElem (show i < (markJ f c l k j).length by omega), Option.getD_some] at this
      rw [List.getElem?_eq_getElem (by omega), List.getElem?_eq_getElem (by omega), this]
    · rw [List.getElem?_eq_none (by omega), List.getElem?_eq_none (by omega)]

/-- The inner slice is put back. -/
theorem unfocusY {P : Program} {B : Base} {Q : Exit → Act → World → Prop} {K : List KI} {s : AS} (k k2 : Nat) {n es : Nat} {row : Nat → List Cell} {j : Nat} (off : Nat) {r : List Cell} {v : Value} {c : Cell} (hk : getOwn s.own k = some (.sl n es (updR row j r)))
    (hj : j < n) (hc : r[off]? = some (.val v)) (h2 : getOwn s.own k2 = some c) (hl : getLink s.links k2 = some v) (hne : Nat.beq k k2 = false) {c' : Cell} (hr : UpdOk n es (updR row j r) j off [c] c')
    (h : GW P B Q K { s with own := ⟨k, c'⟩ :: remOs [k, k2] s.own }) : GW P B Q K s :=
  unfocusW k k2 hk hj (off := off) (by rw [updR_same]; exact hc) h2 hl hne _ hr h

theorem len_le_sum {α : Type} (c : α → Nat) (l : List α) (h : ∀ x, 1 ≤ c x) : l.length ≤ (l.map c).sum := by
  induction l with
  | nil => simp
  | cons x r ih => have := h x; simp only [List.length_cons, List.map_cons, List.sum_cons]; omega

end Go.Sx

/- What the statements write into the program's types, and how many marks. -/
namespace Go.Sx

def iMark (_ : Int) (k : Int) : Int := k
def iCnt (_ : Int) : Nat := 1
def bMark (_ : Bool) (k : Int) : Bool := k.tmod 3 == 0
def bCnt (_ : Bool) : Nat := 1
def GStamp.mark (_ : GStamp) (k : Int) : GStamp := ⟨k, k + 1⟩
def GStamp.cnt (_ : GStamp) : Nat := 1 + 1
def GCount.mark (_ : GCount) (k : Int) : GCount := ⟨⟨k, k + 1⟩, k + 1 + 1⟩
def GCount.cnt (_ : GCount) : Nat := 1 + 1 + 1
def GRecord.mark (_ : GRecord) (k : Int) : GRecord := ⟨k, ⟨k + 1, k + 1 + 1⟩, k + 1 + 1 + 1, k + 1 + 1 + 1 + 1⟩
def GRecord.cnt (_ : GRecord) : Nat := 1 + 1 + 1 + 1 + 1
def GLink.mark (x : GLink) (k : Int) : GLink := ⟨k, markL GRecord.mark GRecord.cnt x.queue (k + 1), k + 1 + ((x.queue.map GRecord.cnt).sum : Nat), k + 1 + ((x.queue.map GRecord.cnt).sum : Nat) + 1, k + 1 + ((x.queue.map GRecord.cnt).sum : Nat) + 1 + 1, k + 1 + ((x.queue.map GRecord.cnt).sum : Nat) + 1 + 1 + 1⟩
def GLink.cnt (x : GLink) : Nat := 1 + (x.queue.map GRecord.cnt).sum + 1 + 1 + 1 + 1
def GNode.mark (x : GNode) (k : Int) : GNode := ⟨k, k + 1, k + 1 + 1, markL iMark iCnt x.outs (k + 1 + 1 + 1)⟩
def GNode.cnt (x : GNode) : Nat := 1 + 1 + 1 + (x.outs.map iCnt).sum
def GCell.mark (_ : GCell) (k : Int) : GCell := ⟨k, k + 1, k + 1 + 1, k + 1 + 1 + 1⟩
def GCell.cnt (_ : GCell) : Nat := 1 + 1 + 1 + 1
def GDone.mark (_ : GDone) (k : Int) : GDone := ⟨k, (k + 1).tmod 3 == 0⟩
def GDone.cnt (_ : GDone) : Nat := 1 + 1
def GWorker.mark (x : GWorker) (k : Int) : GWorker := ⟨markL GRecord.mark GRecord.cnt x.queue (k), markL GRecord.mark GRecord.cnt x.staged (k + ((x.queue.map GRecord.cnt).sum : Nat)), markL GRecord.mark GRecord.cnt x.inputs (k + ((x.queue.map GRecord.cnt).sum : Nat) + ((x.staged.map GRecord.cnt).sum : Nat)), markL GCell.mark GCell.cnt x.cells (k + ((x.queue.map GRecord.cnt).sum : Nat) + ((x.staged.map GRecord.cnt).sum : Nat) + ((x.inputs.map GRecord.cnt).sum : Nat)), markL iMark iCnt x.sums (k + ((x.queue.map GRecord.cnt).sum : Nat) + ((x.staged.map GRecord.cnt).sum : Nat) + ((x.inputs.map GRecord.cnt).sum : Nat) + ((x.cells.map GCell.cnt).sum : Nat)), markL bMark bCnt x.black (k + ((x.queue.map GRecord.cnt).sum : Nat) + ((x.staged.map GRecord.cnt).sum : Nat) + ((x.inputs.map GRecord.cnt).sum : Nat) + ((x.cells.map GCell.cnt).sum : Nat) + ((x.sums.map iCnt).sum : Nat)), markL bMark bCnt x.caps (k + ((x.queue.map GRecord.cnt).sum : Nat) + ((x.staged.map GRecord.cnt).sum : Nat) + ((x.inputs.map GRecord.cnt).sum : Nat) + ((x.cells.map GCell.cnt).sum : Nat) + ((x.sums.map iCnt).sum : Nat) + ((x.black.map bCnt).sum : Nat)), markL GDone.mark GDone.cnt x.dones (k + ((x.queue.map GRecord.cnt).sum : Nat) + ((x.staged.map GRecord.cnt).sum : Nat) + ((x.inputs.map GRecord.cnt).sum : Nat) + ((x.cells.map GCell.cnt).sum : Nat) + ((x.sums.map iCnt).sum : Nat) + ((x.black.map bCnt).sum : Nat) + ((x.caps.map bCnt).sum : Nat))⟩
def GWorker.cnt (x : GWorker) : Nat := (x.queue.map GRecord.cnt).sum + (x.staged.map GRecord.cnt).sum + (x.inputs.map GRecord.cnt).sum + (x.cells.map GCell.cnt).sum + (x.sums.map iCnt).sum + (x.black.map bCnt).sum + (x.caps.map bCnt).sum + (x.dones.map GDone.cnt).sum
def GToken.mark (_ : GToken) (k : Int) : GToken := ⟨(k).tmod 3 == 0, k + 1, k + 1 + 1, (k + 1 + 1 + 1).tmod 3 == 0, (k + 1 + 1 + 1 + 1).tmod 3 == 0⟩
def GToken.cnt (_ : GToken) : Nat := 1 + 1 + 1 + 1 + 1
def GNews.mark (_ : GNews) (k : Int) : GNews := ⟨k, k + 1, (k + 1 + 1).tmod 3 == 0⟩
def GNews.cnt (_ : GNews) : Nat := 1 + 1 + 1
def GPick.mark (_ : GPick) (k : Int) : GPick := ⟨k, k + 1, k + 1 + 1⟩
def GPick.cnt (_ : GPick) : Nat := 1 + 1 + 1
def GLink.markV (x : GLink) (k : Int) : GLink := ⟨x.cap, markL GRecord.mark GRecord.cnt x.queue (k), x.credits, x.back, x.sent, x.got⟩
def GLink.cntV (x : GLink) : Nat := (x.queue.map GRecord.cnt).sum
def GNode.markV (x : GNode) (k : Int) : GNode := ⟨x.kind, x.a, x.b, markL iMark iCnt x.outs (k)⟩
def GNode.cntV (x : GNode) : Nat := (x.outs.map iCnt).sum
def GGraph.markV (x : GGraph) (k : Int) : GGraph := ⟨markL GNode.mark GNode.cnt x.nodes (k), x.workers, x.cap⟩
def GGraph.cntV (x : GGraph) : Nat := (x.nodes.map GNode.cnt).sum
def GWorker.markV (x : GWorker) (k : Int) : GWorker := ⟨markL GRecord.mark GRecord.cnt x.queue (k), markL GRecord.mark GRecord.cnt x.staged (k + ((x.queue.map GRecord.cnt).sum : Nat)), markL GRecord.mark GRecord.cnt x.inputs (k + ((x.queue.map GRecord.cnt).sum : Nat) + ((x.staged.map GRecord.cnt).sum : Nat)), markL GCell.mark GCell.cnt x.cells (k + ((x.queue.map GRecord.cnt).sum : Nat) + ((x.staged.map GRecord.cnt).sum : Nat) + ((x.inputs.map GRecord.cnt).sum : Nat)), markL iMark iCnt x.sums (k + ((x.queue.map GRecord.cnt).sum : Nat) + ((x.staged.map GRecord.cnt).sum : Nat) + ((x.inputs.map GRecord.cnt).sum : Nat) + ((x.cells.map GCell.cnt).sum : Nat)), markL bMark bCnt x.black (k + ((x.queue.map GRecord.cnt).sum : Nat) + ((x.staged.map GRecord.cnt).sum : Nat) + ((x.inputs.map GRecord.cnt).sum : Nat) + ((x.cells.map GCell.cnt).sum : Nat) + ((x.sums.map iCnt).sum : Nat)), markL bMark bCnt x.caps (k + ((x.queue.map GRecord.cnt).sum : Nat) + ((x.staged.map GRecord.cnt).sum : Nat) + ((x.inputs.map GRecord.cnt).sum : Nat) + ((x.cells.map GCell.cnt).sum : Nat) + ((x.sums.map iCnt).sum : Nat) + ((x.black.map bCnt).sum : Nat)), markL GDone.mark GDone.cnt x.dones (k + ((x.queue.map GRecord.cnt).sum : Nat) + ((x.staged.map GRecord.cnt).sum : Nat) + ((x.inputs.map GRecord.cnt).sum : Nat) + ((x.cells.map GCell.cnt).sum : Nat) + ((x.sums.map iCnt).sum : Nat) + ((x.black.map bCnt).sum : Nat) + ((x.caps.map bCnt).sum : Nat))⟩
def GWorker.cntV (x : GWorker) : Nat := (x.queue.map GRecord.cnt).sum + (x.staged.map GRecord.cnt).sum + (x.inputs.map GRecord.cnt).sum + (x.cells.map GCell.cnt).sum + (x.sums.map iCnt).sum + (x.black.map bCnt).sum + (x.caps.map bCnt).sum + (x.dones.map GDone.cnt).sum
def GCluster.markV (x : GCluster) (k : Int) : GCluster := ⟨x.graph.markV (k), markL GWorker.mark GWorker.cnt x.workers (k + (x.graph.cntV : Nat)), markL GLink.mark GLink.cnt x.links (k + (x.graph.cntV : Nat) + ((x.workers.map GWorker.cnt).sum : Nat)), markL GToken.mark GToken.cnt x.tokens (k + (x.graph.cntV : Nat) + ((x.workers.map GWorker.cnt).sum : Nat) + ((x.links.map GLink.cnt).sum : Nat)), markL GNews.mark GNews.cnt x.news (k + (x.graph.cntV : Nat) + ((x.workers.map GWorker.cnt).sum : Nat) + ((x.links.map GLink.cnt).sum : Nat) + ((x.tokens.map GToken.cnt).sum : Nat))⟩
def GCluster.cntV (x : GCluster) : Nat := x.graph.cntV + (x.workers.map GWorker.cnt).sum + (x.links.map GLink.cnt).sum + (x.tokens.map GToken.cnt).sum + (x.news.map GNews.cnt).sum
def GScript.markV (x : GScript) (k : Int) : GScript := ⟨x.graph.markV (k), markL GRecord.mark GRecord.cnt x.inputs (k + (x.graph.cntV : Nat)), markL GPick.mark GPick.cnt x.picks (k + (x.graph.cntV : Nat) + ((x.inputs.map GRecord.cnt).sum : Nat)), x.rounds⟩
def GScript.cntV (x : GScript) : Nat := x.graph.cntV + (x.inputs.map GRecord.cnt).sum + (x.picks.map GPick.cnt).sum

theorem sum_le_of {α : Type} (c w : α → Nat) (l : List α) (h : ∀ x, c x ≤ 5 + 5 * w x) : (l.map c).sum ≤ 5 * (l.length + (l.map w).sum) := by
  induction l with
  | nil => simp
  | cons x r ih => have := h x; simp only [List.map_cons, List.sum_cons, List.length_cons]; omega
theorem sum_le_flat {α : Type} (c : α → Nat) (l : List α) (h : ∀ x, c x ≤ 5) : (l.map c).sum ≤ 5 * l.length := by
  induction l with
  | nil => simp
  | cons x r ih => have := h x; simp only [List.map_cons, List.sum_cons, List.length_cons]; omega
theorem iSum_le (l : List Int) : (l.map iCnt).sum ≤ 5 * l.length := sum_le_flat _ _ fun _ => by simp only [iCnt]; omega
theorem bSum_le (l : List Bool) : (l.map bCnt).sum ≤ 5 * l.length := sum_le_flat _ _ fun _ => by simp only [bCnt]; omega
theorem GStamp.sum_le (l : List GStamp) : (l.map GStamp.cnt).sum ≤ 5 * l.length := sum_le_flat _ _ fun _ => by simp only [GStamp.cnt]; omega
theorem GCount.sum_le (l : List GCount) : (l.map GCount.cnt).sum ≤ 5 * l.length := sum_le_flat _ _ fun _ => by simp only [GCount.cnt]; omega
theorem GRecord.sum_le (l : List GRecord) : (l.map GRecord.cnt).sum ≤ 5 * l.length := sum_le_flat _ _ fun _ => by simp only [GRecord.cnt]; omega
theorem GLink.sum_le (l : List GLink) : (l.map GLink.cnt).sum ≤ 5 * wS GLink.w l := sum_le_of _ _ _ fun x => by
  have h0 := GRecord.sum_le x.queue
  simp only [GLink.cnt, GLink.w]; omega
theorem GLink.cntV_le (x : GLink) : x.cntV ≤ 5 * x.w := by
  have h1 := GRecord.sum_le x.queue
  simp only [GLink.cntV, GLink.w]; omega
theorem GNode.sum_le (l : List GNode) : (l.map GNode.cnt).sum ≤ 5 * wS GNode.w l := sum_le_of _ _ _ fun x => by
  have h0 := iSum_le x.outs
  simp only [GNode.cnt, GNode.w]; omega
theorem GNode.cntV_le (x : GNode) : x.cntV ≤ 5 * x.w := by
  have h3 := iSum_le x.outs
  simp only [GNode.cntV, GNode.w]; omega
theorem GGraph.cntV_le (x : GGraph) : x.cntV ≤ 5 * x.w := by
  have h0 := GNode.sum_le x.nodes
  simp only [GGraph.cntV, GGraph.w]; omega
theorem GCell.sum_le (l : List GCell) : (l.map GCell.cnt).sum ≤ 5 * l.length := sum_le_flat _ _ fun _ => by simp only [GCell.cnt]; omega
theorem GDone.sum_le (l : List GDone) : (l.map GDone.cnt).sum ≤ 5 * l.length := sum_le_flat _ _ fun _ => by simp only [GDone.cnt]; omega
theorem GWorker.sum_le (l : List GWorker) : (l.map GWorker.cnt).sum ≤ 5 * wS GWorker.w l := sum_le_of _ _ _ fun x => by
  have h0 := GRecord.sum_le x.queue
  have h1 := GRecord.sum_le x.staged
  have h2 := GRecord.sum_le x.inputs
  have h3 := GCell.sum_le x.cells
  have h4 := iSum_le x.sums
  have h5 := bSum_le x.black
  have h6 := bSum_le x.caps
  have h7 := GDone.sum_le x.dones
  simp only [GWorker.cnt, GWorker.w]; omega
theorem GWorker.cntV_le (x : GWorker) : x.cntV ≤ 5 * x.w := by
  have h0 := GRecord.sum_le x.queue
  have h1 := GRecord.sum_le x.staged
  have h2 := GRecord.sum_le x.inputs
  have h3 := GCell.sum_le x.cells
  have h4 := iSum_le x.sums
  have h5 := bSum_le x.black
  have h6 := bSum_le x.caps
  have h7 := GDone.sum_le x.dones
  simp only [GWorker.cntV, GWorker.w]; omega
theorem GToken.sum_le (l : List GToken) : (l.map GToken.cnt).sum ≤ 5 * l.length := sum_le_flat _ _ fun _ => by simp only [GToken.cnt]; omega
theorem GNews.sum_le (l : List GNews) : (l.map GNews.cnt).sum ≤ 5 * l.length := sum_le_flat _ _ fun _ => by simp only [GNews.cnt]; omega
theorem GCluster.cntV_le (x : GCluster) : x.cntV ≤ 5 * x.w := by
  have h0 := x.graph.cntV_le
  have h1 := GWorker.sum_le x.workers
  have h2 := GLink.sum_le x.links
  have h3 := GToken.sum_le x.tokens
  have h4 := GNews.sum_le x.news
  simp only [GCluster.cntV, GCluster.w]; omega
theorem GPick.sum_le (l : List GPick) : (l.map GPick.cnt).sum ≤ 5 * l.length := sum_le_flat _ _ fun _ => by simp only [GPick.cnt]; omega
theorem GScript.cntV_le (x : GScript) : x.cntV ≤ 5 * x.w := by
  have h0 := x.graph.cntV_le
  have h1 := GRecord.sum_le x.inputs
  have h2 := GPick.sum_le x.picks
  simp only [GScript.cntV, GScript.w]; omega

end Go.Sx

/- Lists, as far as a loop has come. -/
namespace Go.Sx

theorem take_snoc {α : Type} [Inhabited α] (xs : List α) (k : Nat) (h : k < xs.length) : xs.take (k + 1) = xs.take k ++ [xs.getD k default] := by
  rw [List.take_add_one]; simp [List.getD, h]

theorem filter_take {α : Type} [Inhabited α] (p : α → Bool) (xs : List α) (k : Nat) (h : k < xs.length) :
    (xs.take (k + 1)).filter p = (xs.take k).filter p ++ (if p (xs.getD k default) = true then [xs.getD k default] else []) := by
  rw [take_snoc xs k h, List.filter_append]
  congr 1
  by_cases hp : p (xs.getD k default) = true
  · rw [if_pos hp, List.filter_cons_of_pos hp, List.filter_nil]
  · rw [if_neg hp, List.filter_cons_of_neg hp, List.filter_nil]

theorem filter_take_len {α : Type} (p : α → Bool) (xs : List α) (k : Nat) : ((xs.take k).filter p).length ≤ xs.length := by
  have h1 := List.length_filter_le p (xs.take k)
  have h2 := List.length_take_le k xs
  have h3 := List.length_take_le' k xs
  omega

theorem map_take {α β : Type} [Inhabited α] (f : α → β) (xs : List α) (k : Nat) (h : k < xs.length) :
    (xs.take (k + 1)).map f = (xs.take k).map f ++ [f (xs.getD k default)] := by
  rw [take_snoc xs k h, List.map_append]; rfl

theorem any_take {α : Type} [Inhabited α] (p : α → Bool) (xs : List α) (k : Nat) (h : k < xs.length) :
    (xs.take (k + 1)).any p = ((xs.take k).any p || p (xs.getD k default)) := by
  rw [take_snoc xs k h, List.any_append]; simp

theorem getD_mem {α : Type} {d : α} {xs : List α} {k : Nat} (h : k < xs.length) : xs.getD k d ∈ xs := by
  rw [List.getD, List.getElem?_eq_getElem h]; exact List.getElem_mem h

theorem any_of_getD {α : Type} [Inhabited α] {p : α → Bool} {xs : List α} {k : Nat} (h : k < xs.length) (hp : p (xs.getD k default) = true) : xs.any p = true :=
  List.any_eq_true.2 ⟨_, getD_mem h, hp⟩

theorem take_all {α : Type} (xs : List α) (k : Nat) (h : ¬ k < xs.length) : xs.take k = xs := List.take_of_length_le (by omega)

theorem nil_cast {α : Type} [Inhabited α] {es : Nat} {e : α → List Cell} {row : Nat → List Cell} : CastOk (.sl 0 es row) (slC es e ([] : List α)) := ⟨rfl, rfl, fun _ h => nomatch h⟩

theorem ite_t {b : Bool} {p q : Prop} (hb : b = true) (h : p) : (b = true → p) ∧ (b = false → q) := ⟨fun _ => h, fun e => by rw [hb] at e; cases e⟩
theorem ite_f {b : Bool} {p q : Prop} (hb : b = false) (h : q) : (b = true → p) ∧ (b = false → q) := ⟨fun e => (by rw [hb] at e; cases e), fun _ => h⟩

/-! Short words for what a walk needs again and again: a condition that is decided, a need that arithmetic gives. -/
theorem need1 {p q : Prop} (hq : q) (hp : p := by first | omega | (show _ ∧ _; omega) | ((repeat (first | rw [ByteArray.size_append] | rw [bsz] | rw [List.size_toArray] | rw [List.length_cons] | rw [List.length_nil])) <;> omega) | ((repeat rw [Int.toNat_natCast]) <;> first | omega | (show _ ∧ _; omega)) | (simp only [ByteArray.size_append, bsz, List.size_toArray, List.length_cons, List.length_nil]; omega) | (simp only [Int.toNat_natCast]; first | omega | (show _ ∧ _; omega)) | decide) : p ∧ q := ⟨hp, hq⟩
theorem needF {p q : Prop} (hq : q) (hp : p := by first | omega | (show _ ∧ _; omega) | ((repeat (first | rw [ByteArray.size_append] | rw [bsz] | rw [List.size_toArray] | rw [List.length_cons] | rw [List.length_nil])) <;> omega) | ((repeat rw [Int.toNat_natCast]) <;> first | omega | (show _ ∧ _; omega)) | (simp only [ByteArray.size_append, bsz, List.size_toArray, List.length_cons, List.length_nil]; omega) | (simp only [Int.toNat_natCast]; first | omega | (show _ ∧ _; omega)) | decide | (simp only [beq_iff_eq, beq_eq_false_iff_ne, bne_iff_ne, bne_eq_false_iff_eq, Bool.not_eq_true', Bool.not_eq_false', Go.Sx.within_iff, Go.Sx.within_f, decide_eq_true_eq, decide_eq_false_iff_not, ne_eq, Int.not_lt, Int.not_le, ge_iff_le, gt_iff_lt, Int.toNat_zero, Int.toNat_one, Int.toNat_natCast] at * <;> first | omega | (show _ ∧ _; omega))) : p ∧ q := ⟨hp, hq⟩
theorem skf {b : Bool} {p q : Prop} (h : q) (hb : b = false := by first | with_reducible rfl | assumption | (simp; done) | fail) : (b = true → p) ∧ (b = false → q) := ite_f hb h
theorem skt {b : Bool} {p q : Prop} (h : p) (hb : b = true := by first | with_reducible rfl | assumption | (simp; done) | fail) : (b = true → p) ∧ (b = false → q) := ite_t hb h
theorem auf {b : Bool} {p q : Prop} (h : q) (hb : b = false := by first | with_reducible rfl | assumption) : (b = true → p) ∧ (b = false → q) := ite_f hb h
theorem aut {b : Bool} {p q : Prop} (h : p) (hb : b = true := by first | with_reducible rfl | assumption) : (b = true → p) ∧ (b = false → q) := ite_t hb h

end Go.Sx

/- Slices built of what is owned; nil in a box taken for an empty slice. -/
namespace Go.Sx
open Go.RowKit (Below)
variable {P : Program} {T : List (TypeId × TI)}

theorem drawI (id : Nat) (hm : P.follows .mixedOrders = true) {B : Base} {Q : Exit → Act → World → Prop} {ops : Array Oper} {K : List KI} {s : AS} (ord : List Nat) (hB : mixB ops ord = true)
    (h : GW P B Q (.ops true ops (mixOps ops ord) :: K) s) : GW P B Q (.code (.region id ops true) :: K) s := drawW hm ord hB h

theorem nil_app {α : Type} [Inhabited α] {es : Nat} {e : α → List Cell} {row1 : Nat → List Cell} {xs : List α} : AppOk 0 xs.length es row1 (fun i => e (xs.getD i default)) (slC es e xs) :=
  ⟨_, by rw [slC, Nat.zero_add], fun i hi => by omega, fun i hi => by simp⟩

theorem flat_of {α : Type} [Inhabited α] {e : α → List Cell} (xs : List α) (h : ∀ x, ∀ c ∈ e x, ∃ v, c = .val v) : FlatRows xs.length (fun i => e (xs.getD i default)) := fun _ _ => h _
theorem flat_ints (xs : List Int) : FlatRows xs.length (fun i => [vi (xs.getD i default)]) := flat_of (e := fun n => [vi n]) xs fun _x _c hc => ⟨_, List.mem_singleton.1 hc⟩
theorem flat_strs (xs : List ByteArray) : FlatRows xs.length (fun i => [vs (xs.getD i default)]) := flat_of (e := fun n => [vs n]) xs fun _x _c hc => ⟨_, List.mem_singleton.1 hc⟩
theorem flat_cells (xs : List GCell) : FlatRows xs.length (fun i => GCell.c (xs.getD i default)) := flat_of xs fun x c hc => by
  simp only [GCell.c, List.mem_cons, List.not_mem_nil, or_false] at hc
  rcases hc with rfl | rfl | rfl | rfl <;> exact ⟨_, rfl⟩
end Go.Sx

/- What the program's small functions compute. -/
namespace Go.Sx

def within (n lo hi : Int) : Bool := if n ≥ lo then decide (n ≤ hi) else false
def brought (n lo hi : Int) : Int := if hi < lo ∨ n < lo then lo else if hi < n then hi else n
theorem within_iff {n lo hi : Int} : within n lo hi = true ↔ lo ≤ n ∧ n ≤ hi := by
  unfold within
  split
  · simp; omega
  · simp; omega

theorem GCluster.workers_le {x : GCluster} {n : Nat} (h : x.w ≤ n) : x.workers.length ≤ n := by simp only [GCluster.w, wS] at h; omega
theorem GCluster.tokens_le {x : GCluster} {n : Nat} (h : x.w ≤ n) : x.tokens.length ≤ n := by simp only [GCluster.w, wS] at h; omega
theorem GCluster.worker_le {x : GCluster} {n : Nat} (h : x.w ≤ n) {k : Nat} (hk : k < x.workers.length) : ((x.workers.take k).map GWorker.w).sum + (x.workers.getD k default).w ≤ n := by
  have := wS_take_le GWorker.w x.workers k hk
  simp only [GCluster.w, wS] at h; omega
theorem GStamp.eqv (x y : GStamp) : (x.epoch == y.epoch && (x.turn == y.turn && true)) = decide (x = y) := by
  obtain ⟨_, _⟩ := x
  obtain ⟨_, _⟩ := y
  rw [Bool.eq_iff_iff]; simp [and_assoc]
theorem GCount.eqv (x y : GCount) : (x.stamp.epoch == y.stamp.epoch && (x.stamp.turn == y.stamp.turn && (x.n == y.n && true))) = decide (x = y) := by
  obtain ⟨⟨_, _⟩, _⟩ := x
  obtain ⟨⟨_, _⟩, _⟩ := y
  rw [Bool.eq_iff_iff]; simp [and_assoc]
theorem GRecord.eqv (x y : GRecord) : (x.op == y.op && (x.stamp.epoch == y.stamp.epoch && (x.stamp.turn == y.stamp.turn && (x.key == y.key && (x.val == y.val && true))))) = decide (x = y) := by
  obtain ⟨_, ⟨_, _⟩, _, _⟩ := x
  obtain ⟨_, ⟨_, _⟩, _, _⟩ := y
  rw [Bool.eq_iff_iff]; simp [and_assoc]
theorem GCell.eqv (x y : GCell) : (x.op == y.op && (x.epoch == y.epoch && (x.key == y.key && (x.val == y.val && true)))) = decide (x = y) := by
  obtain ⟨_, _, _, _⟩ := x
  obtain ⟨_, _, _, _⟩ := y
  rw [Bool.eq_iff_iff]; simp [and_assoc]
theorem GDone.eqv (x y : GDone) : (x.epoch == y.epoch && (x.capped == y.capped && true)) = decide (x = y) := by
  obtain ⟨_, _⟩ := x
  obtain ⟨_, _⟩ := y
  rw [Bool.eq_iff_iff]; simp [and_assoc]
theorem GToken.eqv (x y : GToken) : (x.going == y.going && (x.at_ == y.at_ && (x.sum == y.sum && (x.black == y.black && (x.capped == y.capped && true))))) = decide (x = y) := by
  obtain ⟨_, _, _, _, _⟩ := x
  obtain ⟨_, _, _, _, _⟩ := y
  rw [Bool.eq_iff_iff]; simp [and_assoc]
theorem GNews.eqv (x y : GNews) : (x.to_ == y.to_ && (x.epoch == y.epoch && (x.capped == y.capped && true))) = decide (x = y) := by
  obtain ⟨_, _, _⟩ := x
  obtain ⟨_, _, _⟩ := y
  rw [Bool.eq_iff_iff]; simp [and_assoc]
theorem GPick.eqv (x y : GPick) : (x.kind == y.kind && (x.a == y.a && (x.b == y.b && true))) = decide (x = y) := by
  obtain ⟨_, _, _⟩ := x
  obtain ⟨_, _, _⟩ := y
  rw [Bool.eq_iff_iff]; simp [and_assoc]
theorem GNode.eqv (x y : GNode) : decide (x = y) = (x.kind == y.kind && (x.a == y.a && (x.b == y.b && decide (x.outs = y.outs)))) := by
  obtain ⟨_, _, _, _⟩ := x
  obtain ⟨_, _, _, _⟩ := y
  rw [Bool.eq_iff_iff]; simp
theorem GGraph.eqv (x y : GGraph) : decide (x = y) = (decide (x.nodes = y.nodes) && (x.workers == y.workers && x.cap == y.cap)) := by
  obtain ⟨_, _, _⟩ := x
  obtain ⟨_, _, _⟩ := y
  rw [Bool.eq_iff_iff]; simp
theorem GScript.eqv (x y : GScript) : decide (x = y) = (decide (x.graph = y.graph) && (decide (x.inputs = y.inputs) && (decide (x.picks = y.picks) && x.rounds == y.rounds))) := by
  obtain ⟨_, _, _, _⟩ := x
  obtain ⟨_, _, _, _⟩ := y
  rw [Bool.eq_iff_iff]; simp

/-- The place of the first one. -/
def findN {α : Type} (p : α → Bool) : List α → Nat
  | [] => 0
  | x :: r => if p x = true then 0 else findN p r + 1
def findI {α : Type} (p : α → Bool) (xs : List α) : Int := if xs.any p = true then (findN p xs : Int) else -1

theorem findN_of {α : Type} [Inhabited α] (p : α → Bool) (xs : List α) (k : Nat) (h : (xs.take k).any p = false) (hk : k < xs.length) (hp : p (xs.getD k default) = true) : findN p xs = k := by
  induction xs generalizing k with
  | nil => simp at hk
  | cons x r ih =>
    cases k with
    | zero =>
      simp only [List.getD_cons_zero] at hp
      simp [findN, hp]
    | succ k =>
      simp only [List.take_succ_cons, List.any_cons, Bool.or_eq_false_iff] at h
      have := ih k h.2 (by simpa using hk) (by simpa using hp)
      simp [findN, h.1, this]

theorem findI_of {α : Type} [Inhabited α] (p : α → Bool) (xs : List α) (k : Nat) (h : (xs.take k).any p = false) (hk : k < xs.length) (hp : p (xs.getD k default) = true) : findI p xs = k := by
  rw [findI, if_pos (any_of_getD hk hp), findN_of p xs k h hk hp]
theorem findI_none {α : Type} (p : α → Bool) (xs : List α) (h : xs.any p = false) : findI p xs = -1 := by rw [findI, if_neg (by rw [h]; decide)]
theorem findI_any {α : Type} (p : α → Bool) (xs : List α) : decide (findI p xs ≥ 0) = xs.any p := by
  unfold findI
  cases h : xs.any p with
  | true => rw [if_pos rfl]; exact decide_eq_true (by omega)
  | false => rw [if_neg (by decide)]; exact decide_eq_false (by omega)

theorem any_take_false {α : Type} [Inhabited α] {p : α → Bool} {xs : List α} {k : Nat} (h : (xs.take k).any p = false) (hk : k < xs.length) (hp : p (xs.getD k default) = false) : (xs.take (k + 1)).any p = false := by
  rw [any_take p xs k hk, h, hp]; rfl
end Go.Sx

/- Bytes and strings. -/
namespace Go.Sx
open Go.RowKit (Below)
variable {P : Program} {T : List (TypeId × TI)}

abbrev vy (b : UInt8) : Cell := .val (.int .u8 b.toNat)
abbrev sByte (xs : List UInt8) : Cell := slC 1 (fun b => [vy b]) xs

theorem str_rule (hT : TblOk P T) {B : Base} {Q : Exit → Act → World → Prop} {q : Bool} {all : Array Oper} {o : Oper} {rest : List Oper} {K : List KI} {s : AS} {x : Operand} {t u e : TypeId} {i j l : TI}
    (hg : o.guard = none) (ho : o.op = .convert t u x) (hi : find T t = some i) (hie : i.elem = some e) (hj : find T e = some j) (hfl : j.flat = some [.int .u8]) (hag : j.agg = false) (hl : find T u = some l) (hstr : l.str = true)
    {bs : List UInt8} (hx : argC s.own (s.ev x) = some (sByte bs))
    (h : G P B Q (.ops q all rest :: K) (s.put o.dst (.v (.string ⟨bs.toArray⟩)))) : G P B Q (.ops q all (o :: rest) :: K) s := by
  refine G_ops_read hg (fun E a w hs => ?_)
  have hr := argC_rep hs hx (hs.ev x)
  have hu := run_elem_ti (hT t i hi) hie
  have hd := run_str_ti (hT u l hl) hstr
  have he : P.underlying e = some (.int .u8) := flat_int hT hj hag hfl
  obtain ⟨dst, op', ty, pos, after, guard⟩ := o
  simp only at ho
  subst ho
  generalize hv : a.eval x = v at hr
  refine ⟨.string ⟨bs.toArray⟩, fun w' hk => ?_, h E _ w (hs.put dst (.c (.val _ rfl)))⟩
  simp only [execOp, hv, Sem.run_bind]
  generalize hc : sByte bs = c at hr
  cases hr with
  | val x h => simp [slC] at hc
  | nil es row =>
    simp only [slC, Cell.sl.injEq] at hc
    obtain ⟨hc, _⟩ := hc
    obtain rfl := List.eq_nil_of_length_eq_zero hc
    rw [run_convert_bytes_nil w' t e hu he 0 0 u hd]
    rfl
  | emp es row a' =>
    simp only [slC, Cell.sl.injEq] at hc
    obtain ⟨hc, _⟩ := hc
    obtain rfl := List.eq_nil_of_length_eq_zero hc
    rw [run_convert_bytes_string w' t u e _ 0 0 hu he hd, run_bytesToString w' a' 0 0 [] (by simp [loadCells, loadCellsFrom])]
    rfl
  | sl n es row b off cap u' hA hn hcp hl' hu' hr' =>
    simp only [slC, Cell.sl.injEq] at hc
    obtain ⟨rfl, rfl, rfl⟩ := hc
    rw [run_convert_bytes_arg w' t e hu he b off bs.length cap (bs.map fun b => (b.toNat : Int)) (by simp) (fun k hk' => by
      have h1 := hk.cell (hu' k 0 hk' (by omega))
      have h2 := hr' k 0 _ hk' rfl
      have h3 : u' k 0 = .int .u8 ((bs.getD k default).toNat) := by generalize u' k 0 = z at h2; cases h2; rfl
      rw [h3] at h1
      simp only [Nat.mul_one, Nat.add_zero] at h1
      rw [h1]
      simp [List.getD, hk']) u hd]
    simp only [Result.andThen_ok, Sem.run_pure]
    congr 3
    simp [strOfNums, Function.comp_def]

theorem strW (hT : TblOk P T) {B : Base} {Q : Exit → Act → World → Prop} {q : Bool} {all : Array Oper} {o : Oper} {rest : List Oper} {K : List KI} {s : AS} {x : Operand} {t u e : TypeId} {i j l : TI}
    (hg : o.guard = none) (ho : o.op = .convert t u x) (hi : find T t = some i) (hie : i.elem = some e) (hj : find T e = some j) (hfl : j.flat = some [.int .u8]) (hag : j.agg = false) (hl : find T u = some l) (hstr : l.str = true)
    (bs : List UInt8) (hx : argC s.own (s.ev x) = some (sByte bs))
    (h : GW P B Q (.ops q all rest :: K) (s.put o.dst (.v (.string ⟨bs.toArray⟩)))) : GW P B Q (.ops q all (o :: rest) :: K) s :=
  ⟨str_rule hT hg ho hi hie hj hfl hag hl hstr hx (h.rec id)⟩

end Go.Sx

/- A region that draws its order, in which several operations that make memory may come first: one walk for each. -/
namespace Go.Sx
variable {P : Program} {T : List (TypeId × TI)} {ops : Array Oper}

end Go.Sx

/- The cast and the adopted nil, at a return. -/
set_option maxRecDepth 100000
namespace Go.Sx
open Go

end Go.Sx

/- All picks, in order; literal slices appended. -/
set_option maxRecDepth 100000
namespace Go.Sx
open Go

theorem CastL.rfl' : ∀ l : List Cell, CastL l l
  | [] => trivial
  | _ :: l => ⟨.inl rfl, CastL.rfl' l⟩
end Go.Sx

/- A part of a slice that is only read. -/
set_option maxRecDepth 100000
namespace Go.Sx
open Go
variable {P : Program} {T : List (TypeId × TI)}

def bnd (s : AS) (x : Option Operand) (d : Int) : Option Int :=
  match x with
  | none => some d
  | some y => match s.ev y with
    | .c (.val (.int _ v)) => some v
    | _ => none

/-- What the bound comes to. -/
def BndV (x : Option Value) (l d : Int) : Prop := (x = none ∧ l = d) ∨ ∃ k, x = some (.int k l)

theorem bnd_val {B : Base} {E : Env} {a : Act} {w : World} {s : AS} (hs : s.is B E a w) {x : Option Operand} {d l : Int} (h : bnd s x d = some l) : BndV (x.map a.eval) l d := by
  cases x with
  | none => exact .inl ⟨rfl, (Option.some.inj h).symm⟩
  | some y =>
    refine .inr ?_
    simp only [bnd] at h
    have hd := hs.ev y
    generalize s.ev y = z at h hd
    split at h
    · rename_i k v
      obtain rfl := Option.some.inj h
      have e := den_int hd
      exact ⟨k, by simp [e]⟩
    · cases h

def SubOk (n es : Nat) (row : Nat → List Cell) (l h : Int) (c : Cell) : Prop := ∃ row', c = .sl (h - l).toNat es row' ∧ ∀ i, i < (h - l).toNat → row' i = row (l.toNat + i)

theorem run_sub {t e : TypeId} {i j : TI} (hi : TI.of P t = some i) (he : i.elem = some e) (hj : TI.of P e = some j) {a : Option Addr} {len cap : Nat} {lo hi' : Option Value} {l h : Int}
    (hl : BndV lo l 0) (hh : BndV hi' h len) (h0 : 0 ≤ l) (h1 : l ≤ h) (h2 : h ≤ len) (h3 : len ≤ cap) (w : World) :
    (Instr.sliceAt t (.slice a len cap) lo hi' none).run P w = .ok (sliced a l.toNat h.toNat cap j.size) w := by
  have hu := run_elem_ti hi he
  have hel : P.elem t = e := by simp [Program.elem, hu]
  have hu' : P.underlying t = some (.slice (P.elem t)) := by rw [hel]; exact hu
  have hz : ∀ w, (sizeOf (P.elem t)).run P w = .ok j.size w := fun w => by rw [hel]; exact run_sizeOf_ti hj w
  rw [run_sliceAt_slice w t _ _ _ _ hu']
  rcases hl with ⟨rfl, rfl⟩ | ⟨k1, rfl⟩ <;> rcases hh with ⟨rfl, rfl⟩ | ⟨k2, rfl⟩
  · rw [run_slice_all w t a len cap hu', hz]; simp [Result.andThen]
  · rw [run_slice_h w t a len cap hu' k2 h h1 (by omega), hz]; simp [Result.andThen]
  · rw [run_slice_l w t a len cap hu' k1 l h0 (by omega), hz]; simp [Result.andThen]
  · rw [run_slice_lh w t a len cap hu' k1 k2 l h h0 h1 (by omega), hz]; simp [Result.andThen]

theorem rep_sub {w : World} {A : Nat → Prop} {n es : Nat} {row : Nat → List Cell} {v : Value} (hr : Rep w A (.sl n es row) v) {l h : Int} (h0 : 0 ≤ l) (h1 : l ≤ h) (h2 : h ≤ n) {c : Cell} (hc : SubOk n es row l h c) :
    ∃ a cap, v = .slice a n cap ∧ n ≤ cap ∧ Rep w A c (sliced a l.toNat h.toNat cap es) := by
  obtain ⟨row', rfl, hrow⟩ := hc
  cases hr with
  | nil =>
    refine ⟨none, 0, rfl, Nat.le_refl _, ?_⟩
    have e1 : l = 0 := by omega
    have e2 : h = 0 := by omega
    subst e1; subst e2
    exact .nil _ _
  | emp _ _ a =>
    refine ⟨some a, 0, rfl, Nat.le_refl _, ?_⟩
    have e1 : l = 0 := by omega
    have e2 : h = 0 := by omega
    subst e1; subst e2
    exact .emp _ _ a
  | sl _ _ _ b off cap u hA hn hcap hl hu hrr =>
    refine ⟨_, cap, rfl, hn, ?_⟩
    obtain ⟨p, rfl⟩ : ∃ p : Nat, l = p := ⟨l.toNat, by omega⟩
    obtain ⟨q, rfl⟩ : ∃ q : Nat, h = q := ⟨h.toNat, by omega⟩
    have e : ((q : Int) - p).toNat = q - p := by omega
    simp only [Int.toNat_natCast] at hrow ⊢
    rw [e] at hrow ⊢
    unfold sliced
    by_cases hcl : cap = p
    · have e1 : q - p = 0 := by omega
      have e2 : cap - p = 0 := by omega
      rw [if_pos hcl, e1, e2]
      exact .emp _ _ _
    · rw [if_neg hcl]
      have ea : (some (⟨b, off, none⟩ : Addr)).map (fun x => x.add (p * es)) = some ⟨b, off + p * es, none⟩ := by
        simp only [Option.map_some, Addr.add]
        split
        · rename_i h; rw [h]; rfl
        · rfl
      have eb : (some (⟨b, off, none⟩ : Addr)).map (·.add (p * es)) = some ⟨b, off + p * es, none⟩ := ea
      rw [eb]
      refine .sl (q - p) es row' b (off + p * es) (cap - p) (fun i j => u (p + i) j) (fun h => hA ?_) (by omega) (by omega) (fun i hi => ?_) (fun i j hi hj => ?_) (fun i j c hi hj => ?_)
      · exact Nat.lt_of_lt_of_le h (Nat.mul_le_mul_right _ (by omega))
      · rw [hrow i hi]; exact hl _ (by omega)
      · have := hu (p + i) j (by omega) hj
        rw [Nat.add_mul] at this
        rw [show off + p * es + i * es + j = off + (p * es + i * es) + j by omega]
        exact this
      · rw [hrow i hi] at hj
        exact hrr (p + i) j c (by omega) hj

theorem sliceW (hT : TblOk P T) {B : Base} {Q : Exit → Act → World → Prop} {q : Bool} {all : Array Oper} {o : Oper} {rest : List Oper} {K : List KI} {s : AS} {t e : TypeId} {x : Operand} {lo hi : Option Operand} {i j : TI}
    (hg : o.guard = none) (ho : o.op = .slice t x lo hi none) (hi' : find T t = some i) (he : i.elem = some e) (hj : find T e = some j)
    {n es : Nat} {row : Nat → List Cell} (hx : s.ev x = .c (.sl n es row)) (hes : es = j.size) {l h : Int} (hl : bnd s lo 0 = some l) (hh : bnd s hi n = some h)
    (hb : 0 ≤ l ∧ l ≤ h ∧ h ≤ n) (c : Cell) (hc : SubOk n es row l h c)
    (hgo : GW P B Q (.ops q all rest :: K) (s.put o.dst (.c c))) : GW P B Q (.ops q all (o :: rest) :: K) s := by
  subst hes
  refine ⟨G_ops_read hg (fun E a w hs => ?_)⟩
  have hd := hs.ev x
  rw [hx] at hd
  cases hd with
  | c hr =>
    obtain ⟨ad, cap, hv, hcap, hrep⟩ := rep_sub hr hb.1 hb.2.1 hb.2.2 hc
    have h1 := bnd_val hs hl
    have h2 := bnd_val hs hh
    refine ⟨_, fun w' _ => ?_, hgo.rec fun hg => hg _ _ _ (hs.put o.dst (.c hrep))⟩
    have hrun := run_sub (a := ad) (hT t i hi') he (hT e j hj) h1 h2 hb.1 hb.2.1 hb.2.2 hcap w'
    obtain ⟨dst, op', ty, pos, after, guard⟩ := o
    simp only at ho
    subst ho
    simp [execOp, hv, hrun]

theorem slC_sub {α : Type} [Inhabited α] {es : Nat} {e : α → List Cell} {xs : List α} {l h : Int} (h0 : 0 ≤ l) (h1 : l ≤ h) (h2 : h ≤ xs.length) :
    SubOk xs.length es (fun i => e (xs.getD i default)) l h (slC es e ((xs.drop l.toNat).take (h - l).toNat)) := by
  have hlen : ((xs.drop l.toNat).take (h - l).toNat).length = (h - l).toNat := by simp; omega
  refine ⟨_, by rw [slC, hlen], fun i hi => ?_⟩
  simp [List.getD, hi]

end Go.Sx

/- Contracts that lean on what memory holds when the call begins (a table that start-up code laid). -/
set_option maxRecDepth 100000
namespace Go.Sx
open Go
open Go.RowKit (Below)
variable {P : Program} {T : List (TypeId × TI)}

/-- A contract in worlds of which H is known. -/
def MeetsT (P : Program) (H : World → Prop) (f : FuncId) (ins outs : List Arg) : Prop :=
  Callable P f ∧ ∀ (w : World), H w → ∀ (vs : List Value), vs.length = ins.length → (∀ i x, ins[i]? = some x → RepArg w (fun _ => False) x (vs.getD i undef)) →
    Calls P f vs.toArray w fun e w' => Gives w w' outs e
def Stays (H : World → Prop) : Prop := ∀ w w', Below w.heap.size w w' → H w → H w'

theorem below_of_rel {W w : World} (h : Base.rel ⟨W, fun _ => False⟩ w) : Below W.heap.size W w := ⟨h.os, h.tape, h.output, h.size, fun k hk => h.block k hk (fun h => h)⟩

theorem call_ownT {W : World} {H : World → Prop} {Q : Exit → Act → World → Prop} {q : Bool} {f : FuncId} {xs : List AV} {dst : Option Tmp} {K : List KI} {s : AS} {ins outs : List Arg} (hf : MeetsT P H f ins outs) (hst : Stays H) (hW : H W) (hx : argsOf s xs = some ins)
    (h : G P ⟨W, fun _ => False⟩ Q K ((addRes outs s).2.put dst (addRes outs s).1)) : CallG P ⟨W, fun _ => False⟩ Q q f xs dst K s := by
  refine ⟨hf.1, fun E a w hs vs hl hv => ?_⟩
  obtain ⟨h1, h2⟩ := argsOf_get hx
  refine (hf.2 w (hst W w (below_of_rel hs.base) hW) vs (by omega) (fun i x hi => ?_)).mono (fun e w' hg => ?_)
  · obtain ⟨y, hy, hc⟩ := h2 i x hi
    exact argOf_rep hs hc (hv i y hy)
  · obtain ⟨hb, rs, fps, rfl, hrl, hro, hfr, hdis⟩ := hg
    have hA := hs.call hb
    obtain ⟨E', hAd, hL, hD⟩ := addArgs_ok outs rs fps s E hA hrl hro (fun i hi => (hfr i hi).1) hdis (fun i hi b hb' => by
      have hge := (hfr i hi).2 b hb'
      refine ⟨.inr hge, fun hav => ?_, .inl (Nat.le_trans hs.base.size hge)⟩
      have := hs.avoid_lt hav
      omega)
    have hres := getD_resVal outs (addArgs outs s).1 rs hrl hL hD
    rw [addRes_eq] at h
    exact ⟨_, rfl, fun _ => .of_below hb, h E' _ w' ((hAd.isA.put dst hres).is)⟩

theorem call_roT {W : World} {H : World → Prop} {Q : Exit → Act → World → Prop} {q : Bool} {f : FuncId} {xs : List AV} {dst : Option Tmp} {K : List KI} {s : AS} {ins outs : List Arg} (hf : MeetsT P H f ins outs) (hst : Stays H) (hW : H W) (hx : argsOf s xs = some ins)
    (h : G P ⟨W, fun _ => False⟩ Q K (s.put dst (resAV outs))) : CallG P ⟨W, fun _ => False⟩ Q q f xs dst K s := by
  refine ⟨hf.1, fun E a w hs vs hl hv => ?_⟩
  obtain ⟨h1, h2⟩ := argsOf_get hx
  refine (hf.2 w (hst W w (below_of_rel hs.base) hW) vs (by omega) (fun i x hi => ?_)).mono (fun e w' hg => ?_)
  · obtain ⟨y, hy, hc⟩ := h2 i x hi
    exact argOf_rep hs hc (hv i y hy)
  · obtain ⟨hb, rs, fps, rfl, hrl, hro, hfr, hdis⟩ := hg
    have hI := (hs.call hb).is
    have hno : ∀ i, i < outs.length → ∀ b ∈ fps i, ¬ s.avoid E b := fun i hi b hb' hav => by
      have := hs.avoid_lt hav
      have := (hfr i hi).2 b hb'
      omega
    have hone : ∀ i y, outs[i]? = some y → Den E w' (s.avoid E) s.next (argAV y) (rs.getD i undef) := by
      intro i y hy
      have hi : i < outs.length := (List.getElem?_eq_some_iff.1 hy).1
      have ho := hro i y hy
      cases y with
      | one c => exact .c (OwnRep.rep ho (hno i hi))
      | agg cs =>
        obtain ⟨us, gps, hu, hul, hur, hfp⟩ := ho
        rw [hu]
        refine .agg us (by simp [hul]) (fun j x hj => ?_)
        simp only [List.getElem?_map, Option.map_eq_some_iff] at hj
        obtain ⟨c, hc, rfl⟩ := hj
        have hj : j < cs.length := (List.getElem?_eq_some_iff.1 hc).1
        exact .c ((hur j c hc).rep (fun b hb' => hno i hi b (by rw [hfp]; exact mem_flat hj hb')))
      | ptr cs => exact ho.elim
      | fn f caps => exact ho.elim
    have hres : Den E w' (s.avoid E) s.next (resAV outs) (resVal rs) := by
      have := getD_resVal (E := E) (A := s.avoid E) (N := s.next) (w := w') outs (outs.map argAV) rs hrl (by simp) (fun i x hi => by
        simp only [List.getElem?_map, Option.map_eq_some_iff] at hi
        obtain ⟨y, hy, rfl⟩ := hi
        exact hone i y hy)
      match outs, this with
      | [], this => exact this
      | [o], this => exact this
      | o1 :: o2 :: r, this => exact this
    exact ⟨_, rfl, fun _ => .of_below hb, h E _ w' (hI.put dst hres)⟩

theorem enterT0 {H : World → Prop} {f : FuncId} {fn : Func} {c : Code} {ins outs : List Arg} (hf : P.funcs[f]? = some fn) (hb : fn.body = some c) (hn : (fn.name == "runtime.NumGoroutine") = false)
    (h : ∀ W, H W → G P ⟨W, fun _ => False⟩ (bodyPost P fn fun e w' => Gives W w' outs e) [.code c] (start fn.ntmps ins)) : MeetsT P H f ins outs := by
  refine ⟨⟨fn, hf, hn, by simp [hb]⟩, fun w hH vs hl hv => calls_of_wp hf hb ?_⟩
  refine h w hH ⟨fun _ => .slice none 0 0, fun _ => []⟩ _ w ?_
  have nav : ∀ b, ¬ (start fn.ntmps ins).avoid ⟨fun _ => .slice none 0 0, fun _ => []⟩ b := by
    rintro b (⟨x, hx, _⟩ | ⟨y, hy, _⟩)
    · simp [start] at hx
    · simp [start] at hy
  have nb : ∀ x, x ∉ (start fn.ntmps ins).boxes := by simp [start]
  have no : ∀ x, x ∉ (start fn.ntmps ins).own := by simp [start]
  refine ⟨rfl, by simp [start], by simp [start, hl], fun i x hx => ?_, fun x hx => absurd hx (nb x), fun x hx => absurd hx (nb x), by simp [start], fun y hy => absurd hy (no y), by simp [start], fun y hy => absurd hy (no y), fun x hx => absurd hx (nb x), fun _ _ => rfl,
    ⟨rfl, rfl, rfl, Nat.le_refl _, fun _ _ _ => rfl⟩, fun b hb => absurd hb (nav b)⟩
  simp only [start] at hx
  by_cases hi : i < ins.length
  · rw [List.getElem?_append_left (by simpa using hi)] at hx
    simp only [List.getElem?_map, Option.map_eq_some_iff] at hx
    obtain ⟨y, hy, rfl⟩ := hx
    have hr := hv i y hy
    have hiv : i < vs.length := by omega
    have e : (vs.toArray ++ Array.replicate (fn.ntmps - vs.toArray.size) undef).getD i undef = vs.getD i undef := by
      simp [Array.getD, List.getD, hiv, show i < vs.length + (fn.ntmps - vs.length) by omega]
    rw [e]
    cases y with
    | one c => exact .c (hr.move (fun _ _ _ => rfl) (fun b _ hb => absurd hb (nav b)))
    | agg cs =>
      obtain ⟨us, hu, hul, hur⟩ := hr
      rw [hu]
      refine .agg us (by simp [hul]) (fun j x hj => ?_)
      simp only [List.getElem?_map, Option.map_eq_some_iff] at hj
      obtain ⟨c, hc, rfl⟩ := hj
      exact .c ((hur j c hc).move (fun _ _ _ => rfl) (fun b _ hb => absurd hb (nav b)))
    | ptr cs => exact hr.den (fun b hb => absurd hb (nav b))
    | fn f caps =>
      obtain ⟨us, hu, hul, hur⟩ := hr
      rw [hu]
      refine .fn us (by simp [hul]) (fun j x hj => ?_)
      simp only [List.getElem?_map, Option.map_eq_some_iff] at hj
      obtain ⟨c, hc, rfl⟩ := hj
      have hr := hur j c hc
      cases c with
      | one c => exact .c (Rep.move hr (fun _ _ _ => rfl) (fun b _ hb => absurd hb (nav b)))
      | ptr cs => exact RepPtr.den hr (fun b hb => absurd hb (nav b))
  · rw [List.getElem?_append_right (by simp; omega)] at hx
    obtain rfl : AV.any = x := by
      have := List.mem_of_getElem? hx
      simpa using (List.eq_of_mem_replicate this).symm
    exact .any _


theorem enterT (hT : TblOk P T) (wr : Bool) {H : World → Prop} {f : FuncId} {fn : Func} {c : Code} {ins outs : List Arg} (hf : P.funcs[f]? = some fn) (hb : fn.body = some c) (hn : (fn.name == "runtime.NumGoroutine") = false)
    (h : ∀ W, H W → vcW P ⟨W, fun _ => False⟩ (bodyPost P fn fun e w' => Gives W w' outs e) (run0 T wr 100000 [.code c] (start fn.ntmps ins))) : MeetsT P H f ins outs :=
  enterT0 hf hb hn fun W hW => (go hT wr (h W hW)).rec id

theorem callWT {W : World} {H : World → Prop} {Q : Exit → Act → World → Prop} {q : Bool} {f : FuncId} {xs : List AV} {dst : Option Tmp} {K : List KI} {s : AS} {ins outs : List Arg} (hf : MeetsT P H f ins outs) (hst : Stays H) (hW : H W) (hx : argsOf s xs = some ins)
    (h : GW P ⟨W, fun _ => False⟩ Q K ((addRes outs s).2.put dst (addRes outs s).1)) : CW P ⟨W, fun _ => False⟩ Q q f xs dst K s := ⟨call_ownT hf hst hW hx (h.rec id)⟩

theorem callRT {W : World} {H : World → Prop} {Q : Exit → Act → World → Prop} {q : Bool} {f : FuncId} {xs : List AV} {dst : Option Tmp} {K : List KI} {s : AS} {ins outs : List Arg} (hf : MeetsT P H f ins outs) (hst : Stays H) (hW : H W) (hx : argsOf s xs = some ins)
    (h : GW P ⟨W, fun _ => False⟩ Q K (s.put dst (resAV outs))) : CW P ⟨W, fun _ => False⟩ Q q f xs dst K s := ⟨call_roT hf hst hW hx (h.rec id)⟩

end Go.Sx

/- Decimal numerals: what the loop has after k rounds. -/
set_option maxRecDepth 100000
namespace Go.Sx
open Go

def mk10 (u : Nat) : Nat → Nat
  | 0 => u
  | k + 1 => mk10 u k / 10
def sk10 (u : Nat) : Nat → List UInt8
  | 0 => []
  | k + 1 => UInt8.ofNat (48 + mk10 u k % 10) :: sk10 u k
theorem sk10_len (u k : Nat) : (sk10 u k).length = k := by
  induction k with
  | zero => rfl
  | succ k ih => simp [sk10, ih]
theorem mk10_eq (u k : Nat) : mk10 u k = u / 10 ^ k := by
  induction k with
  | zero => simp [mk10]
  | succ k ih => rw [mk10, ih, Nat.div_div_eq_div_mul, Nat.pow_succ]
def DecI (u k : Nat) : Prop := (0 < mk10 u k ∧ Lib.decDigits u = Lib.decDigits (mk10 u k) ++ sk10 u k) ∨ (mk10 u k = 0 ∧ Lib.decDigits u = sk10 u k)
theorem decI_zero {u : Nat} (h : 0 < u) : DecI u 0 := .inl ⟨h, by simp [mk10, sk10]⟩
theorem decI_succ {u k : Nat} (h : DecI u k) (hm : 0 < mk10 u k) : DecI u (k + 1) := by
  rcases h with ⟨_, h⟩ | ⟨h, _⟩
  · by_cases hs : mk10 u k < 10
    · refine .inr ⟨by rw [mk10]; omega, ?_⟩
      rw [h, Lib.decDigits, dif_pos hs, sk10, Nat.mod_eq_of_lt hs]; rfl
    · refine .inl ⟨by rw [mk10]; omega, ?_⟩
      rw [h, Lib.decDigits, dif_neg hs, sk10, mk10]; simp
  · omega
theorem mk10_le (u k : Nat) : mk10 u k ≤ u := by rw [mk10_eq]; exact Nat.div_le_self _ _
theorem mk10_k {u k : Nat} (hu : u ≤ 9223372036854775808) (hm : 0 < mk10 u k) : k < 19 := by
  rw [mk10_eq] at hm
  by_cases h : k < 19
  · exact h
  · exfalso
    have h1 : 10 ^ 19 ≤ 10 ^ k := Nat.pow_le_pow_right (by decide) (by omega)
    have h2 : u < 10 ^ k := Nat.lt_of_lt_of_le (by omega) h1
    rw [Nat.div_eq_of_lt h2] at hm
    omega
theorem tdiv10 {σ : Int} (hσ : σ = 1 ∨ σ = -1) (m : Nat) : (σ * (m : Int)).tdiv 10 = σ * ((m / 10 : Nat) : Int) := by
  rcases hσ with rfl | rfl
  · simp only [Int.one_mul]; rw [Int.tdiv_eq_ediv_of_nonneg (by omega)]; omega
  · rw [show (-1 : Int) * (m : Int) = -(m : Int) by omega, Int.neg_tdiv, Int.tdiv_eq_ediv_of_nonneg (by omega)]; omega
theorem tmod10 {σ : Int} (hσ : σ = 1 ∨ σ = -1) (m : Nat) : (σ * (m : Int)).tmod 10 = σ * ((m % 10 : Nat) : Int) := by
  rcases hσ with rfl | rfl
  · simp only [Int.one_mul]; rw [Int.tmod_eq_emod_of_nonneg (by omega)]; omega
  · rw [show (-1 : Int) * (m : Int) = -(m : Int) by omega, Int.neg_tmod, Int.tmod_eq_emod_of_nonneg (by omega)]; omega

/-- A number's text. -/
def dec (n : Int) : ByteArray := ⟨(Lib.itoa n).toArray⟩

end Go.Sx

/- Contracts of the library's, taken over. -/
set_option maxRecDepth 100000
namespace Go.Sx
open Go
open Go.RowKit (Below)
variable {P : Program}

theorem gives_one {w w' : World} {x : Value} (hb : Below w.heap.size w w') (h : x.oneCell' = true) : Gives w w' [.one (.val x)] (.returned x) :=
  ⟨hb, [x], fun _ => [], rfl, rfl, fun i y hi => by
    cases i with
    | zero => simp only [List.getElem?_cons_zero, Option.some.injEq] at hi; subst hi; exact .val x h
    | succ i => simp at hi, fun i hi => ⟨List.nodup_nil, fun b hb => by cases hb⟩, fun i j hi hj hne b hb => by cases hb⟩

theorem rep_val {w : World} {A : Nat → Prop} {x v : Value} (h : Rep w A (.val x) v) : v = x := by
  cases h; rfl

theorem below_grow (w : World) (k : Nat) (os : Array Obj) : Below w.heap.size w (Sort.grow (w.drewN k) os) :=
  ⟨rfl, rfl, rfl, by rw [Sort.size_grow]; exact Nat.le_add_right _ _, fun i hi => (Sort.heap_grow_old (w.drewN k) os hi)⟩

theorem var_stays {n : String} {cs : Array Value} {w w' : World} (hb : Below w.heap.size w w') (h : w.var? P n = some cs) : w'.var? P n = some cs := by
  unfold World.var? at h ⊢
  cases hg : P.globalNamed n with
  | none => rw [hg] at h; cases h
  | some g =>
    rw [hg] at h
    simp only [Option.bind_some] at h ⊢
    have hlt : g < w.heap.size := by
      by_cases hlt : g < w.heap.size
      · exact hlt
      · exfalso; rw [Array.getElem?_eq_none (by omega)] at h; cases h
    rw [hb.block g hlt]; exact h

theorem cast_one {α : Type} [Inhabited α] {es : Nat} {e : α → List Cell} {x : α} {row : Nat → List Cell} (h0 : row 0 = e x) :
    CastOk (.sl 1 es row) (slC es e [x]) := by
  refine ⟨rfl, rfl, fun i hi => ?_⟩
  match i, hi with
  | 0, _ => rw [h0]; exact CastL.rfl' _

theorem bsz (a : Array UInt8) : (ByteArray.mk a).size = a.size := rfl
theorem dec_size {n : Int} (h : inR .i64 n) : (dec n).size ≤ 21 := by
  rw [dec, bsz, List.size_toArray]; exact Lib.itoa_length_le n h.1 h.2

theorem ba_cons (b : UInt8) (l : List UInt8) : (ByteArray.mk #[b]) ++ (ByteArray.mk l.toArray) = ByteArray.mk (b :: l).toArray := by
  apply ByteArray.ext
  simp [ByteArray.data_append]

theorem within_f {n lo hi : Int} : within n lo hi = false ↔ ¬ (lo ≤ n ∧ n ≤ hi) := by
  rw [← within_iff]; simp

end Go.Sx

/- Ways that meet again: one statement carried out, then only what is named is known. -/
set_option maxRecDepth 100000
namespace Go.Sx
open Go
open Go.RowKit (Below)
variable {P : Program} {T : List (TypeId × TI)}

/-- So many steps more. -/
theorem goF (n : Nat) (hT : TblOk P T) (wr : Bool) {B : Base} {Q : Exit → Act → World → Prop} {K : List KI} {s : AS} (h : vcW P B Q (run0 T wr n K s)) : GW P B Q K s :=
  ⟨sound hT wr n _ _ (vcW_vc _ h)⟩

theorem rep_str {w : World} {A : Nat → Prop} {xs : List ByteArray} {v : Value} (h : Rep w A (sStr xs) v) :
    (∃ a c, v = .slice a 0 c ∧ xs = []) ∨ (∃ b o c, v = .slice (some ⟨b, o, none⟩) xs.length c ∧ xs.length ≤ c ∧ ∀ (j : Nat) x, xs[j]? = some x → w.cell? ⟨b, o + j, none⟩ = some (.string x)) := by
  change Rep w A (.sl xs.length 1 fun i => [vs (xs.getD i default)]) v at h
  generalize hn : xs.length = n at h
  generalize hrow : (fun i => [vs (xs.getD i default)]) = row at h
  cases h with
  | nil => exact .inl ⟨none, 0, rfl, List.eq_nil_of_length_eq_zero hn⟩
  | emp => exact .inl ⟨_, 0, rfl, List.eq_nil_of_length_eq_zero hn⟩
  | sl =>
    rename_i b off cap u hc hn' hA hu hr hl
    refine .inr ⟨b, off, cap, rfl, hn', fun j x hx => ?_⟩
    have hj : j < xs.length := (List.getElem?_eq_some_iff.1 hx).1
    have h1 := hu j 0 (by omega) (by omega)
    have h2 := hr j 0 (vs x) (by omega) (by rw [← hrow]; simp [List.getD, hx])
    rw [Nat.mul_one, Nat.add_zero] at h1
    rw [h1]
    exact congrArg some (rep_val h2)

/-- Texts, with a blank between them. -/
def joinB (l : List ByteArray) : ByteArray := ⟨(Lib.join (l.map (·.data.toList)) [32]).toArray⟩
theorem join_snoc (l : List (List UInt8)) (t sep : List UInt8) (h : l ≠ []) : Lib.join (l ++ [t]) sep = Lib.join l sep ++ sep ++ t := by
  match l, h with
  | x :: r, _ =>
    rw [List.cons_append, Lib.join_cons, Lib.join_cons]
    simp [Lib.joinTail]
theorem joinB_one (t : ByteArray) : joinB [t] = t := by
  simp [joinB, Lib.join_one]
theorem joinB_snoc (l : List ByteArray) (t : ByteArray) (h : l ≠ []) : joinB (l ++ [t]) = joinB l ++ ⟨#[32]⟩ ++ t := by
  apply ByteArray.ext
  simp only [joinB, List.map_append, List.map_cons, List.map_nil, ByteArray.data_append]
  rw [join_snoc _ _ _ (by simpa using h)]
  simp

end Go.Sx

/- Contracts whose results are one of many. -/
set_option maxRecDepth 100000
namespace Go.Sx
open Go
open Go.RowKit (Below)
variable {P : Program} {T : List (TypeId × TI)}

end Go.Sx

/- A part of a text; an error held against nil. -/
set_option maxRecDepth 100000
namespace Go.Sx
open Go
variable {P : Program} {T : List (TypeId × TI)}

end Go.Sx

/- Numerals read back; fields of a line: plain Lean. -/
set_option maxRecDepth 100000
namespace Go.Sx
open Go

def isD (b : UInt8) : Prop := 48 ≤ b.toNat ∧ b.toNat ≤ 57
instance (b : UInt8) : Decidable (isD b) := by unfold isD; infer_instance
def dstep (n : Nat) (b : UInt8) : Nat := 10 * n + (b.toNat - 48)
def dval (acc : Nat) (l : List UInt8) : Nat := l.foldl dstep acc
/-- The number that a text spells, as the program reads it. -/
def rd (s : ByteArray) : Option Nat := if dval 0 s.data.toList ≤ 1000000000 ∧ dec (dval 0 s.data.toList : Nat) = s then some (dval 0 s.data.toList) else none
end Go.Sx

/- Fields of a line, as a loop finds them: plain Lean. -/
set_option maxRecDepth 100000
namespace Go.Sx
open Go

def okB (s : ByteArray) : Prop := ∀ b ∈ s.data.toList, 32 ≤ b.toNat ∧ b.toNat ≤ 126
instance (s : ByteArray) : Decidable (okB s) := by unfold okB; infer_instance
def fieldsB (s : ByteArray) : List ByteArray := (Lib.fields s.data.toList).map fun l => ⟨l.toArray⟩

def PartsP (s : ByteArray) : Prop := s.size ≤ 600 ∧ okB s ∧ (fieldsB s).length ≤ 12
instance (s : ByteArray) : Decidable (PartsP s) := by unfold PartsP; infer_instance
end Go.Sx

/- Texts joined by blanks come apart in one way: plain Lean. -/
set_option maxRecDepth 100000
namespace Go.Sx
open Go

end Go.Sx

/- What the program reads from a line: inputs and picks; plain Lean. -/
set_option maxRecDepth 100000
namespace Go.Sx
open Go

end Go.Sx

/- Results of which only that they are values is told. -/
set_option maxRecDepth 100000
namespace Go.Sx
open Go
open Go.RowKit (Below)
variable {P : Program} {T : List (TypeId × TI)}

theorem RW.mono {B : Base} {Q Q' : Exit → Act → World → Prop} {s : AS} (h : ∀ a w, Q .ret a w → Q' .ret a w) (hr : RW B Q s) : RW B Q' s :=
  ⟨fun E a w hs => h a w (hr.rec (fun g => g E a w hs))⟩

end Go.Sx
