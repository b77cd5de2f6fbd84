/- A symbolic executor for the model's code, proved sound: part 3. No conditions. -/
import Derived.Test.YtlbmkgkmbjadcaaGreatEng2
import Derived.Laws.BytesArg
import Derived.Lib.ItoaNum
import Derived.Sort.Grow
import Derived.Deep.Draws
import Derived.Lib.ItoaLen
import Derived.Lib.Join
import Derived.WideLaws
import Derived.Laws.Strings2
import Derived.Lib.AtoiAll
import Derived.Lib.Fields

/- The return of what was changed; an inner slice taken out and put back; a nil slice adopted. -/
namespace Go.Sx
open Go.RowKit (Below)
variable {P : Program} {T : List (TypeId × TI)}

theorem GW.out {B : Base} {Q : Exit → Act → World → Prop} {K : List KI} {s : AS} (h : GW P B Q K s) : G P B Q K s := h.rec fun h => h

def linksOk (links : List (Nat × Value)) (l : Nat → Value) (ks : List Nat) : Prop :=
  match ks with
  | [] => True
  | k :: r => getLink links k = some (l k) ∧ linksOk links l r

theorem linksOk_mem {links : List (Nat × Value)} {l : Nat → Value} {ks : List Nat} (h : linksOk links l ks) {k : Nat} (hk : k ∈ ks) : (k, l k) ∈ links := by
  induction ks with
  | nil => simp at hk
  | cons j r ih =>
    rcases List.mem_cons.1 hk with rfl | hk
    · exact getLink_mem h.1
    · exact ih h.2 hk

def outVs (xs : List AV) (us : List Value) : Prop :=
  match xs, us with
  | [], [] => True
  | x :: xs, u :: us => x = .v u ∧ outVs xs us
  | _, _ => False

theorem outVs_get {xs : List AV} {us : List Value} (h : outVs xs us) : xs = us.map AV.v := by
  induction xs generalizing us with
  | nil => cases us <;> simp_all [outVs]
  | cons x xs ih =>
    cases us with
    | nil => simp [outVs] at h
    | cons u us =>
      obtain ⟨rfl, h⟩ := h
      rw [ih h]; rfl

def plainB (x : AV) : Bool :=
  match x with
  | .own _ => true
  | .c (.val u) => oneCells [u]
  | _ => false
def plainA (x : AV) : Bool :=
  match x with
  | .agg xs => allB plainB xs
  | x => plainB x

theorem den_mkC {E : Env} {w : World} {A : Nat → Prop} {N : Nat} {l : Nat → Value} {x : AV} (hp : plainB x = true) (hk : ∀ k ∈ keyC x, k < N ∧ E.ov k = l k) : Den E w A N x (valC l x) := by
  unfold plainB at hp
  split at hp
  · rename_i k
    obtain ⟨h1, h2⟩ := hk k (by simp [keyC])
    have : Den E w A N (.own k) (E.ov k) := .own h1
    rw [h2] at this
    exact this
  · rename_i u
    exact .c (.val u (oneCells_spec hp u (by simp)))
  · simp at hp

theorem den_mkA {E : Env} {w : World} {A : Nat → Prop} {N : Nat} {l : Nat → Value} {x : AV} (hp : plainA x = true) (hk : ∀ k ∈ keysA x, k < N ∧ E.ov k = l k) : Den E w A N x (valA l x) := by
  cases x with
  | agg xs =>
    refine .agg _ (by simp) (fun i z hz => ?_)
    simp only [List.getD, List.getElem?_map, hz, Option.map_some, Option.getD_some]
    exact den_mkC (allB_mem hp (List.mem_of_getElem? hz)) (fun k hk' => hk k (List.mem_flatMap.2 ⟨z, List.mem_of_getElem? hz, hk'⟩))
  | own k => exact den_mkC hp hk
  | c z => exact den_mkC hp hk
  | _ => simp [plainA, plainB] at hp

theorem retU (hT : TblOk P T) {W : World} {may : Nat → Prop} {fn : Func} {x0 : AV} {l : Nat → Value} {y : Arg} {outs : List Value} {s : AS} {xs : List AV} (hx : retAV T fn.results.toList s = some xs) (hv : outVs xs outs)
    (hp : plainA x0 = true) (hk : noDup (keysA x0) = true) (ho : outA s.own x0 y) (hl : linksOk s.links l (keysA x0)) : RW ⟨W, may⟩ (bodyPost P fn fun e w' => GivesU W may (valA l x0) y outs w' e) s := by
  refine ⟨fun E a w h => ?_⟩
  obtain ⟨vs, h1, h2, h3, h4⟩ := retAV_ok hT h fn.results.toList xs hx
  obtain rfl := outVs_get hv
  have hvs : vs = outs := by
    apply List.ext_getElem?
    intro i
    by_cases hi : i < outs.length
    · have hi' : i < vs.length := by rw [h2]; simpa using hi
      have := den_int (h4 i (.v outs[i]) (by simp [hi]))
      simp only [List.getD, List.getElem?_eq_getElem hi', Option.getD_some] at this
      rw [List.getElem?_eq_getElem hi, List.getElem?_eq_getElem hi', this]
    · rw [List.getElem?_eq_none (by rw [h2]; simp; omega), List.getElem?_eq_none (by omega)]
  subst hvs
  have hD : Den E w (s.avoid E) s.next x0 (valA l x0) := den_mkA hp (fun k hk' => h.links _ (linksOk_mem hl hk'))
  obtain ⟨o1, o2⟩ := outA_ok h ho hD
  refine ⟨h.defers, resVal vs, ?_, rfl, ⟨_, o1, keys_nodup h (noDup_spec hk) o2, fun b hb => ?_⟩, ?_⟩
  · rw [results_eq, Array.mapM_eq_mapM_toList]
    simp only [map_eq_pure_bind, Sem.run_bind, h1, Result.andThen_ok, Sem.run_pure]
    exact congrArg (fun v => Result.ok v w) (resVal_eq vs)
  · obtain ⟨k, hk', hb⟩ := List.mem_flatMap.1 hb
    obtain ⟨z, hz, rfl⟩ := o2 k hk'
    exact (h.fresh b (.inr ⟨z, hz, hb⟩)).symm
  · have hB := h.base
    exact ⟨hB.os, hB.tape, hB.output, hB.size, fun k hk hm => hB.block k hk hm⟩


/-- One place of what is owned is described anew. -/
theorem own_swap {w : World} {n es : Nat} {row : Nat → List Cell} {b off cap : Nat} {ty : TypeId} {cells : Array Value} {fps : Nat → List Nat} (hn : n ≤ cap) (hc : cap ≤ maxLen)
    (hb : w.heap[b]? = some (.cells cells ty (0, 0))) (hs : (off + cap) * es ≤ cells.size) (hl : ∀ i, i < n → (row i).length = es)
    (hr : ∀ i j c, i < n → (row i)[j]? = some c → OwnRep w c (cells.getD ((off + i) * es + j) undef) (fps (i * es + j)))
    (hnd : (b :: (List.range (n * es)).flatMap fps).Nodup)
    {j o : Nat} (hj : j < n) (ho : o < es) {c : Cell} {g : List Nat} (hg : OwnRep w c (cells.getD ((off + j) * es + o) undef) g) (hgn : g.Nodup)
    (hgd : ∀ x ∈ g, x ≠ b ∧ ∀ k, k < n * es → k ≠ j * es + o → x ∉ fps k) {c' : Cell} (hu : UpdOk n es row j o [c] c') :
    OwnRep w c' (.slice (some ⟨b, off * es, none⟩) n cap) (b :: (List.range (n * es)).flatMap (fun k => if k = j * es + o then g else fps k)) ∧
      (b :: (List.range (n * es)).flatMap (fun k => if k = j * es + o then g else fps k)).Nodup := by
  obtain ⟨row', rfl, hu1, hu2⟩ := hu
  obtain ⟨hb0, hnd1⟩ := List.nodup_cons.1 hnd
  constructor
  · refine .sl n es row' b off cap ty cells _ hn hc hb hs (fun i hi => ?_) (fun i m d hi hd => ?_)
    · by_cases e : i = j
      · subst e
        rw [hu2]
        simp [spliceC, hl i hi]
        omega
      · rw [hu1 i hi e]; exact hl i hi
    · by_cases e : i = j
      · subst e
        rw [hu2] at hd
        have hl1 : (List.take o (row i)).length = o := by simp [hl i hi]; omega
        simp only [spliceC] at hd
        by_cases h1 : m = o
        · subst h1
          rw [if_pos rfl]
          rw [List.append_assoc, List.getElem?_append_right (by omega), hl1, Nat.sub_self] at hd
          simp only [List.cons_append, List.getElem?_cons_zero, Option.some.injEq] at hd
          subst hd
          exact hg
        · rw [if_neg (by omega)]
          refine hr i m d hi ?_
          by_cases h2 : m < o
          · rw [List.append_assoc, List.getElem?_append_left (by omega), List.getElem?_take, if_pos h2] at hd
            exact hd
          · rw [List.getElem?_append_right (by simp [hl i hi]; omega)] at hd
            simp only [List.length_append, hl1, List.getElem?_drop, List.length_singleton] at hd
            rwa [show o + 1 + (m - (o + 1)) = m by omega] at hd
      · rw [hu1 i hi e] at hd
        have hml : m < es := by have := (List.getElem?_eq_some_iff.1 hd).1; rw [hl i hi] at this; exact this
        have hne : i * es + m ≠ j * es + o := by
          intro h
          rcases Nat.lt_or_gt_of_ne e with h' | h'
          · have : (i + 1) * es ≤ j * es := Nat.mul_le_mul_right _ h'
            rw [Nat.add_mul] at this
            omega
          · have : (j + 1) * es ≤ i * es := Nat.mul_le_mul_right _ h'
            rw [Nat.add_mul] at this
            omega
        rw [if_neg hne]
        exact hr i m d hi hd
  · obtain ⟨f1, f2⟩ := nodup_flatMap.1 hnd1
    refine List.nodup_cons.2 ⟨fun h => ?_, nodup_flatMap.2 ⟨fun k hk => ?_, ?_⟩⟩
    · obtain ⟨k, hk, hx⟩ := List.mem_flatMap.1 h
      split at hx
      · exact (hgd b hx).1 rfl
      · exact hb0 (mem_flat (List.mem_range.1 hk) hx)
    · split
      · exact hgn
      · exact f1 k hk
    · refine List.Pairwise.imp_of_mem ?_ ((List.nodup_range (n := n * es)).and f2)
      intro p q hp hq ⟨hne, hpq⟩ z hz hz'
      split at hz
      · split at hz'
        · omega
        · exact (hgd z hz).2 q (List.mem_range.1 hq) (by assumption) hz'
      · split at hz'
        · exact (hgd z hz').2 p (List.mem_range.1 hp) (by assumption) hz
        · exact hpq z hz hz'

def isSl (c : Cell) : Bool :=
  match c with
  | .sl _ _ _ => true
  | _ => false

/-- An inner slice is taken out of one that is owned. -/
theorem focusW (hT : TblOk P T) {B : Base} {Q : Exit → Act → World → Prop} {q : Bool} {all : Array Oper} {o : Oper} {rest : List Oper} {K : List KI} {s : AS} {x : Operand} {t : TypeId} {i : TI}
    (hg : o.guard = none) (ho : o.op = .load t x) (hi : find T t = some i) (hag : i.agg = false) {k es off n : Nat} {j : Int} {row : Nat → List Cell}
    (hx : s.ev x = .oel k es j off) (hk : getOwn s.own k = some (.sl n es row)) {c : Cell} (hc : (row j.toNat)[off]? = some c)
    (h : ∀ v, GW P B Q (.ops q all rest :: K) (({ s with own := ⟨s.next, c⟩ :: ⟨k, .sl n es fun i => if i = j.toNat then spliceC (row i) off [.val v] else row i⟩ :: remOs [k] s.own, next := s.next + 1, links := (s.next, v) :: s.links } : AS).put o.dst (.own s.next))) :
    GW P B Q (.ops q all (o :: rest) :: K) s := by
  refine ⟨G_ops_read hg (fun E a w hs => ?_)⟩
  have hm := getOwn_mem hk
  obtain ⟨hklt, o2, o3⟩ := hs.own _ hm
  simp only at o2 o3 hklt
  have hev := hs.ev x
  rw [hx] at hev
  generalize hv : a.eval x = v at hev
  cases hev with
  | oel _ b o' n' cap hkl hov h0 hj =>
    rw [hov] at o2
    generalize hfp : E.fp k = fp at o2 o3
    obtain ⟨jn, rfl⟩ := Int.eq_ofNat_of_zero_le h0
    simp only [Int.toNat_natCast, Int.ofNat_lt] at *
    cases o2 with
    | emp => exact absurd hj (Nat.not_lt_zero _)
    | sl _ _ _ _ offb _ ty cells fps hn hcp hb hcs hl hr =>
      have hoff : off < es := by have := (List.getElem?_eq_some_iff.1 hc).1; rwa [hl jn hj] at this
      have hin := hr jn off c hj hc
      obtain ⟨hb0, hnd1⟩ := List.nodup_cons.1 o3
      obtain ⟨f1, f2⟩ := nodup_flatMap.1 hnd1
      have hpos : jn * es + off < n * es := idx_lt hj hoff
      have hcl : (offb + jn) * es + off < cells.size := by
        have := idx_lt (show offb + jn < offb + cap by omega) hoff
        omega
      generalize hu : cells.getD ((offb + jn) * es + off) undef = u at hin
      have hdis : ∀ z ∈ fps (jn * es + off), z ≠ b ∧ ∀ k, k < n * es → k ≠ jn * es + off → z ∉ fps k := by
        intro z hz
        refine ⟨fun e => hb0 (e ▸ mem_flat hpos hz), fun k hk hne hz' => ?_⟩
        have hp := List.pairwise_iff_getElem.1 f2
        rcases Nat.lt_or_gt_of_ne hne with h' | h'
        · have := hp k (jn * es + off) (by simpa using hk) (by simpa using hpos) h' z
          simp only [List.getElem_range] at this
          exact this hz' hz
        · have := hp (jn * es + off) k (by simpa using hpos) (by simpa using hk) h' z
          simp only [List.getElem_range] at this
          exact this hz hz'
      have hone : u.oneCell' = true := hin.one
      obtain ⟨s1, s2⟩ := own_swap hn hcp hb hcs hl hr o3 hj hoff (c := .val u) (g := []) (by rw [hu]; exact .val u hone) (by simp) (by simp)
        (c' := .sl n es fun i => if i = jn then spliceC (row i) off [.val u] else row i) ⟨_, rfl, fun i _ hne => by simp [hne], by simp⟩
      have hI := hs.drop [k]
      have key : ∀ z, z ∈ b :: (List.range (n * es)).flatMap fps → s.avoid E z ∧ ¬ ({ s with own := remOs [k] s.own } : AS).avoid E z ∧ B.fresh z := by
        intro z hz
        have hzk : z ∈ E.fp k := by rw [hfp]; exact hz
        have hav : s.avoid E z := .inr ⟨_, hm, hzk⟩
        refine ⟨hav, ?_, hs.fresh z hav⟩
        rintro (⟨r, hr', rfl⟩ | ⟨r, hr', hz'⟩)
        · exact hs.sepB r hr' _ hm hzk
        · obtain ⟨q1, q2⟩ := remOs_mem.1 hr'
          exact hs.sep _ hm r q1 (fun e => q2 (by simp at e; simp [e])) z hzk hz'
      have sub1 : ∀ z, z ∈ b :: (List.range (n * es)).flatMap (fun k => if k = jn * es + off then [] else fps k) → z ∈ b :: (List.range (n * es)).flatMap fps := by
        intro z hz
        rcases List.mem_cons.1 hz with rfl | hz
        · simp
        · obtain ⟨p, hp, hz⟩ := List.mem_flatMap.1 hz
          split at hz
          · simp at hz
          · exact List.mem_cons_of_mem _ (List.mem_flatMap.2 ⟨p, hp, hz⟩)
      have hI3 := hI.addAt (k := k) hklt (fun y' hy => fun e => (remOs_mem.1 hy).2 (by rw [e]; simp)) (by rw [hov]; exact s1) s2 (fun z hz => key z (sub1 z hz))
      have hav3 : ∀ z, z ∈ fps (jn * es + off) → ¬ ({ s with own := ⟨k, .sl n es fun i => if i = jn then spliceC (row i) off [.val u] else row i⟩ :: remOs [k] s.own } : AS).avoid (E.setFp k (b :: (List.range (n * es)).flatMap (fun k => if k = jn * es + off then [] else fps k))) z := by
        intro z hz
        have hzin : z ∈ b :: (List.range (n * es)).flatMap fps := List.mem_cons_of_mem _ (mem_flat hpos hz)
        rintro (⟨r, hr', rfl⟩ | ⟨r, hr', hz'⟩)
        · exact (key _ hzin).2.1 (.inl ⟨r, hr', rfl⟩)
        · rcases List.mem_cons.1 hr' with rfl | hr'
          · simp only [Env.setFp, if_true] at hz'
            rcases List.mem_cons.1 hz' with rfl | hz'
            · exact (hdis _ hz).1 rfl
            · obtain ⟨p, hp, hz'⟩ := List.mem_flatMap.1 hz'
              split at hz'
              · simp at hz'
              · exact (hdis z hz).2 p (List.mem_range.1 hp) (by assumption) hz'
          · have hne : r.key ≠ k := fun e => (remOs_mem.1 hr').2 (by rw [e]; simp)
            simp only [Env.setFp, hne, if_false] at hz'
            exact (key z hzin).2.1 (.inr ⟨r, hr', hz'⟩)
      obtain ⟨k1, k2⟩ := hI3.addOwn hin (f1 _ (List.mem_range.2 hpos)) (fun z hz => ⟨(key z (List.mem_cons_of_mem _ (mem_flat hpos hz))).1, hav3 z hz, (key z (List.mem_cons_of_mem _ (mem_flat hpos hz))).2.2⟩)
      have k3 : ({ s with own := ⟨s.next, c⟩ :: ⟨k, .sl n es fun i => if i = jn then spliceC (row i) off [.val u] else row i⟩ :: remOs [k] s.own, next := s.next + 1, links := (s.next, u) :: s.links } : AS).isA B
          ((E.setFp k (b :: (List.range (n * es)).flatMap (fun k => if k = jn * es + off then [] else fps k))).withOwn s.next u (fps (jn * es + off))) (s.avoid E) a w := by
        refine ⟨k1.defers, fun p hp => ?_, k1.size, k1.slots, k1.boxes, k1.boxes2, k1.keys, k1.own, k1.ownkeys, k1.sep, k1.sepB, k1.one, k1.base, k1.fresh, k1.sub⟩
        rcases List.mem_cons.1 hp with rfl | hp
        · exact ⟨Nat.lt_succ_self _, by simp [Env.withOwn]⟩
        · exact k1.links p hp
      refine ⟨u, fun w' hkw => ?_, (h u).out _ _ w ((k3.put o.dst k2).is)⟩
      obtain ⟨dst, op', ty', pos, after, guard⟩ := o
      simp only at ho
      subst ho
      obtain ⟨f, d, z, S⟩ := TI.of_spec (hT t i hi)
      have hd : isAggD d = false := by rw [← S.agg]; exact hag
      have h1 := S.one hd
      have hrun := run_loadVar_ti (hT t i hi) w' b (offb * es + jn * es + off) ((List.range i.size).map fun _ => u) (by simp) (fun p hp => by
        obtain rfl : p = 0 := by omega
        refine hkw.cell ?_
        rw [show offb * es + jn * es + off + 0 = (offb + jn) * es + off by rw [Nat.add_mul]; omega, cell_of_row w b _ cells ty (0, 0) hb]
        simp only [h1, List.range_one, List.map_cons, List.map_nil, List.getD_cons_zero]
        rw [← hu, Array.getD_eq_getD_getElem?]
        simp [hcl])
      simp only [execOp, hv, Instr.loadAt, Instr.sureAddr, Sem.run_bind, Sem.run_pure, Result.andThen_ok, hrun, hag, h1]
      rfl


/-- The inner slice is put back. -/
theorem unfocusW {B : Base} {Q : Exit → Act → World → Prop} {K : List KI} {s : AS} (k k2 : Nat) {n es : Nat} {row : Nat → List Cell} {j off : Nat} {v : Value} {c : Cell} (hk : getOwn s.own k = some (.sl n es row))
    (hj : j < n) (hc : (row j)[off]? = some (.val v)) (h2 : getOwn s.own k2 = some c) (hl : getLink s.links k2 = some v) (hne : Nat.beq k k2 = false) (c' : Cell) (hu : UpdOk n es row j off [c] c')
    (h : GW P B Q K { s with own := ⟨k, c'⟩ :: remOs [k, k2] s.own }) : GW P B Q K s := by
  refine ⟨fun E a w hs => ?_⟩
  have hm := getOwn_mem hk
  have hm2 := getOwn_mem h2
  have hkk : k ≠ k2 := fun e => by subst e; simp at hne
  obtain ⟨hklt, o2, o3⟩ := hs.own _ hm
  obtain ⟨hklt2, p2, p3⟩ := hs.own _ hm2
  simp only at o2 o3 hklt p2 p3 hklt2
  have hlv := (hs.links _ (getLink_mem hl)).2
  simp only at hlv
  have hI := hs.drop [k, k2]
  have key : ∀ z, (z ∈ E.fp k ∨ z ∈ E.fp k2) → s.avoid E z ∧ ¬ ({ s with own := remOs [k, k2] s.own } : AS).avoid E z ∧ B.fresh z := by
    intro z hz
    have : ∃ y ∈ s.own, y.key ∈ [k, k2] ∧ z ∈ E.fp y.key := by
      rcases hz with hz | hz
      · exact ⟨_, hm, by simp, hz⟩
      · exact ⟨_, hm2, by simp, hz⟩
    obtain ⟨y, hy, hyk, hz⟩ := this
    have hav : s.avoid E z := .inr ⟨_, hy, hz⟩
    refine ⟨hav, ?_, hs.fresh z hav⟩
    rintro (⟨r, hr', rfl⟩ | ⟨r, hr', hz'⟩)
    · exact hs.sepB r hr' _ hy hz
    · obtain ⟨q1, q2⟩ := remOs_mem.1 hr'
      exact hs.sep _ hy r q1 (fun e => q2 (e ▸ hyk)) z hz hz'
  have hsep := hs.sep _ hm _ hm2 hkk
  generalize hov : E.ov k = vv, hfp : E.fp k = fp at o2 o3
  cases o2 with
  | nil => omega
  | emp => omega
  | sl _ _ _ b offb cap ty cells fps hn hcp hb hcs hl' hr =>
    have hoff : off < es := by have := (List.getElem?_eq_some_iff.1 hc).1; rwa [hl' j hj] at this
    have hin := hr j off _ hj hc
    generalize hu' : cells.getD ((offb + j) * es + off) undef = u at hin
    have huv : u = v := by
      revert hin
      generalize fps (j * es + off) = g
      intro hin
      cases hin; rfl
    obtain ⟨s1, s2⟩ := own_swap hn hcp hb hcs hl' hr o3 hj hoff (c := c) (g := E.fp k2) (by rw [hu', huv, ← hlv]; exact p2) p3 (fun z hz => by
      refine ⟨fun e => ?_, fun p hp _ hz' => ?_⟩
      · subst e
        exact hsep z (by simp only [hfp]; simp) hz
      · exact hsep z (by simp only [hfp]; exact List.mem_cons_of_mem _ (mem_flat hp hz')) hz) hu
    have hI3 := hI.addAt (k := k) hklt (fun y' hy => fun e => (remOs_mem.1 hy).2 (by rw [e]; simp)) (by rw [hov]; exact s1) s2 (fun z hz => by
      rcases List.mem_cons.1 hz with rfl | hz
      · exact key z (.inl (by rw [hfp]; simp))
      · obtain ⟨p, hp, hz⟩ := List.mem_flatMap.1 hz
        split at hz
        · exact key z (.inr hz)
        · exact key z (.inl (by rw [hfp]; exact List.mem_cons_of_mem _ (List.mem_flatMap.2 ⟨p, hp, hz⟩))))
    exact h.out _ a w hI3.is

/-- The nil slice in a slot is taken for an empty slice of one's own. -/
theorem nilW {B : Base} {Q : Exit → Act → World → Prop} {K : List KI} {s : AS} (i es : Nat) (row : Nat → List Cell) (hi : nth s.slots i = .c (.val (.slice none 0 0)))
    (h : GW P B Q K { s with slots := setNth s.slots i (.own s.next), own := ⟨s.next, .sl 0 es row⟩ :: s.own, next := s.next + 1 }) : GW P B Q K s := by
  refine ⟨fun E a w hs => ?_⟩
  have hI : s.isA B E (s.avoid E) a w := ⟨hs.defers, hs.links, hs.size, hs.slots, hs.boxes, hs.boxes2, hs.keys, hs.own, hs.ownkeys, hs.sep, hs.sepB, hs.one, hs.base, hs.fresh, fun _ h => h⟩
  obtain ⟨k1, k2⟩ := hI.addOwn (.nil es row) (by simp) (by simp)
  have k3 := k1.is
  refine h.out (E.withOwn s.next (.slice none 0 0) []) a w ⟨k3.defers, k3.links, by rw [k3.size]; exact (setNth_length _ _ _).symm, fun m z hz => ?_, k3.boxes, k3.boxes2, k3.keys, k3.own, k3.ownkeys, k3.sep, k3.sepB, k3.one, k3.base, k3.fresh⟩
  simp only at hz
  rw [setNth_get] at hz
  split at hz
  · rename_i hm
    obtain ⟨rfl, hm⟩ := hm
    obtain rfl := Option.some.inj hz
    have hd := hs.slots i (.c (.val (.slice none 0 0))) (by rw [nth_get, List.getElem?_eq_getElem hm] at hi; rw [List.getElem?_eq_getElem hm]; simpa using hi)
    rw [den_int hd]
    have : Den (E.withOwn s.next (.slice none 0 0) []) w _ _ (.own s.next) (.slice none 0 0) := k2
    exact this.move (Nat.le_refl _) (fun _ _ => ⟨rfl, rfl⟩) (fun _ _ _ => rfl) (fun b _ hb => k1.sub b hb)
  · exact k3.slots m z hz

end Go.Sx

/- The types that the statements speak of. -/
namespace Go.Sx

abbrev sInt (xs : List Int) : Cell := slC 1 (fun n => [vi n]) xs
abbrev sBool (xs : List Bool) : Cell := slC 1 (fun b => [vb b]) xs
abbrev sStr (xs : List ByteArray) : Cell := slC 1 (fun b => [vs b]) xs

structure GStamp where
  epoch : Int
  turn : Int
  deriving Inhabited, DecidableEq
def GStamp.c (x : GStamp) : List Cell := [vi x.epoch, vi x.turn]
abbrev sGStamp (xs : List GStamp) : Cell := slC 2 GStamp.c xs

structure GCount where
  stamp : GStamp
  n : Int
  deriving Inhabited, DecidableEq
def GCount.c (x : GCount) : List Cell := [vi x.stamp.epoch, vi x.stamp.turn, vi x.n]
abbrev sGCount (xs : List GCount) : Cell := slC 3 GCount.c xs

structure GRecord where
  op : Int
  stamp : GStamp
  key : Int
  val : Int
  deriving Inhabited, DecidableEq
def GRecord.c (x : GRecord) : List Cell := [vi x.op, vi x.stamp.epoch, vi x.stamp.turn, vi x.key, vi x.val]
abbrev sGRecord (xs : List GRecord) : Cell := slC 5 GRecord.c xs

structure GLink where
  cap : Int
  queue : List GRecord
  credits : Int
  back : Int
  sent : Int
  got : Int
  deriving Inhabited, DecidableEq
def GLink.c (x : GLink) : List Cell := [vi x.cap, sGRecord x.queue, vi x.credits, vi x.back, vi x.sent, vi x.got]
abbrev sGLink (xs : List GLink) : Cell := slC 6 GLink.c xs

structure GNode where
  kind : Int
  a : Int
  b : Int
  outs : List Int
  deriving Inhabited, DecidableEq
def GNode.c (x : GNode) : List Cell := [vi x.kind, vi x.a, vi x.b, sInt x.outs]
abbrev sGNode (xs : List GNode) : Cell := slC 4 GNode.c xs

structure GGraph where
  nodes : List GNode
  workers : Int
  cap : Int
  deriving Inhabited, DecidableEq
def GGraph.c (x : GGraph) : List Cell := [sGNode x.nodes, vi x.workers, vi x.cap]
abbrev sGGraph (xs : List GGraph) : Cell := slC 3 GGraph.c xs

structure GCell where
  op : Int
  epoch : Int
  key : Int
  val : Int
  deriving Inhabited, DecidableEq
def GCell.c (x : GCell) : List Cell := [vi x.op, vi x.epoch, vi x.key, vi x.val]
abbrev sGCell (xs : List GCell) : Cell := slC 4 GCell.c xs

structure GDone where
  epoch : Int
  capped : Bool
  deriving Inhabited, DecidableEq
def GDone.c (x : GDone) : List Cell := [vi x.epoch, vb x.capped]
abbrev sGDone (xs : List GDone) : Cell := slC 2 GDone.c xs

structure GWorker where
  queue : List GRecord
  staged : List GRecord
  inputs : List GRecord
  cells : List GCell
  sums : List Int
  black : List Bool
  caps : List Bool
  dones : List GDone
  deriving Inhabited, DecidableEq
def GWorker.c (x : GWorker) : List Cell := [sGRecord x.queue, sGRecord x.staged, sGRecord x.inputs, sGCell x.cells, sInt x.sums, sBool x.black, sBool x.caps, sGDone x.dones]
abbrev sGWorker (xs : List GWorker) : Cell := slC 8 GWorker.c xs

structure GToken where
  going : Bool
  at_ : Int
  sum : Int
  black : Bool
  capped : Bool
  deriving Inhabited, DecidableEq
def GToken.c (x : GToken) : List Cell := [vb x.going, vi x.at_, vi x.sum, vb x.black, vb x.capped]
abbrev sGToken (xs : List GToken) : Cell := slC 5 GToken.c xs

structure GNews where
  to_ : Int
  epoch : Int
  capped : Bool
  deriving Inhabited, DecidableEq
def GNews.c (x : GNews) : List Cell := [vi x.to_, vi x.epoch, vb x.capped]
abbrev sGNews (xs : List GNews) : Cell := slC 3 GNews.c xs

structure GCluster where
  graph : GGraph
  workers : List GWorker
  links : List GLink
  tokens : List GToken
  news : List GNews
  deriving Inhabited, DecidableEq
def GCluster.c (x : GCluster) : List Cell := [sGNode x.graph.nodes, vi x.graph.workers, vi x.graph.cap, sGWorker x.workers, sGLink x.links, sGToken x.tokens, sGNews x.news]
abbrev sGCluster (xs : List GCluster) : Cell := slC 7 GCluster.c xs

structure GPick where
  kind : Int
  a : Int
  b : Int
  deriving Inhabited, DecidableEq
def GPick.c (x : GPick) : List Cell := [vi x.kind, vi x.a, vi x.b]
abbrev sGPick (xs : List GPick) : Cell := slC 3 GPick.c xs

structure GScript where
  graph : GGraph
  inputs : List GRecord
  picks : List GPick
  rounds : Int
  deriving Inhabited, DecidableEq
def GScript.c (x : GScript) : List Cell := [sGNode x.graph.nodes, vi x.graph.workers, vi x.graph.cap, sGRecord x.inputs, sGPick x.picks, vi x.rounds]
abbrev sGScript (xs : List GScript) : Cell := slC 6 GScript.c xs

abbrev sRecords (xs : List (List GRecord)) : Cell := slC 1 (fun r => [sGRecord r]) xs


/-! How large a thing is, as the statements count it; which things come in from outside. -/

def wS {α : Type} (w : α → Nat) (xs : List α) : Nat := xs.length + (xs.map w).sum

def GStamp.ok (x : GStamp) : Prop := inR .i64 x.epoch ∧ inR .i64 x.turn
def GCount.ok (x : GCount) : Prop := x.stamp.ok ∧ inR .i64 x.n
def GRecord.ok (x : GRecord) : Prop := inR .i64 x.op ∧ x.stamp.ok ∧ inR .i64 x.key ∧ inR .i64 x.val
def GLink.w (x : GLink) : Nat := x.queue.length
def GLink.ok (x : GLink) : Prop := inR .i64 x.cap ∧ (x.queue.length ≤ maxLen ∧ ∀ y ∈ x.queue, y.ok) ∧ inR .i64 x.credits ∧ inR .i64 x.back ∧ inR .i64 x.sent ∧ inR .i64 x.got
def GNode.w (x : GNode) : Nat := x.outs.length
def GNode.ok (x : GNode) : Prop := inR .i64 x.kind ∧ inR .i64 x.a ∧ inR .i64 x.b ∧ (x.outs.length ≤ maxLen ∧ ∀ y ∈ x.outs, inR .i64 y)
def GGraph.w (x : GGraph) : Nat := wS GNode.w x.nodes
def GGraph.ok (x : GGraph) : Prop := (x.nodes.length ≤ maxLen ∧ ∀ y ∈ x.nodes, y.ok) ∧ inR .i64 x.workers ∧ inR .i64 x.cap
def GCell.ok (x : GCell) : Prop := inR .i64 x.op ∧ inR .i64 x.epoch ∧ inR .i64 x.key ∧ inR .i64 x.val
def GDone.ok (x : GDone) : Prop := inR .i64 x.epoch
def GWorker.w (x : GWorker) : Nat := x.queue.length + x.staged.length + x.inputs.length + x.cells.length + x.sums.length + x.black.length + x.caps.length + x.dones.length
def GWorker.ok (x : GWorker) : Prop := (x.queue.length ≤ maxLen ∧ ∀ y ∈ x.queue, y.ok) ∧ (x.staged.length ≤ maxLen ∧ ∀ y ∈ x.staged, y.ok) ∧ (x.inputs.length ≤ maxLen ∧ ∀ y ∈ x.inputs, y.ok) ∧ (x.cells.length ≤ maxLen ∧ ∀ y ∈ x.cells, y.ok) ∧ (x.sums.length ≤ maxLen ∧ ∀ y ∈ x.sums, inR .i64 y) ∧ x.black.length ≤ maxLen ∧ x.caps.length ≤ maxLen ∧ (x.dones.length ≤ maxLen ∧ ∀ y ∈ x.dones, y.ok)
def GToken.ok (x : GToken) : Prop := inR .i64 x.at_ ∧ inR .i64 x.sum
def GNews.ok (x : GNews) : Prop := inR .i64 x.to_ ∧ inR .i64 x.epoch
def GCluster.w (x : GCluster) : Nat := x.graph.w + wS GWorker.w x.workers + wS GLink.w x.links + x.tokens.length + x.news.length
def GCluster.ok (x : GCluster) : Prop := x.graph.ok ∧ (x.workers.length ≤ maxLen ∧ ∀ y ∈ x.workers, y.ok) ∧ (x.links.length ≤ maxLen ∧ ∀ y ∈ x.links, y.ok) ∧ (x.tokens.length ≤ maxLen ∧ ∀ y ∈ x.tokens, y.ok) ∧ (x.news.length ≤ maxLen ∧ ∀ y ∈ x.news, y.ok)
def GPick.ok (x : GPick) : Prop := inR .i64 x.kind ∧ inR .i64 x.a ∧ inR .i64 x.b
def GScript.w (x : GScript) : Nat := x.graph.w + x.inputs.length + x.picks.length
def GScript.ok (x : GScript) : Prop := x.graph.ok ∧ (x.inputs.length ≤ maxLen ∧ ∀ y ∈ x.inputs, y.ok) ∧ (x.picks.length ≤ maxLen ∧ ∀ y ∈ x.picks, y.ok) ∧ inR .i64 x.rounds

theorem wS_take {α : Type} [Inhabited α] (w : α → Nat) (xs : List α) (k : Nat) (hk : k < xs.length) : ((xs.take (k + 1)).map w).sum = ((xs.take k).map w).sum + w (xs.getD k default) := by
  rw [List.take_add_one, List.map_append, List.sum_append, List.getElem?_eq_getElem hk]
  simp [List.getD, hk]

theorem wS_take_le {α : Type} [Inhabited α] (w : α → Nat) (xs : List α) (k : Nat) (hk : k < xs.length) : ((xs.take k).map w).sum + w (xs.getD k default) ≤ (xs.map w).sum := by
  rw [← wS_take w xs k hk]
  conv => rhs; rw [← List.take_append_drop (k + 1) xs, List.map_append, List.sum_append]
  omega

theorem wS_all {α : Type} (w : α → Nat) (xs : List α) (k : Nat) (hk : ¬ k < xs.length) : ((xs.take k).map w).sum = (xs.map w).sum := by
  rw [List.take_of_length_le (by omega)]

/-- What the statements' count leaves. -/
def szR (w : Nat) (left : Int) : Int := if (w : Int) ≤ left then left - w else -1

theorem szR_pos {w : Nat} {left : Int} (h : (w : Int) ≤ left) : szR w left = left - w := by simp only [szR]; rw [if_pos h]
theorem szR_neg {w : Nat} {left : Int} (h : ¬ (w : Int) ≤ left) : szR w left = -1 := by simp only [szR]; rw [if_neg h]
theorem szR_lt {w : Nat} {left : Int} (h : szR w left < 0) (_h0 : 0 ≤ left) : ¬ (w : Int) ≤ left := by
  intro h'
  rw [szR_pos h'] at h
  omega
theorem szR_ge {w : Nat} {left : Int} (h : ¬ szR w left < 0) : (w : Int) ≤ left := by
  refine Decidable.byContradiction fun h' => ?_
  rw [szR_neg h'] at h
  omega
theorem wS_eq {α : Type} (w : α → Nat) (xs : List α) : wS w xs = xs.length + (xs.map w).sum := rfl

theorem ba_self (b : ByteArray) : (b == b) = true := by rw [beq_toListBytes]; simp

theorem ba_eq {a b : ByteArray} (h : (a == b) = true) : a = b := by
  rw [beq_toListBytes] at h
  have h := eq_of_beq h
  rw [ByteArray.toList_eq, ByteArray.toList_eq] at h
  obtain ⟨⟨x⟩⟩ := a
  obtain ⟨⟨y⟩⟩ := b
  simp at h
  rw [h]

end Go.Sx

/- What is owned may be described otherwise: an empty slice for nil. -/
namespace Go.Sx
open Go.RowKit (Below)
variable {P : Program} {T : List (TypeId × TI)}

def CastC (c c' : Cell) : Prop := c' = c ∨ (c = .val (.slice none 0 0) ∧ ∃ es row, c' = .sl 0 es row)

def CastL (cs cs' : List Cell) : Prop :=
  match cs, cs' with
  | [], [] => True
  | c :: cs, c' :: cs' => CastC c c' ∧ CastL cs cs'
  | _, _ => False

theorem CastL.get {cs cs' : List Cell} (h : CastL cs cs') : cs'.length = cs.length ∧ ∀ (i : Nat) (c' : Cell), cs'[i]? = some c' → ∃ c, cs[i]? = some c ∧ CastC c c' := by
  induction cs generalizing cs' with
  | nil => cases cs' <;> simp_all [CastL]
  | cons c cs ih =>
    cases cs' with
    | nil => simp [CastL] at h
    | cons c' cs' =>
      obtain ⟨h1, h2⟩ := h
      obtain ⟨g1, g2⟩ := ih h2
      refine ⟨by simp [g1], fun i d hd => ?_⟩
      cases i with
      | zero => simp only [List.getElem?_cons_zero, Option.some.injEq] at hd; subst hd; exact ⟨c, by simp, h1⟩
      | succ i => simpa using g2 i d (by simpa using hd)

theorem CastC.own {w : World} {c c' : Cell} {v : Value} {fp : List Nat} (h : CastC c c') (ho : OwnRep w c v fp) : OwnRep w c' v fp := by
  rcases h with rfl | ⟨rfl, es, row, rfl⟩
  · exact ho
  · cases ho; exact .nil es row

theorem CastC.refl (c : Cell) : CastC c c := .inl rfl
theorem CastC.nil (es : Nat) (row : Nat → List Cell) : CastC (.val (.slice none 0 0)) (.sl 0 es row) := .inr ⟨rfl, es, row, rfl⟩

/-- The same slice, described otherwise. -/
def CastOk (c c' : Cell) : Prop :=
  match c, c' with
  | .sl n es row, .sl n' es' row' => n' = n ∧ es' = es ∧ ∀ i, i < n → CastL (row i) (row' i)
  | _, _ => False

theorem CastOk.own {w : World} {c c' : Cell} {v : Value} {fp : List Nat} (h : CastOk c c') (ho : OwnRep w c v fp) : OwnRep w c' v fp := by
  cases ho with
  | val x hx => cases c' <;> exact h.elim
  | nil es row =>
    cases c' with
    | val => exact h.elim
    | sl n' es' row' =>
      obtain ⟨rfl, rfl, _⟩ := h
      exact .nil _ row'
  | emp es row b0 o0 =>
    cases c' with
    | val => exact h.elim
    | sl n' es' row' =>
      obtain ⟨rfl, rfl, _⟩ := h
      exact .emp _ row' b0 o0
  | sl n es row b off cap ty cells fps hn hc hb hs hl hr =>
    cases c' with
    | val => exact h.elim
    | sl n' es' row' =>
      obtain ⟨rfl, rfl, h⟩ := h
      refine .sl _ _ row' b off cap ty cells fps hn hc hb hs (fun i hi => ?_) (fun i j d hi hd => ?_)
      · rw [(h i hi).get.1]; exact hl i hi
      · obtain ⟨c, h1, h2⟩ := (h i hi).get.2 j d hd
        exact h2.own (hr i j c hi h1)

def setOw (l : List Ow) (k : Nat) (c : Cell) : List Ow :=
  match l with
  | [] => []
  | y :: r => match Nat.beq y.key k with
    | true => ⟨k, c⟩ :: setOw r k c
    | false => y :: setOw r k c

theorem setOw_mem {l : List Ow} {k : Nat} {c : Cell} {y : Ow} (h : y ∈ setOw l k c) : (y.key = k ∧ y.cell = c ∧ ∃ z ∈ l, z.key = k) ∨ (y ∈ l ∧ y.key ≠ k) := by
  induction l with
  | nil => simp [setOw] at h
  | cons x r ih =>
    unfold setOw at h
    split at h
    · rename_i e
      have e := Nat.eq_of_beq_eq_true e
      rcases List.mem_cons.1 h with rfl | h
      · exact .inl ⟨rfl, rfl, x, by simp, e⟩
      · rcases ih h with ⟨h1, h2, z, hz, h3⟩ | ⟨h1, h2⟩
        · exact .inl ⟨h1, h2, z, List.mem_cons_of_mem _ hz, h3⟩
        · exact .inr ⟨List.mem_cons_of_mem _ h1, h2⟩
    · rename_i e
      rcases List.mem_cons.1 h with rfl | h
      · exact .inr ⟨by simp, fun e' => by rw [e', Nat.beq_refl] at e; cases e⟩
      · rcases ih h with ⟨h1, h2, z, hz, h3⟩ | ⟨h1, h2⟩
        · exact .inl ⟨h1, h2, z, List.mem_cons_of_mem _ hz, h3⟩
        · exact .inr ⟨List.mem_cons_of_mem _ h1, h2⟩

theorem setOw_keys (l : List Ow) (k : Nat) (c : Cell) : (setOw l k c).map (·.key) = l.map (·.key) := by
  induction l with
  | nil => rfl
  | cons x r ih =>
    unfold setOw
    split
    · rename_i e
      have e := Nat.eq_of_beq_eq_true e
      simp [ih, e]
    · simp [ih]

theorem setOw_key {l : List Ow} {k : Nat} {c : Cell} {y : Ow} (h : y ∈ setOw l k c) : ∃ z ∈ l, z.key = y.key := by
  rcases setOw_mem h with ⟨h1, _, z, hz, h3⟩ | ⟨h1, _⟩
  · exact ⟨z, hz, h3.trans h1.symm⟩
  · exact ⟨y, h1, rfl⟩

/-- What is owned is described otherwise. -/
theorem castW {B : Base} {Q : Exit → Act → World → Prop} {K : List KI} {s : AS} (k : Nat) (c' : Cell) {c : Cell} (hk : getOwn s.own k = some c) (hc : CastOk c c')
    (h : GW P B Q K { s with own := setOw s.own k c' }) : GW P B Q K s := by
  refine ⟨fun E a w hs => ?_⟩
  have hm := getOwn_mem hk
  have av : ∀ b, ({ s with own := setOw s.own k c' } : AS).avoid E b → s.avoid E b := by
    rintro b (hb | ⟨y, hy, hb⟩)
    · exact .inl hb
    · obtain ⟨z, hz, e⟩ := setOw_key hy
      exact .inr ⟨z, hz, by rw [e]; exact hb⟩
  have mv : ∀ x v, Den E w (s.avoid E) s.next x v → Den E w (({ s with own := setOw s.own k c' } : AS).avoid E) s.next x v := fun x v hx =>
    hx.move (Nat.le_refl _) (fun _ _ => ⟨rfl, rfl⟩) (fun _ _ _ => rfl) (fun b _ hb => av b hb)
  refine h.out E a w ⟨hs.defers, hs.links, hs.size, fun i x hx => mv _ _ (hs.slots i x hx), fun x hx => ?_, hs.boxes2, hs.keys, fun y hy => ?_, by rw [setOw_keys]; exact hs.ownkeys, fun y hy z hz hne => ?_, fun x hx y hy => ?_, hs.one, hs.base, fun b hb => hs.fresh b (av b hb)⟩
  · obtain ⟨h1, vs, ty, h2, h3, h4⟩ := hs.boxes x hx
    exact ⟨h1, vs, ty, h2, h3, fun i y hy => mv _ _ (h4 i y hy)⟩
  · rcases setOw_mem hy with ⟨h1, h2, _⟩ | ⟨h1, _⟩
    · obtain ⟨g1, g2, g3⟩ := hs.own _ hm
      rw [h1, h2]
      exact ⟨g1, hc.own g2, g3⟩
    · exact hs.own y h1
  · obtain ⟨y', hy', e1⟩ := setOw_key hy
    obtain ⟨z', hz', e2⟩ := setOw_key hz
    rw [← e1, ← e2]
    exact hs.sep y' hy' z' hz' (by rw [e1, e2]; exact hne)
  · obtain ⟨y', hy', e1⟩ := setOw_key hy
    rw [← e1]
    exact hs.sepB x hx y' hy'

theorem cast_slC {α : Type} [Inhabited α] {es : Nat} {e : α → List Cell} {row : Nat → List Cell} {xs : List α} (h : ∀ i, i < xs.length → CastL (row i) (e (xs.getD i default))) : CastOk (.sl xs.length es row) (slC es e xs) :=
  ⟨rfl, rfl, h⟩

theorem cast_make {α : Type} [Inhabited α] {es : Nat} {e : α → List Cell} {z : List Cell} (n : Nat) (h : CastL z (e default)) : CastOk (.sl n es fun _ => z) (slC es e (List.replicate n default)) :=
  ⟨List.length_replicate, rfl, fun i hi => by
    have : (List.replicate n (default : α)).getD i default = default := by simp [List.getD, hi]
    show CastL z (e ((List.replicate n default).getD i default))
    rw [this]; exact h⟩

theorem rep_start {α : Type} [Inhabited α] {es : Nat} {e : α → List Cell} (xs : List α) : slC es e (List.replicate xs.length default) = slC es e (xs.take 0 ++ List.replicate (xs.length - 0) default) := by simp

end Go.Sx

/- What came in, as the types that the statements speak of. -/
namespace Go.Sx
open Go.RowKit (Below)
variable {P : Program} {T : List (TypeId × TI)}

/-- Whatever stands for cs stands for cs'. -/
def Wk (cs cs' : List Cell) : Prop := cs'.length = cs.length ∧ ∀ (i : Nat) (c' : Cell), cs'[i]? = some c' → ∃ c, cs[i]? = some c ∧ ∀ w A v, Rep w A c v → Rep w A c' v

theorem Wk.refl (cs : List Cell) : Wk cs cs := ⟨rfl, fun _ c h => ⟨c, h, fun _ _ _ h => h⟩⟩

theorem Wk.append {a a' b b' : List Cell} (h : Wk a a') (k : Wk b b') : Wk (a ++ b) (a' ++ b') := by
  refine ⟨by simp [h.1, k.1], fun i c hc => ?_⟩
  by_cases hi : i < a'.length
  · rw [List.getElem?_append_left hi] at hc
    rw [List.getElem?_append_left (by rw [← h.1]; exact hi)]
    exact h.2 i c hc
  · rw [List.getElem?_append_right (by omega)] at hc
    rw [List.getElem?_append_right (by rw [← h.1]; omega), ← h.1]
    exact k.2 _ c hc

theorem wk_sl {α : Type} [Inhabited α] {es n : Nat} {row : Nat → List Cell} {e : α → List Cell} {ok : α → Prop} (h : ∀ i, i < n → ∃ x, ok x ∧ Wk (row i) (e x)) :
    ∃ xs : List α, xs.length = n ∧ (∀ y ∈ xs, ok y) ∧ Wk [.sl n es row] [slC es e xs] := by
  have hex : ∀ i, ∃ x, i < n → ok x ∧ Wk (row i) (e x) := fun i => by
    by_cases hi : i < n
    · obtain ⟨x, hx⟩ := h i hi; exact ⟨x, fun _ => hx⟩
    · exact ⟨default, fun h => absurd h hi⟩
  let g := fun i => Classical.choose (hex i)
  have hg : ∀ i, i < n → ok (g i) ∧ Wk (row i) (e (g i)) := fun i => Classical.choose_spec (hex i)
  have hget : ∀ i, i < n → ((List.range n).map g).getD i default = g i := fun i hi => by simp [List.getD, hi]
  refine ⟨(List.range n).map g, by simp, fun y hy => ?_, rfl, fun i c hc => ?_⟩
  · obtain ⟨i, hi, rfl⟩ := List.mem_map.1 hy
    exact (hg i (List.mem_range.1 hi)).1
  · cases i with
    | succ i => simp at hc
    | zero =>
      simp only [List.getElem?_cons_zero, Option.some.injEq] at hc
      subst hc
      refine ⟨_, rfl, fun w A v hr => ?_⟩
      have hlen : ((List.range n).map g).length = n := by simp
      unfold slC
      rw [hlen]
      cases hr with
      | nil => exact .nil _ _
      | emp _ _ a => exact .emp _ _ a
      | sl _ _ _ b off cap u hA hn hc hl hu hr =>
        refine .sl n es _ b off cap u hA hn hc (fun i hi => ?_) hu (fun i j c hi hc => ?_)
        · rw [hget i hi, (hg i hi).2.1]; exact hl i hi
        · rw [hget i hi] at hc
          obtain ⟨c0, h1, h2⟩ := (hg i hi).2.2 j c hc
          exact h2 _ _ _ (hr i j c0 hi h1)

theorem Wk.repL {w : World} {xs ys : List Cell} {cs : List Value} (h : Wk xs ys) (hr : RepL w xs cs) : RepL w ys cs := by
  refine ⟨h.1.trans hr.1, fun i c hc => ?_⟩
  obtain ⟨c0, h1, h2⟩ := h.2 i c hc
  exact h2 _ _ _ (hr.2 i c0 h1)

theorem RepL.arg1 {w : World} {c : Cell} {v : Value} (h : RepL w [c] [v]) : RepArg w (fun _ => False) (.one c) v := h.2 0 c rfl

theorem RepL.aggs {w : World} {cs : List Cell} {vs : Array Value} (h : RepL w cs vs.toList) : RepArg w (fun _ => False) (.agg cs) (.agg vs) :=
  ⟨vs.toList, by simp, h.1.symm, h.2⟩

end Go.Sx

/- Marks: what the statements write into a thing, and read back. -/
namespace Go.Sx

def markL {α : Type} (f : α → Int → α) (c : α → Nat) (l : List α) (k : Int) : List α :=
  match l with
  | [] => []
  | x :: r => f x k :: markL f c r (k + c x)

theorem markL_length {α : Type} (f : α → Int → α) (c : α → Nat) (l : List α) (k : Int) : (markL f c l k).length = l.length := by
  induction l generalizing k with
  | nil => rfl
  | cons x r ih => simp [markL, ih]

theorem markL_getD {α : Type} (f : α → Int → α) (c : α → Nat) (l : List α) (k : Int) (j : Nat) (d : α) (h : j < l.length) : (markL f c l k).getD j d = f (l.getD j d) (k + (((l.take j).map c).sum : Nat)) := by
  induction l generalizing k j with
  | nil => simp at h
  | cons x r ih =>
    cases j with
    | zero => simp [markL]
    | succ j =>
      have := ih (k + c x) j (by simpa using h)
      simp only [markL, List.getD_cons_succ, this, List.take_succ_cons, List.map_cons, List.sum_cons]
      congr 1
      omega

theorem markL_append {α : Type} (f : α → Int → α) (c : α → Nat) (l m : List α) (k : Int) : markL f c (l ++ m) k = markL f c l k ++ markL f c m (k + ((l.map c).sum : Nat)) := by
  induction l generalizing k with
  | nil => simp [markL]
  | cons x r ih =>
    simp only [List.cons_append, markL, ih, List.map_cons, List.sum_cons]
    rw [show k + (c x : Int) + ((r.map c).sum : Nat) = k + ((c x + (r.map c).sum : Nat) : Int) by omega]

/-- Marked as far as j. -/
def markJ {α : Type} (f : α → Int → α) (c : α → Nat) (l : List α) (k : Int) (j : Nat) : List α := markL f c (l.take j) k ++ l.drop j

theorem markJ_length {α : Type} (f : α → Int → α) (c : α → Nat) (l : List α) (k : Int) (j : Nat) : (markJ f c l k j).length = l.length := by
  simp only [markJ, List.length_append, markL_length, List.length_take, List.length_drop]
  omega

theorem markJ_end {α : Type} (f : α → Int → α) (c : α → Nat) (l : List α) (k : Int) (j : Nat) (h : ¬ j < l.length) : markJ f c l k j = markL f c l k := by
  simp only [markJ]
  rw [List.take_of_length_le (by omega), List.drop_of_length_le (by omega), List.append_nil]

theorem markJ_get {α : Type} (f : α → Int → α) (c : α → Nat) (l : List α) (k : Int) (j : Nat) (d : α) (h : j < l.length) : (markJ f c l k j).getD j d = l.getD j d := by
  have hl : (markL f c (l.take j) k).length = j := by rw [markL_length, List.length_take]; omega
  simp [markJ, List.getD, List.getElem?_append_right, hl]

theorem markJ_other {α : Type} [Inhabited α] (f : α → Int → α) (c : α → Nat) (l : List α) (k : Int) (j i : Nat) (h : j < l.length) (hi : i ≠ j) : (markJ f c l k (j + 1)).getD i default = (markJ f c l k j).getD i default := by
  have e : l.take (j + 1) = l.take j ++ [l.getD j default] := by rw [List.take_add_one]; simp [List.getD, h]
  have hl : (markL f c (l.take j) k).length = j := by rw [markL_length, List.length_take]; omega
  have hd : l.drop j = l.getD j default :: l.drop (j + 1) := by rw [List.drop_eq_getElem_cons h]; simp [List.getD, h]
  simp only [markJ, e, markL_append, List.append_assoc, hd]
  simp only [List.getD]
  rcases Nat.lt_or_gt_of_ne hi with hi | hi
  · rw [List.getElem?_append_left (by omega), List.getElem?_append_left (by omega)]
  · obtain ⟨m, hm⟩ : ∃ m, i - j = m + 1 := ⟨i - j - 1, by omega⟩
    conv => lhs; rw [List.getElem?_append_right (by omega), hl, hm]
    conv => rhs; rw [List.getElem?_append_right (by omega), hl, hm]
    simp [markL]

theorem markJ_next {α : Type} [Inhabited α] (f : α → Int → α) (c : α → Nat) (l : List α) (k : Int) (j : Nat) (h : j < l.length) : (markJ f c l k (j + 1)).getD j default = f (l.getD j default) (k + (((l.take j).map c).sum : Nat)) := by
  have e : l.take (j + 1) = l.take j ++ [l.getD j default] := by rw [List.take_add_one]; simp [List.getD, h]
  have hl : (markL f c (l.take j) k).length = j := by rw [markL_length, List.length_take]; omega
  simp only [markJ, e, markL_append]
  simp [List.getD, hl, markL]

/-- One element written anew. -/
def updR (row : Nat → List Cell) (j : Nat) (r : List Cell) : Nat → List Cell := fun i => if i = j then r else row i

theorem updR_same (row : Nat → List Cell) (j : Nat) (r : List Cell) : updR row j r j = r := by simp [updR]
theorem updR_other (row : Nat → List Cell) (j i : Nat) (r : List Cell) (h : i ≠ j) : updR row j r i = row i := by simp [updR, h]

theorem updOk_upd {n es : Nat} {row : Nat → List Cell} {j off : Nat} {cs r : List Cell} (h : spliceC (row j) off cs = r) : UpdOk n es row j off cs (.sl n es (updR row j r)) :=
  ⟨_, rfl, fun _ _ hi => updR_other _ _ _ _ hi, by rw [updR_same, h]⟩

theorem CastL.refl (cs : List Cell) : CastL cs cs := by
  induction cs with
  | nil => trivial
  | cons c cs ih => exact ⟨.refl c, ih⟩

/-- The marks of one element, written. -/
theorem mark_cast {α : Type} [Inhabited α] {es : Nat} {e : α → List Cell} {f : α → Int → α} {c : α → Nat} {l : List α} {k : Int} {j : Nat} {row : Nat → List Cell} (h : j < l.length)
    (hr : ∀ i, i ≠ j → row i = e ((markJ f c l k j).getD i default)) (hj : row j = e (f (l.getD j default) (k + (((l.take j).map c).sum : Nat)))) {n : Nat} (hn : n = l.length) :
    CastOk (.sl n es row) (slC es e (markJ f c l k (j + 1))) := by
  subst hn
  refine ⟨markJ_length f c l k (j + 1), rfl, fun i hi => ?_⟩
  by_cases e' : i = j
  · subst e'
    rw [hj, ← markJ_next f c l k i h]
    exact .refl _
  · rw [hr i e', ← markJ_other f c l k j i h e']
    exact .refl _

theorem updOk_upd2 {n es : Nat} {row : Nat → List Cell} {j off : Nat} {cs r r' : List Cell} (h : spliceC r off cs = r') : UpdOk n es (updR row j r) j off cs (.sl n es (updR row j r')) :=
  ⟨_, rfl, fun _ _ hi => by rw [updR_other _ _ _ _ hi, updR_other _ _ _ _ hi], by rw [updR_same, updR_same, h]⟩

theorem hole_eq (row : Nat → List Cell) (j off : Nat) (v : Value) {r : List Cell} (hr : row j = r) : (fun i => if i = j then spliceC (row i) off [.val v] else row i) = updR row j (spliceC r off [.val v]) := by
  funext i
  unfold updR
  by_cases h : i = j
  · subst h; rw [if_pos rfl, if_pos rfl, hr]
  · rw [if_neg h, if_neg h]

theorem updR_twice (row : Nat → List Cell) (j : Nat) (r r' : List Cell) : updR (updR row j r) j r' = updR row j r' := by
  funext i
  unfold updR
  by_cases h : i = j
  · rw [if_pos h, if_pos h]
  · rw [if_neg h, if_neg h, if_neg h]

open Go.RowKit (Below) in
/-- An inner slice is taken out of one that is owned. -/
theorem focusX {P : Program} {T : List (TypeId × TI)} (hT : TblOk P T) {B : Base} {Q : Exit → Act → World → Prop} {q : Bool} {all : Array Oper} {o : Oper} {rest : List Oper} {K : List KI} {s : AS} {x : Operand} {t : TypeId} {i : TI}
    (hg : o.guard = none) (ho : o.op = .load t x) (hi : find T t = some i) (hag : i.agg = false) {k es off n j : Nat} {row : Nat → List Cell}
    (hx : s.ev x = .oel k es (j : Int) off) (hk : getOwn s.own k = some (.sl n es row)) {r : List Cell} (hr : row j = r) {c : Cell} (hc : r[off]? = some c)
    (h : ∀ v, GW P B Q (.ops q all rest :: K) (({ s with own := ⟨s.next, c⟩ :: ⟨k, .sl n es (updR row j (spliceC r off [.val v]))⟩ :: remOs [k] s.own, next := s.next + 1, links := (s.next, v) :: s.links } : AS).put o.dst (.own s.next))) :
    GW P B Q (.ops q all (o :: rest) :: K) s :=
  focusW hT hg ho hi hag hx hk (c := c) (by rw [Int.toNat_natCast, hr]; exact hc) fun v => by
    have := h v
    rw [← hole_eq row j off v hr] at this
    rw [Int.toNat_natCast]
    exact this

/-- The inner slice is put back. -/
theorem unfocusX {P : Program} {B : Base} {Q : Exit → Act → World → Prop} {K : List KI} {s : AS} (k k2 : Nat) {n es : Nat} {row : Nat → List Cell} {j : Nat} (off : Nat) {r : List Cell} {v : Value} {c : Cell} (hk : getOwn s.own k = some (.sl n es (updR row j r)))
    (hj : j < n) (hc : r[off]? = some (.val v)) (h2 : getOwn s.own k2 = some c) (hl : getLink s.links k2 = some v) (hne : Nat.beq k k2 = false) {r' : List Cell} (hr : spliceC r off [c] = r')
    (h : GW P B Q K { s with own := ⟨k, .sl n es (updR row j r')⟩ :: remOs [k, k2] s.own }) : GW P B Q K s :=
  unfocusW k k2 hk hj (off := off) (by rw [updR_same]; exact hc) h2 hl hne _ (updOk_upd2 hr) h

theorem getD_set_self {α : Type} (l : List α) (j : Nat) (x d : α) (h : j < l.length) : (l.set j x).getD j d = x := by simp [List.getD, h]
theorem getD_set_ne {α : Type} (l : List α) (i j : Nat) (x d : α) (h : i ≠ j) : (l.set j x).getD i d = l.getD i d := by simp [List.getD, List.getElem?_set_ne (Ne.symm h)]

theorem slC_set1 {α : Type} [Inhabited α] {es : Nat} {e : α → List Cell} {xs : List α} {j off : Nat} {y x : α} {cs : List Cell} (hj : j < xs.length) (hy : xs.getD j default = y) (h : spliceC (e y) off cs = e x) :
    UpdOk xs.length es (fun i => e (xs.getD i default)) j off cs (slC es e (xs.set j x)) := slC_set hj (by rw [hy]; exact h)

theorem slC_set2 {α : Type} [Inhabited α] {es : Nat} {e : α → List Cell} {xs : List α} {j off : Nat} {x1 x2 : α} {cs : List Cell} (hj : j < xs.length) (h : spliceC (e x1) off cs = e x2) :
    UpdOk (xs.set j x1).length es (fun i => e ((xs.set j x1).getD i default)) j off cs (slC es e (xs.set j x2)) := by
  refine ⟨_, by rw [slC, List.length_set, List.length_set], fun i _ hne => ?_, ?_⟩
  · simp only [getD_set_ne _ _ _ _ _ hne]
  · simp only [getD_set_self _ _ _ _ hj, h]

theorem slC_back1 {α : Type} [Inhabited α] {es : Nat} {e : α → List Cell} {xs : List α} {j off : Nat} {x2 : α} {r cs : List Cell} (hj : j < xs.length) (h : spliceC r off cs = e x2) :
    UpdOk xs.length es (updR (fun i => e (xs.getD i default)) j r) j off cs (slC es e (xs.set j x2)) := by
  refine ⟨_, by rw [slC, List.length_set], fun i _ hne => ?_, ?_⟩
  · simp only [getD_set_ne _ _ _ _ _ hne, updR_other _ _ _ _ hne]
  · simp only [getD_set_self _ _ _ _ hj, updR_same, h]

theorem slC_back2 {α : Type} [Inhabited α] {es : Nat} {e : α → List Cell} {xs : List α} {j off : Nat} {x1 x2 : α} {r cs : List Cell} (hj : j < xs.length) (h : spliceC r off cs = e x2) :
    UpdOk (xs.set j x1).length es (updR (fun i => e ((xs.set j x1).getD i default)) j r) j off cs (slC es e (xs.set j x2)) := by
  refine ⟨_, by rw [slC, List.length_set, List.length_set], fun i _ hne => ?_, ?_⟩
  · simp only [getD_set_ne _ _ _ _ _ hne, updR_other _ _ _ _ hne]
  · simp only [getD_set_self _ _ _ _ hj, updR_same, h]

theorem markJ_set {α : Type} [Inhabited α] (f : α → Int → α) (c : α → Nat) (l : List α) (k : Int) (j : Nat) (h : j < l.length) :
    (markJ f c l k j).set j (f (l.getD j default) (k + (((l.take j).map c).sum : Nat))) = markJ f c l k (j + 1) := by
  apply List.ext_getElem?
  intro i
  have hl := markJ_length f c l k j
  have hl' := markJ_length f c l k (j + 1)
  by_cases hi : i = j
  · subst hi
    have := markJ_next f c l k i h
    rw [List.getElem?_set_self (by omega), ← this]
    simp [List.getD, List.getElem?_eq_getElem (show i < (markJ f c l k (i + 1)).length by omega)]
  · rw [List.getElem?_set_ne (by omega)]
    have := markJ_other f c l k j i h hi
    by_cases hb : i < l.length
    · simp only [List.getD, List.getElem?_eq_getElem (show i < (markJ f c l k (j + 1)).length by omega), List.getElem?_eq_getElem (show i < (markJ f c l k j).length by omega), Option.getD_some] at this
      rw [List.getElem?_eq_getElem (by omega), List.getElem?_eq_getElem (by omega), this]
    · rw [List.getElem?_eq_none (by omega), List.getElem?_eq_none (by omega)]

/-- The inner slice is put back. -/
theorem unfocusY {P : Program} {B : Base} {Q : Exit → Act → World → Prop} {K : List KI} {s : AS} (k k2 : Nat) {n es : Nat} {row : Nat → List Cell} {j : Nat} (off : Nat) {r : List Cell} {v : Value} {c : Cell} (hk : getOwn s.own k = some (.sl n es (updR row j r)))
    (hj : j < n) (hc : r[off]? = some (.val v)) (h2 : getOwn s.own k2 = some c) (hl : getLink s.links k2 = some v) (hne : Nat.beq k k2 = false) {c' : Cell} (hr : UpdOk n es (updR row j r) j off [c] c')
    (h : GW P B Q K { s with own := ⟨k, c'⟩ :: remOs [k, k2] s.own }) : GW P B Q K s :=
  unfocusW k k2 hk hj (off := off) (by rw [updR_same]; exact hc) h2 hl hne _ hr h

theorem len_le_sum {α : Type} (c : α → Nat) (l : List α) (h : ∀ x, 1 ≤ c x) : l.length ≤ (l.map c).sum := by
  induction l with
  | nil => simp
  | cons x r ih => have := h x; simp only [List.length_cons, List.map_cons, List.sum_cons]; omega

end Go.Sx

/- What the statements write into the program's types, and how many marks. -/
namespace Go.Sx

def iMark (_ : Int) (k : Int) : Int := k
def iCnt (_ : Int) : Nat := 1
def bMark (_ : Bool) (k : Int) : Bool := k.tmod 3 == 0
def bCnt (_ : Bool) : Nat := 1
def GStamp.mark (_ : GStamp) (k : Int) : GStamp := ⟨k, k + 1⟩
def GStamp.cnt (_ : GStamp) : Nat := 1 + 1
def GCount.mark (_ : GCount) (k : Int) : GCount := ⟨⟨k, k + 1⟩, k + 1 + 1⟩
def GCount.cnt (_ : GCount) : Nat := 1 + 1 + 1
def GRecord.mark (_ : GRecord) (k : Int) : GRecord := ⟨k, ⟨k + 1, k + 1 + 1⟩, k + 1 + 1 + 1, k + 1 + 1 + 1 + 1⟩
def GRecord.cnt (_ : GRecord) : Nat := 1 + 1 + 1 + 1 + 1
def GLink.mark (x : GLink) (k : Int) : GLink := ⟨k, markL GRecord.mark GRecord.cnt x.queue (k + 1), k + 1 + ((x.queue.map GRecord.cnt).sum : Nat), k + 1 + ((x.queue.map GRecord.cnt).sum : Nat) + 1, k + 1 + ((x.queue.map GRecord.cnt).sum : Nat) + 1 + 1, k + 1 + ((x.queue.map GRecord.cnt).sum : Nat) + 1 + 1 + 1⟩
def GLink.cnt (x : GLink) : Nat := 1 + (x.queue.map GRecord.cnt).sum + 1 + 1 + 1 + 1
def GNode.mark (x : GNode) (k : Int) : GNode := ⟨k, k + 1, k + 1 + 1, markL iMark iCnt x.outs (k + 1 + 1 + 1)⟩
def GNode.cnt (x : GNode) : Nat := 1 + 1 + 1 + (x.outs.map iCnt).sum
def GCell.mark (_ : GCell) (k : Int) : GCell := ⟨k, k + 1, k + 1 + 1, k + 1 + 1 + 1⟩
def GCell.cnt (_ : GCell) : Nat := 1 + 1 + 1 + 1
def GDone.mark (_ : GDone) (k : Int) : GDone := ⟨k, (k + 1).tmod 3 == 0⟩
def GDone.cnt (_ : GDone) : Nat := 1 + 1
def GWorker.mark (x : GWorker) (k : Int) : GWorker := ⟨markL GRecord.mark GRecord.cnt x.queue (k), markL GRecord.mark GRecord.cnt x.staged (k + ((x.queue.map GRecord.cnt).sum : Nat)), markL GRecord.mark GRecord.cnt x.inputs (k + ((x.queue.map GRecord.cnt).sum : Nat) + ((x.staged.map GRecord.cnt).sum : Nat)), markL GCell.mark GCell.cnt x.cells (k + ((x.queue.map GRecord.cnt).sum : Nat) + ((x.staged.map GRecord.cnt).sum : Nat) + ((x.inputs.map GRecord.cnt).sum : Nat)), markL iMark iCnt x.sums (k + ((x.queue.map GRecord.cnt).sum : Nat) + ((x.staged.map GRecord.cnt).sum : Nat) + ((x.inputs.map GRecord.cnt).sum : Nat) + ((x.cells.map GCell.cnt).sum : Nat)), markL bMark bCnt x.black (k + ((x.queue.map GRecord.cnt).sum : Nat) + ((x.staged.map GRecord.cnt).sum : Nat) + ((x.inputs.map GRecord.cnt).sum : Nat) + ((x.cells.map GCell.cnt).sum : Nat) + ((x.sums.map iCnt).sum : Nat)), markL bMark bCnt x.caps (k + ((x.queue.map GRecord.cnt).sum : Nat) + ((x.staged.map GRecord.cnt).sum : Nat) + ((x.inputs.map GRecord.cnt).sum : Nat) + ((x.cells.map GCell.cnt).sum : Nat) + ((x.sums.map iCnt).sum : Nat) + ((x.black.map bCnt).sum : Nat)), markL GDone.mark GDone.cnt x.dones (k + ((x.queue.map GRecord.cnt).sum : Nat) + ((x.staged.map GRecord.cnt).sum : Nat) + ((x.inputs.map GRecord.cnt).sum : Nat) + ((x.cells.map GCell.cnt).sum : Nat) + ((x.sums.map iCnt).sum : Nat) + ((x.black.map bCnt).sum : Nat) + ((x.caps.map bCnt).sum : Nat))⟩
def GWorker.cnt (x : GWorker) : Nat := (x.queue.map GRecord.cnt).sum + (x.staged.map GRecord.cnt).sum + (x.inputs.map GRecord.cnt).sum + (x.cells.map GCell.cnt).sum + (x.sums.map iCnt).sum + (x.black.map bCnt).sum + (x.caps.map bCnt).sum + (x.dones.map GDone.cnt).sum
def GToken.mark (_ : GToken) (k : Int) : GToken := ⟨(k).tmod 3 == 0, k + 1, k + 1 + 1, (k + 1 + 1 + 1).tmod 3 == 0, (k + 1 + 1 + 1 + 1).tmod 3 == 0⟩
def GToken.cnt (_ : GToken) : Nat := 1 + 1 + 1 + 1 + 1
def GNews.mark (_ : GNews) (k : Int) : GNews := ⟨k, k + 1, (k + 1 + 1).tmod 3 == 0⟩
def GNews.cnt (_ : GNews) : Nat := 1 + 1 + 1
def GPick.mark (_ : GPick) (k : Int) : GPick := ⟨k, k + 1, k + 1 + 1⟩
def GPick.cnt (_ : GPick) : Nat := 1 + 1 + 1
def GLink.markV (x : GLink) (k : Int) : GLink := ⟨x.cap, markL GRecord.mark GRecord.cnt x.queue (k), x.credits, x.back, x.sent, x.got⟩
def GLink.cntV (x : GLink) : Nat := (x.queue.map GRecord.cnt).sum
def GNode.markV (x : GNode) (k : Int) : GNode := ⟨x.kind, x.a, x.b, markL iMark iCnt x.outs (k)⟩
def GNode.cntV (x : GNode) : Nat := (x.outs.map iCnt).sum
def GGraph.markV (x : GGraph) (k : Int) : GGraph := ⟨markL GNode.mark GNode.cnt x.nodes (k), x.workers, x.cap⟩
def GGraph.cntV (x : GGraph) : Nat := (x.nodes.map GNode.cnt).sum
def GWorker.markV (x : GWorker) (k : Int) : GWorker := ⟨markL GRecord.mark GRecord.cnt x.queue (k), markL GRecord.mark GRecord.cnt x.staged (k + ((x.queue.map GRecord.cnt).sum : Nat)), markL GRecord.mark GRecord.cnt x.inputs (k + ((x.queue.map GRecord.cnt).sum : Nat) + ((x.staged.map GRecord.cnt).sum : Nat)), markL GCell.mark GCell.cnt x.cells (k + ((x.queue.map GRecord.cnt).sum : Nat) + ((x.staged.map GRecord.cnt).sum : Nat) + ((x.inputs.map GRecord.cnt).sum : Nat)), markL iMark iCnt x.sums (k + ((x.queue.map GRecord.cnt).sum : Nat) + ((x.staged.map GRecord.cnt).sum : Nat) + ((x.inputs.map GRecord.cnt).sum : Nat) + ((x.cells.map GCell.cnt).sum : Nat)), markL bMark bCnt x.black (k + ((x.queue.map GRecord.cnt).sum : Nat) + ((x.staged.map GRecord.cnt).sum : Nat) + ((x.inputs.map GRecord.cnt).sum : Nat) + ((x.cells.map GCell.cnt).sum : Nat) + ((x.sums.map iCnt).sum : Nat)), markL bMark bCnt x.caps (k + ((x.queue.map GRecord.cnt).sum : Nat) + ((x.staged.map GRecord.cnt).sum : Nat) + ((x.inputs.map GRecord.cnt).sum : Nat) + ((x.cells.map GCell.cnt).sum : Nat) + ((x.sums.map iCnt).sum : Nat) + ((x.black.map bCnt).sum : Nat)), markL GDone.mark GDone.cnt x.dones (k + ((x.queue.map GRecord.cnt).sum : Nat) + ((x.staged.map GRecord.cnt).sum : Nat) + ((x.inputs.map GRecord.cnt).sum : Nat) + ((x.cells.map GCell.cnt).sum : Nat) + ((x.sums.map iCnt).sum : Nat) + ((x.black.map bCnt).sum : Nat) + ((x.caps.map bCnt).sum : Nat))⟩
def GWorker.cntV (x : GWorker) : Nat := (x.queue.map GRecord.cnt).sum + (x.staged.map GRecord.cnt).sum + (x.inputs.map GRecord.cnt).sum + (x.cells.map GCell.cnt).sum + (x.sums.map iCnt).sum + (x.black.map bCnt).sum + (x.caps.map bCnt).sum + (x.dones.map GDone.cnt).sum
def GCluster.markV (x : GCluster) (k : Int) : GCluster := ⟨x.graph.markV (k), markL GWorker.mark GWorker.cnt x.workers (k + (x.graph.cntV : Nat)), markL GLink.mark GLink.cnt x.links (k + (x.graph.cntV : Nat) + ((x.workers.map GWorker.cnt).sum : Nat)), markL GToken.mark GToken.cnt x.tokens (k + (x.graph.cntV : Nat) + ((x.workers.map GWorker.cnt).sum : Nat) + ((x.links.map GLink.cnt).sum : Nat)), markL GNews.mark GNews.cnt x.news (k + (x.graph.cntV : Nat) + ((x.workers.map GWorker.cnt).sum : Nat) + ((x.links.map GLink.cnt).sum : Nat) + ((x.tokens.map GToken.cnt).sum : Nat))⟩
def GCluster.cntV (x : GCluster) : Nat := x.graph.cntV + (x.workers.map GWorker.cnt).sum + (x.links.map GLink.cnt).sum + (x.tokens.map GToken.cnt).sum + (x.news.map GNews.cnt).sum
def GScript.markV (x : GScript) (k : Int) : GScript := ⟨x.graph.markV (k), markL GRecord.mark GRecord.cnt x.inputs (k + (x.graph.cntV : Nat)), markL GPick.mark GPick.cnt x.picks (k + (x.graph.cntV : Nat) + ((x.inputs.map GRecord.cnt).sum : Nat)), x.rounds⟩
def GScript.cntV (x : GScript) : Nat := x.graph.cntV + (x.inputs.map GRecord.cnt).sum + (x.picks.map GPick.cnt).sum

theorem sum_le_of {α : Type} (c w : α → Nat) (l : List α) (h : ∀ x, c x ≤ 5 + 5 * w x) : (l.map c).sum ≤ 5 * (l.length + (l.map w).sum) := by
  induction l with
  | nil => simp
  | cons x r ih => have := h x; simp only [List.map_cons, List.sum_cons, List.length_cons]; omega
theorem sum_le_flat {α : Type} (c : α → Nat) (l : List α) (h : ∀ x, c x ≤ 5) : (l.map c).sum ≤ 5 * l.length := by
  induction l with
  | nil => simp
  | cons x r ih => have := h x; simp only [List.map_cons, List.sum_cons, List.length_cons]; omega
theorem iSum_le (l : List Int) : (l.map iCnt).sum ≤ 5 * l.length := sum_le_flat _ _ fun _ => by simp only [iCnt]; omega
theorem bSum_le (l : List Bool) : (l.map bCnt).sum ≤ 5 * l.length := sum_le_flat _ _ fun _ => by simp only [bCnt]; omega
theorem GStamp.sum_le (l : List GStamp) : (l.map GStamp.cnt).sum ≤ 5 * l.length := sum_le_flat _ _ fun _ => by simp only [GStamp.cnt]; omega
theorem GCount.sum_le (l : List GCount) : (l.map GCount.cnt).sum ≤ 5 * l.length := sum_le_flat _ _ fun _ => by simp only [GCount.cnt]; omega
theorem GRecord.sum_le (l : List GRecord) : (l.map GRecord.cnt).sum ≤ 5 * l.length := sum_le_flat _ _ fun _ => by simp only [GRecord.cnt]; omega
theorem GLink.sum_le (l : List GLink) : (l.map GLink.cnt).sum ≤ 5 * wS GLink.w l := sum_le_of _ _ _ fun x => by
  have h0 := GRecord.sum_le x.queue
  simp only [GLink.cnt, GLink.w]; omega
theorem GLink.cntV_le (x : GLink) : x.cntV ≤ 5 * x.w := by
  have h1 := GRecord.sum_le x.queue
  simp only [GLink.cntV, GLink.w]; omega
theorem GNode.sum_le (l : List GNode) : (l.map GNode.cnt).sum ≤ 5 * wS GNode.w l := sum_le_of _ _ _ fun x => by
  have h0 := iSum_le x.outs
  simp only [GNode.cnt, GNode.w]; omega
theorem GNode.cntV_le (x : GNode) : x.cntV ≤ 5 * x.w := by
  have h3 := iSum_le x.outs
  simp only [GNode.cntV, GNode.w]; omega
theorem GGraph.cntV_le (x : GGraph) : x.cntV ≤ 5 * x.w := by
  have h0 := GNode.sum_le x.nodes
  simp only [GGraph.cntV, GGraph.w]; omega
theorem GCell.sum_le (l : List GCell) : (l.map GCell.cnt).sum ≤ 5 * l.length := sum_le_flat _ _ fun _ => by simp only [GCell.cnt]; omega
theorem GDone.sum_le (l : List GDone) : (l.map GDone.cnt).sum ≤ 5 * l.length := sum_le_flat _ _ fun _ => by simp only [GDone.cnt]; omega
theorem GWorker.sum_le (l : List GWorker) : (l.map GWorker.cnt).sum ≤ 5 * wS GWorker.w l := sum_le_of _ _ _ fun x => by
  have h0 := GRecord.sum_le x.queue
  have h1 := GRecord.sum_le x.staged
  have h2 := GRecord.sum_le x.inputs
  have h3 := GCell.sum_le x.cells
  have h4 := iSum_le x.sums
  have h5 := bSum_le x.black
  have h6 := bSum_le x.caps
  have h7 := GDone.sum_le x.dones
  simp only [GWorker.cnt, GWorker.w]; omega
theorem GWorker.cntV_le (x : GWorker) : x.cntV ≤ 5 * x.w := by
  have h0 := GRecord.sum_le x.queue
  have h1 := GRecord.sum_le x.staged
  have h2 := GRecord.sum_le x.inputs
  have h3 := GCell.sum_le x.cells
  have h4 := iSum_le x.sums
  have h5 := bSum_le x.black
  have h6 := bSum_le x.caps
  have h7 := GDone.sum_le x.dones
  simp only [GWorker.cntV, GWorker.w]; omega
theorem GToken.sum_le (l : List GToken) : (l.map GToken.cnt).sum ≤ 5 * l.length := sum_le_flat _ _ fun _ => by simp only [GToken.cnt]; omega
theorem GNews.sum_le (l : List GNews) : (l.map GNews.cnt).sum ≤ 5 * l.length := sum_le_flat _ _ fun _ => by simp only [GNews.cnt]; omega
theorem GCluster.cntV_le (x : GCluster) : x.cntV ≤ 5 * x.w := by
  have h0 := x.graph.cntV_le
  have h1 := GWorker.sum_le x.workers
  have h2 := GLink.sum_le x.links
  have h3 := GToken.sum_le x.tokens
  have h4 := GNews.sum_le x.news
  simp only [GCluster.cntV, GCluster.w]; omega
theorem GPick.sum_le (l : List GPick) : (l.map GPick.cnt).sum ≤ 5 * l.length := sum_le_flat _ _ fun _ => by simp only [GPick.cnt]; omega
theorem GScript.cntV_le (x : GScript) : x.cntV ≤ 5 * x.w := by
  have h0 := x.graph.cntV_le
  have h1 := GRecord.sum_le x.inputs
  have h2 := GPick.sum_le x.picks
  simp only [GScript.cntV, GScript.w]; omega

end Go.Sx

/- Lists, as far as a loop has come. -/
namespace Go.Sx

theorem take_snoc {α : Type} [Inhabited α] (xs : List α) (k : Nat) (h : k < xs.length) : xs.take (k + 1) = xs.take k ++ [xs.getD k default] := by
  rw [List.take_add_one]; simp [List.getD, h]

theorem filter_take {α : Type} [Inhabited α] (p : α → Bool) (xs : List α) (k : Nat) (h : k < xs.length) :
    (xs.take (k + 1)).filter p = (xs.take k).filter p ++ (if p (xs.getD k default) = true then [xs.getD k default] else []) := by
  rw [take_snoc xs k h, List.filter_append]
  congr 1
  by_cases hp : p (xs.getD k default) = true
  · rw [if_pos hp, List.filter_cons_of_pos hp, List.filter_nil]
  · rw [if_neg hp, List.filter_cons_of_neg hp, List.filter_nil]

theorem filter_take_len {α : Type} (p : α → Bool) (xs : List α) (k : Nat) : ((xs.take k).filter p).length ≤ xs.length := by
  have h1 := List.length_filter_le p (xs.take k)
  have h2 := List.length_take_le k xs
  have h3 := List.length_take_le' k xs
  omega

theorem foldl_take {α β : Type} [Inhabited α] (f : β → α → β) (z : β) (xs : List α) (k : Nat) (h : k < xs.length) :
    (xs.take (k + 1)).foldl f z = f ((xs.take k).foldl f z) (xs.getD k default) := by
  rw [take_snoc xs k h, List.foldl_append]; rfl

theorem map_take {α β : Type} [Inhabited α] (f : α → β) (xs : List α) (k : Nat) (h : k < xs.length) :
    (xs.take (k + 1)).map f = (xs.take k).map f ++ [f (xs.getD k default)] := by
  rw [take_snoc xs k h, List.map_append]; rfl

theorem flatMap_take {α β : Type} [Inhabited α] (f : α → List β) (xs : List α) (k : Nat) (h : k < xs.length) :
    (xs.take (k + 1)).flatMap f = (xs.take k).flatMap f ++ f (xs.getD k default) := by
  rw [take_snoc xs k h, List.flatMap_append]; simp

theorem any_take {α : Type} [Inhabited α] (p : α → Bool) (xs : List α) (k : Nat) (h : k < xs.length) :
    (xs.take (k + 1)).any p = ((xs.take k).any p || p (xs.getD k default)) := by
  rw [take_snoc xs k h, List.any_append]; simp

theorem all_take {α : Type} [Inhabited α] (p : α → Bool) (xs : List α) (k : Nat) (h : k < xs.length) :
    (xs.take (k + 1)).all p = ((xs.take k).all p && p (xs.getD k default)) := by
  rw [take_snoc xs k h, List.all_append]; simp

theorem getD_mem {α : Type} {d : α} {xs : List α} {k : Nat} (h : k < xs.length) : xs.getD k d ∈ xs := by
  rw [List.getD, List.getElem?_eq_getElem h]; exact List.getElem_mem h

theorem any_of_getD {α : Type} [Inhabited α] {p : α → Bool} {xs : List α} {k : Nat} (h : k < xs.length) (hp : p (xs.getD k default) = true) : xs.any p = true :=
  List.any_eq_true.2 ⟨_, getD_mem h, hp⟩

theorem all_of_getD {α : Type} [Inhabited α] {p : α → Bool} {xs : List α} {k : Nat} (h : k < xs.length) (hp : p (xs.getD k default) = false) : xs.all p = false := by
  rw [List.all_eq_false]; exact ⟨xs.getD k default, getD_mem h, by rw [hp]; decide⟩

theorem take_all {α : Type} (xs : List α) (k : Nat) (h : ¬ k < xs.length) : xs.take k = xs := List.take_of_length_le (by omega)

theorem nil_cast {α : Type} [Inhabited α] {es : Nat} {e : α → List Cell} {row : Nat → List Cell} : CastOk (.sl 0 es row) (slC es e ([] : List α)) := ⟨rfl, rfl, fun _ h => nomatch h⟩

theorem ite_t {b : Bool} {p q : Prop} (hb : b = true) (h : p) : (b = true → p) ∧ (b = false → q) := ⟨fun _ => h, fun e => by rw [hb] at e; cases e⟩
theorem ite_f {b : Bool} {p q : Prop} (hb : b = false) (h : q) : (b = true → p) ∧ (b = false → q) := ⟨fun e => (by rw [hb] at e; cases e), fun _ => h⟩

end Go.Sx

/- Slices built of what is owned; nil in a box taken for an empty slice. -/
namespace Go.Sx
open Go.RowKit (Below)
variable {P : Program} {T : List (TypeId × TI)}

theorem ownCs_allCell (own : List Ow) : ∀ (l : List AV) cs ks, ownCs own l = some (cs, ks) → allCell l = true := by
  intro l
  induction l with
  | nil => intros; rfl
  | cons z l ih =>
    intro cs ks hc
    unfold ownCs at hc
    split at hc
    · rename_i heq; simp at heq
    · rename_i v' r heq
      simp only [List.cons.injEq] at heq
      obtain ⟨rfl, rfl⟩ := heq
      split at hc
      · rename_i hr; simpa [allCell, AV.cellLike] using ih _ _ hr
      · simp at hc
    · rename_i k' r heq
      simp only [List.cons.injEq] at heq
      obtain ⟨rfl, rfl⟩ := heq
      split at hc
      · rename_i hr; simpa [allCell, AV.cellLike] using ih _ _ hr
      · simp at hc
    · simp at hc

theorem build_rule (hT : TblOk P T) {B : Base} {Q : Exit → Act → World → Prop} {q : Bool} {all : Array Oper} {o : Oper} {rest : List Oper} {K : List KI} {s : AS} {t e : TypeId} {len : Nat} {parts : Array (Nat × Operand)} {i j : TI}
    (hg : o.guard = none) (ho : o.op = .buildSlice t len parts) (hi : find T t = some i) (hie : i.elem = some e) (hj : find T e = some j) (hsm : (Nat.ble (len * j.size) 10000 && Nat.blt 0 j.size) = true)
    {l : List AV} (hcs : fillAV T (seqFields len 0 j.size e) s parts.toList (repL len (zeroAV j)) = some l) {cs : List Cell} {ks : List Nat} (hc : ownCs s.own l = some (cs, ks)) (hkd : noDup ks = true)
    (h : G P B Q (.ops q all rest :: K) (({ s with own := ⟨s.next, .sl len j.size fun i => (cs.drop (i * j.size)).take j.size⟩ :: remOs ks s.own, next := s.next + 1 } : AS).put o.dst (.own s.next))) : G P B Q (.ops q all (o :: rest) :: K) s := by
  refine G_ops_val hg (by rw [ho]; simp [kindOp]) (fun E a w hs => ?_)
  obtain ⟨f, d, z, S⟩ := TI.of_spec (hT e j hj)
  have hzs : z.cells.size = j.size := by have := S.zlen; rw [← S.cells] at this; simpa using this
  simp only [Bool.and_eq_true] at hsm
  have hpos := blt_spec hsm.2
  have hsmall := Nat.le_of_ble_eq_true hsm.1
  have hlen : len ≤ len * j.size := Nat.le_mul_of_pos_right _ hpos
  have hz0 : DL E w (s.avoid E) s.next (repL len (zeroAV j)) ((Array.range (len * j.size)).map (z.cells[· % z.cells.size]!)) := by
    refine ⟨by simp [repL_length, zeroAV, S.zlen], fun k y hy => ?_⟩
    have hzl : (zeroAV j).length = j.size := by simp [zeroAV, S.zlen]
    have hk : k < len * j.size := by have := (List.getElem?_eq_some_iff.1 hy).1; rwa [repL_length, hzl] at this
    rw [repL_get _ _ _ (by rw [hzl]; exact hk), hzl] at hy
    have := (zero_DL (hT e j hj) S.cells E w (s.avoid E) s.next).2 _ _ hy
    have hm : k % j.size < z.cells.size := by rw [hzs]; exact Nat.mod_lt _ (Nat.pos_of_ne_zero (fun h => by rw [h] at hk; simp at hk))
    have e1 : ((Array.range (len * j.size)).map (z.cells[· % z.cells.size]!)).getD k undef = z.cells.getD (k % j.size) undef := by
      have := madeCells_getD z.cells (len * j.size) k hk
      rw [show (Array.range (len * j.size)).map (z.cells[· % z.cells.size]!) = madeCells z.cells (len * j.size) from rfl, this, hzs]
      rw [getElem!_pos z.cells _ hm]
      simp only [Array.getD, hm, dif_pos]
      rfl
    rw [e1]
    exact this
  obtain ⟨cs', hfill, hDL⟩ := fill_ok hT hs (seqFields len 0 j.size e) (fun k => some (k * j.size, j.size)) (fun k o u hk j' hj' => by
    obtain ⟨rfl, rfl⟩ := seqFields_get _ _ _ _ _ _ _ hk
    rw [hj] at hj'
    obtain rfl := Option.some.inj hj'
    simp) parts.toList _ _ l hcs hz0
  have hll : l.length = len * j.size := by
    have := fillAV_length hcs
    rw [this, repL_length]
    simp [zeroAV, S.zlen]
  have hcsl : cs'.size = len * j.size := by have := hDL.1; omega
  have hrun : (Instr.buildSlice t len (parts.map fun p => (p.1, a.eval p.2))).run P w = .ok (.slice (some ⟨w.heap.size, 0, none⟩) len len) (w.alloc (.cells cs' e)) := by
    have hnot : ¬ (16777216 < len * j.size) := by omega
    have hfill' : Instr.fill (fun k => some (k * j.size, j.size)) ((Array.range (len * j.size)).map (z.cells[· % z.cells.size]!)) (parts.map fun p => (p.1, a.eval p.2)).toList = some cs' := by
      rw [Array.toList_map]; exact hfill
    by_cases h0 : len * j.size = 0
    · simp [Instr.buildSlice, run_underlying (run_elem_ti (hT t i hi) hie), run_sizeOf_ti (hT e j hj), h0, newRow, Array.range_zero']
      simp [h0, Array.range_zero'] at hfill'
      rw [hfill']
      simp
    · simp [Instr.buildSlice, run_underlying (run_elem_ti (hT t i hi) hie), run_sizeOf_ti (hT e j hj), hnot, h0, newRow, zeroValue, typeInfo, S.hf, S.hz]
      simp at hfill'
      rw [hfill']
      simp
  have hnd := noDup_spec hkd
  obtain ⟨q1, q2, gps, q3, q4, q5⟩ := ownCs_spec hs hc hnd (vs := cs'.toList) (by simp only [Array.length_toList]; omega) (fun m z hz => by rw [getD_toList]; exact hDL.2 m z hz)
  have hcl : cs.length = len * j.size := by omega
  have hbel := below_alloc w (.cells cs' e)
  have hlt : ∀ b ∈ (List.range cs.length).flatMap gps, b < w.heap.size := by
    intro b hb
    obtain ⟨k, hk, hb1⟩ := List.mem_flatMap.1 (q5 b hb)
    obtain ⟨y, hy, rfl⟩ := q2 k hk
    exact (hs.own y hy).2.1.lt b hb1
  have hown := OwnRep.sl (w := w.alloc (.cells cs' e)) len j.size (fun i => (cs.drop (i * j.size)).take j.size) w.heap.size 0 len e cs' gps
    (Nat.le_refl _) (by simp only [maxLen]; omega) (heap_alloc_new w _) (by simp [hcsl]) (fun k hk => by
      have h2 : k * j.size + j.size ≤ len * j.size := by rw [← Nat.succ_mul]; exact Nat.mul_le_mul_right _ hk
      simp [hcl]; omega) (fun k m c hk hc' => by
      have hm : m < j.size := by have := (List.getElem?_eq_some_iff.1 hc').1; simp at this; omega
      rw [List.getElem?_take, if_pos hm, List.getElem?_drop] at hc'
      have ho := q3 _ _ hc'
      rw [getD_toList] at ho
      rw [show (0 + k) * j.size + m = k * j.size + m by rw [Nat.zero_add]]
      refine ho.move (fun b hb => ?_)
      have hkl : k * j.size + m < cs.length := (List.getElem?_eq_some_iff.1 hc').1
      exact heap_alloc_lt w _ _ (hlt b (List.mem_flatMap.2 ⟨_, List.mem_range.2 hkl, hb⟩)))
  rw [← hcl] at hown
  have hfp : (w.heap.size :: (List.range cs.length).flatMap gps).Nodup := List.nodup_cons.2 ⟨fun hm => Nat.lt_irrefl _ (hlt _ hm), q4⟩
  have hI := hs.drop ks
  have key : ∀ b, b ∈ (List.range cs.length).flatMap gps → s.avoid E b ∧ ¬ ({ s with own := remOs ks s.own } : AS).avoid E b := by
    intro b hb
    obtain ⟨k, hk1, hb1⟩ := List.mem_flatMap.1 (q5 b hb)
    obtain ⟨y, hy, rfl⟩ := q2 k hk1
    refine ⟨.inr ⟨y, hy, hb1⟩, ?_⟩
    rintro (⟨u, hu, rfl⟩ | ⟨u, hu, hb'⟩)
    · exact hs.sepB u hu y hy hb1
    · obtain ⟨hz1, hz2⟩ := remOs_mem.1 hu
      exact hs.sep y hy u hz1 (fun e => hz2 (e ▸ hk1)) b hb1 hb'
  have hkept : Kept (fun _ => False) w (w.alloc (.cells cs' e)) := ⟨rfl, rfl, rfl, by simp, fun k hk _ => heap_alloc_lt w _ _ hk⟩
  have hI2 := hI.kept hkept (fun b hb => hb.elim)
  obtain ⟨k1, k2⟩ := hI2.addOwn hown hfp (fun b hb => by
    rcases List.mem_cons.1 hb with rfl | hb
    · refine ⟨.inr (Nat.le_refl _), fun hav => ?_, .inl hs.base.size⟩
      have := hs.avoid_lt (hI.sub _ hav)
      omega
    · exact ⟨.inl (key b hb).1, (key b hb).2, hs.fresh b (key b hb).1⟩)
  have hput := (k1.put o.dst k2).is
  refine ⟨_, _, .inl (by
    obtain ⟨dst, op', ty', pos, after, guard⟩ := o
    simp only at ho
    subst ho
    simp only [execOp, Sem.run_bind, hrun, Result.andThen_ok]; rfl), fun hk => (by
      exact ⟨by simp, fun k hk => heap_alloc_lt w _ _ hk⟩), h _ _ _ (by simpa [AS.addOwn] using hput)⟩

theorem buildW (hT : TblOk P T) {B : Base} {Q : Exit → Act → World → Prop} {q : Bool} {all : Array Oper} {o : Oper} {rest : List Oper} {K : List KI} {s : AS} {t e : TypeId} {len : Nat} {parts : Array (Nat × Operand)} {i j : TI}
    (hg : o.guard = none) (ho : o.op = .buildSlice t len parts) (hi : find T t = some i) (hie : i.elem = some e) (hj : find T e = some j) (hsm : (Nat.ble (len * j.size) 10000 && Nat.blt 0 j.size) = true)
    {l : List AV} (hcs : fillAV T (seqFields len 0 j.size e) s parts.toList (repL len (zeroAV j)) = some l) {cs : List Cell} {ks : List Nat} (hc : ownCs s.own l = some (cs, ks)) (hkd : noDup ks = true)
    (h : GW P B Q (.ops q all rest :: K) (({ s with own := ⟨s.next, .sl len j.size fun i => (cs.drop (i * j.size)).take j.size⟩ :: remOs ks s.own, next := s.next + 1 } : AS).put o.dst (.own s.next))) : GW P B Q (.ops q all (o :: rest) :: K) s :=
  ⟨build_rule hT hg ho hi hie hj hsm hcs hc hkd (h.rec id)⟩

/-- A box's cells are described otherwise. -/
theorem AS.is.reBox {s : AS} {B : Base} {E : Env} {a : Act} {w : World} (h : s.is B E a w) {k : Nat} {b : Bx} (hb : getBx s.boxes k = some b) (cells : List AV)
    (hd : ∀ vs : Array Value, vs.size = b.cells.length → (∀ i y, b.cells[i]? = some y → Den E w (s.avoid E) s.next y (vs.getD i undef)) → vs.size = cells.length ∧ ∀ j y, cells[j]? = some y → Den E w (s.avoid E) s.next y (vs.getD j undef)) :
    ({ s with boxes := setBx s.boxes k cells } : AS).is B E a w := by
  obtain ⟨hm, rfl⟩ := getBx_mem hb
  have av : ∀ c, ({ s with boxes := setBx s.boxes b.key cells } : AS).avoid E c ↔ s.avoid E c := by
    intro c
    constructor
    · rintro (⟨x, hx, rfl⟩ | h)
      · rcases setBx_mem hx h.keys with ⟨h1, _, y, hy, h2⟩ | ⟨h1, _⟩
        · exact .inl ⟨y, hy, by rw [h1, h2]⟩
        · exact .inl ⟨x, h1, rfl⟩
      · exact .inr h
    · rintro (⟨x, hx, rfl⟩ | h)
      · obtain ⟨y, hy, e⟩ := setBx_has (k := b.key) (cs := cells) hx
        exact .inl ⟨y, hy, by rw [e]⟩
      · exact .inr h
  have mv : ∀ x v, Den E w (s.avoid E) s.next x v → Den E w (({ s with boxes := setBx s.boxes b.key cells } : AS).avoid E) s.next x v :=
    fun x v hx => hx.move (Nat.le_refl _) (fun _ _ => ⟨rfl, rfl⟩) (fun _ _ _ => rfl) (fun c _ hc => (av c).1 hc)
  refine ⟨h.defers, h.links, h.size, fun i x hx => mv _ _ (h.slots i x hx), ?_, ?_, ?_, h.own, h.ownkeys, h.sep, ?_, h.one, h.base, fun c hc => h.fresh c ((av c).1 hc)⟩
  · intro x hx
    rcases setBx_mem hx h.keys with ⟨h1, h2, _⟩ | ⟨h1, _⟩
    · obtain ⟨g1, vs, ty, g2, g3, g4⟩ := h.boxes b hm
      obtain ⟨e1, e2⟩ := hd vs g3 g4
      exact ⟨h1 ▸ g1, vs, ty, by rw [h1]; exact g2, by rw [h2]; exact e1, fun j y hj => mv _ _ (e2 j y (by rw [← h2]; exact hj))⟩
    · obtain ⟨g1, vs, ty, g2, g3, g4⟩ := h.boxes x h1
      exact ⟨g1, vs, ty, g2, g3, fun j y hj => mv _ _ (g4 j y hj)⟩
  · intro x hx y hy he
    rcases setBx_mem hx h.keys with ⟨h1, _⟩ | ⟨h1, _⟩ <;> rcases setBx_mem hy h.keys with ⟨g1, _⟩ | ⟨g1, _⟩
    · rw [h1, g1]
    · rw [h1] at he ⊢
      exact h.boxes2 b hm y g1 he
    · rw [g1] at he ⊢
      exact h.boxes2 x h1 b hm he
    · exact h.boxes2 x h1 y g1 he
  · show ((setBx s.boxes b.key cells).map (·.key)).Nodup
    rw [setBx_keys]
    exact h.keys
  · intro x hx y hy
    rcases setBx_mem hx h.keys with ⟨h1, _⟩ | ⟨h1, _⟩
    · rw [h1]; exact h.sepB b hm y hy
    · exact h.sepB x h1 y hy

/-- The nil slice in a box is taken for an empty slice of one's own. -/
theorem nilB {B : Base} {Q : Exit → Act → World → Prop} {K : List KI} {s : AS} (k off es : Nat) (row : Nat → List Cell) {b : Bx} (hb : getBx s.boxes k = some b) (hi : nth b.cells off = .c (.val (.slice none 0 0)))
    (h : GW P B Q K { s with boxes := setBx s.boxes k (setNth b.cells off (.own s.next)), own := ⟨s.next, .sl 0 es row⟩ :: s.own, next := s.next + 1 }) : GW P B Q K s := by
  refine ⟨fun E a w hs => ?_⟩
  have hI : s.isA B E (s.avoid E) a w := ⟨hs.defers, hs.links, hs.size, hs.slots, hs.boxes, hs.boxes2, hs.keys, hs.own, hs.ownkeys, hs.sep, hs.sepB, hs.one, hs.base, hs.fresh, fun _ h => h⟩
  obtain ⟨k1, k2⟩ := hI.addOwn (.nil es row) (by simp) (by simp)
  have k3 := k1.is
  have k4 := k3.reBox (k := k) (b := b) hb (setNth b.cells off (.own s.next)) (fun vs h1 h2 => by
    refine ⟨by rw [setNth_length]; exact h1, fun j y hj => ?_⟩
    rw [setNth_get] at hj
    split at hj
    · rename_i hm
      obtain ⟨rfl, hm⟩ := hm
      obtain rfl := Option.some.inj hj
      have hd := h2 off (.c (.val (.slice none 0 0))) (by rw [nth_get, List.getElem?_eq_getElem hm] at hi; rw [List.getElem?_eq_getElem hm]; simpa using hi)
      rw [den_int hd]
      exact k2.move (Nat.le_refl _) (fun _ _ => ⟨rfl, rfl⟩) (fun _ _ _ => rfl) (fun b _ hb => k1.sub b hb)
    · exact h2 j y hj)
  exact h.out _ _ _ k4

theorem drawO (hm : P.follows .mixedOrders = true) {B : Base} {Q : Exit → Act → World → Prop} {id : Nat} {ops : Array Oper} {K : List KI} {s : AS} (hB : mixB ops (List.range ops.size) = true)
    (h : GW P B Q (.ops true ops (mixOps ops (List.range ops.size)) :: K) s) : GW P B Q (.code (.region id ops true) :: K) s := drawW hm _ hB h

theorem drawI (id : Nat) (hm : P.follows .mixedOrders = true) {B : Base} {Q : Exit → Act → World → Prop} {ops : Array Oper} {K : List KI} {s : AS} (ord : List Nat) (hB : mixB ops ord = true)
    (h : GW P B Q (.ops true ops (mixOps ops ord) :: K) s) : GW P B Q (.code (.region id ops true) :: K) s := drawW hm ord hB h

theorem nil_app {α : Type} [Inhabited α] {es : Nat} {e : α → List Cell} {row1 : Nat → List Cell} {xs : List α} : AppOk 0 xs.length es row1 (fun i => e (xs.getD i default)) (slC es e xs) :=
  ⟨_, by rw [slC, Nat.zero_add], fun i hi => by omega, fun i hi => by simp⟩

theorem flat_of {α : Type} [Inhabited α] {e : α → List Cell} (xs : List α) (h : ∀ x, ∀ c ∈ e x, ∃ v, c = .val v) : FlatRows xs.length (fun i => e (xs.getD i default)) := fun _ _ => h _
theorem flat_ints (xs : List Int) : FlatRows xs.length (fun i => [vi (xs.getD i default)]) := flat_of (e := fun n => [vi n]) xs fun _x _c hc => ⟨_, List.mem_singleton.1 hc⟩
theorem flat_bools (xs : List Bool) : FlatRows xs.length (fun i => [vb (xs.getD i default)]) := flat_of (e := fun n => [vb n]) xs fun _x _c hc => ⟨_, List.mem_singleton.1 hc⟩
theorem flat_strs (xs : List ByteArray) : FlatRows xs.length (fun i => [vs (xs.getD i default)]) := flat_of (e := fun n => [vs n]) xs fun _x _c hc => ⟨_, List.mem_singleton.1 hc⟩
theorem flat_recs (xs : List GRecord) : FlatRows xs.length (fun i => GRecord.c (xs.getD i default)) := flat_of xs fun x c hc => by
  simp only [GRecord.c, List.mem_cons, List.not_mem_nil, or_false] at hc
  rcases hc with rfl | rfl | rfl | rfl | rfl <;> exact ⟨_, rfl⟩
theorem flat_cells (xs : List GCell) : FlatRows xs.length (fun i => GCell.c (xs.getD i default)) := flat_of xs fun x c hc => by
  simp only [GCell.c, List.mem_cons, List.not_mem_nil, or_false] at hc
  rcases hc with rfl | rfl | rfl | rfl <;> exact ⟨_, rfl⟩
theorem flat_picks (xs : List GPick) : FlatRows xs.length (fun i => GPick.c (xs.getD i default)) := flat_of xs fun x c hc => by
  simp only [GPick.c, List.mem_cons, List.not_mem_nil, or_false] at hc
  rcases hc with rfl | rfl | rfl <;> exact ⟨_, rfl⟩
theorem flat_news (xs : List GNews) : FlatRows xs.length (fun i => GNews.c (xs.getD i default)) := flat_of xs fun x c hc => by
  simp only [GNews.c, List.mem_cons, List.not_mem_nil, or_false] at hc
  rcases hc with rfl | rfl | rfl <;> exact ⟨_, rfl⟩
theorem flat_counts (xs : List GCount) : FlatRows xs.length (fun i => GCount.c (xs.getD i default)) := flat_of xs fun x c hc => by
  simp only [GCount.c, List.mem_cons, List.not_mem_nil, or_false] at hc
  rcases hc with rfl | rfl | rfl <;> exact ⟨_, rfl⟩
theorem flat_dones (xs : List GDone) : FlatRows xs.length (fun i => GDone.c (xs.getD i default)) := flat_of xs fun x c hc => by
  simp only [GDone.c, List.mem_cons, List.not_mem_nil, or_false] at hc
  rcases hc with rfl | rfl <;> exact ⟨_, rfl⟩
theorem flat_stamps (xs : List GStamp) : FlatRows xs.length (fun i => GStamp.c (xs.getD i default)) := flat_of xs fun x c hc => by
  simp only [GStamp.c, List.mem_cons, List.not_mem_nil, or_false] at hc
  rcases hc with rfl | rfl <;> exact ⟨_, rfl⟩
theorem flat_tokens (xs : List GToken) : FlatRows xs.length (fun i => GToken.c (xs.getD i default)) := flat_of xs fun x c hc => by
  simp only [GToken.c, List.mem_cons, List.not_mem_nil, or_false] at hc
  rcases hc with rfl | rfl | rfl | rfl | rfl <;> exact ⟨_, rfl⟩

end Go.Sx

/- What the program's small functions compute. -/
namespace Go.Sx

def within (n lo hi : Int) : Bool := if n ≥ lo then decide (n ≤ hi) else false
def brought (n lo hi : Int) : Int := if hi < lo ∨ n < lo then lo else if hi < n then hi else n
def ownerOf (key n : Int) : Int := if n < 1 then 0 else if key.tmod n < 0 then key.tmod n + n else key.tmod n

theorem within_iff {n lo hi : Int} : within n lo hi = true ↔ lo ≤ n ∧ n ≤ hi := by
  unfold within
  split
  · simp; omega
  · simp; omega

theorem brought_range (n lo hi : Int) (h : lo ≤ hi) : lo ≤ brought n lo hi ∧ brought n lo hi ≤ hi := by
  unfold brought
  split
  · omega
  · split <;> omega

theorem ownerOf_range (key n : Int) (h : 1 ≤ n) : 0 ≤ ownerOf key n ∧ ownerOf key n < n := by
  have h1 := Int.tmod_lt_of_pos key (show 0 < n by omega)
  have h2 := Int.lt_tmod_of_pos key (show 0 < n by omega)
  unfold ownerOf
  rw [if_neg (by omega)]
  split <;> omega

/-- The inputs, by their owners. -/
def splitIn (xs : List GRecord) (n : Nat) : List (List GRecord) := (List.range n).map fun (j : Nat) => xs.filter fun r => ownerOf r.key n == j

theorem splitIn_length (xs : List GRecord) (n : Nat) : (splitIn xs n).length = n := by simp [splitIn]

theorem splitIn_getD (xs : List GRecord) (n j : Nat) (h : j < n) : (splitIn xs n).getD j default = xs.filter fun r => ownerOf r.key n == j := by
  simp [splitIn, List.getD, h]

theorem splitIn_snoc (xs : List GRecord) (n : Nat) (r : GRecord) (j : Nat) (hj : ownerOf r.key n = j) (h : j < n) :
    (splitIn xs n).set j ((splitIn xs n).getD j default ++ [r]) = splitIn (xs ++ [r]) n := by
  apply List.ext_getElem?
  intro i
  have hl := splitIn_length xs n
  have hl' := splitIn_length (xs ++ [r]) n
  have key : ∀ i, i < n → (splitIn (xs ++ [r]) n)[i]? = some ((xs ++ [r]).filter fun r => ownerOf r.key n == i) := fun i hi => by
    simp [splitIn, hi]
  by_cases e : i = j
  · subst e
    rw [List.getElem?_set_self (by omega), key i h, splitIn_getD _ _ _ h, List.filter_append, List.filter_cons_of_pos (by rw [hj]; simp), List.filter_nil]
  · rw [List.getElem?_set_ne (by omega)]
    by_cases hi : i < n
    · have h1 : (splitIn xs n)[i]? = some (xs.filter fun r => ownerOf r.key n == i) := by simp [splitIn, hi]
      rw [key i hi, h1, List.filter_append, List.filter_cons_of_neg (by rw [hj]; simp; omega), List.filter_nil, List.append_nil]
    · rw [List.getElem?_eq_none (by omega), List.getElem?_eq_none (by omega)]

theorem splitIn_len (xs : List GRecord) (n : Nat) : ∀ y ∈ splitIn xs n, y.length ≤ xs.length := by
  intro y hy
  obtain ⟨j, _, rfl⟩ := List.mem_map.1 hy
  exact List.length_filter_le _ _

theorem lSum_le (l : List (List GRecord)) : (l.map (fun y => (y.map GRecord.cnt).sum)).sum ≤ 5 * (l.map List.length).sum := by
  induction l with
  | nil => simp
  | cons x r ih => have := GRecord.sum_le x; simp only [List.map_cons, List.sum_cons]; omega

theorem sum_len_le (l : List (List GRecord)) (m : Nat) (h : ∀ y ∈ l, y.length ≤ m) : (l.map List.length).sum ≤ l.length * m := by
  induction l with
  | nil => simp
  | cons x r ih =>
    have h1 := ih fun y hy => h y (List.mem_cons_of_mem _ hy)
    have h2 := h x (by simp)
    simp only [List.map_cons, List.sum_cons, List.length_cons, Nat.add_mul]
    omega

theorem wrap_succ (k : Nat) (h : k < 4611686018427387904) : IntKind.i64.wrap ((k : Int) + 1) = ((k + 1 : Nat) : Int) := by
  rw [wrap_inR (by show _ ∧ _; omega)]; omega

/-- A sum, as int64 has it. -/
def sum64 {α : Type} (f : α → Int) (xs : List α) : Int := xs.foldl (fun n x => IntKind.i64.wrap (n + f x)) 0
theorem sum64_take {α : Type} [Inhabited α] (f : α → Int) (xs : List α) (k : Nat) (h : k < xs.length) : sum64 f (xs.take (k + 1)) = IntKind.i64.wrap (sum64 f (xs.take k) + f (xs.getD k default)) :=
  foldl_take _ _ _ _ h

def longest (xs : List GWorker) : Int := xs.foldl (fun n x => if (x.queue.length : Int) > n then (x.queue.length : Int) else n) 0
theorem longest_take (xs : List GWorker) (k : Nat) (h : k < xs.length) : longest (xs.take (k + 1)) = if ((xs.getD k default).queue.length : Int) > longest (xs.take k) then ((xs.getD k default).queue.length : Int) else longest (xs.take k) :=
  foldl_take _ _ _ _ h

def ownCells (c : GCluster) (w : Int) : List GCell :=
  if within w 0 (c.workers.length - 1) then (c.workers.getD w.toNat default).cells.filter fun x => ownerOf x.key c.graph.workers == w else []

theorem GCluster.links_le {x : GCluster} {n : Nat} (h : x.w ≤ n) : x.links.length ≤ n := by simp only [GCluster.w, wS] at h; omega
theorem GCluster.workers_le {x : GCluster} {n : Nat} (h : x.w ≤ n) : x.workers.length ≤ n := by simp only [GCluster.w, wS] at h; omega
theorem GCluster.tokens_le {x : GCluster} {n : Nat} (h : x.w ≤ n) : x.tokens.length ≤ n := by simp only [GCluster.w, wS] at h; omega
theorem GCluster.news_le {x : GCluster} {n : Nat} (h : x.w ≤ n) : x.news.length ≤ n := by simp only [GCluster.w, wS] at h; omega
theorem GCluster.worker_le {x : GCluster} {n : Nat} (h : x.w ≤ n) {k : Nat} (hk : k < x.workers.length) : ((x.workers.take k).map GWorker.w).sum + (x.workers.getD k default).w ≤ n := by
  have := wS_take_le GWorker.w x.workers k hk
  simp only [GCluster.w, wS] at h; omega
theorem GCluster.link_le {x : GCluster} {n : Nat} (h : x.w ≤ n) {k : Nat} (hk : k < x.links.length) : ((x.links.take k).map GLink.w).sum + (x.links.getD k default).w ≤ n := by
  have := wS_take_le GLink.w x.links k hk
  simp only [GCluster.w, wS] at h; omega

theorem sum_map_le {α : Type} (f g : α → Nat) (l : List α) (h : ∀ x, f x ≤ g x) : (l.map f).sum ≤ (l.map g).sum := by
  induction l with
  | nil => simp
  | cons x r ih => have := h x; simp only [List.map_cons, List.sum_cons]; omega

def qLoad (w : GWorker) : Nat := w.queue.length + w.staged.length
theorem qLoad_le (w : GWorker) : qLoad w ≤ w.w := by simp only [qLoad, GWorker.w]; omega

def fullLinks (xs : List GLink) : Nat := (xs.map fun l => if (l.queue.length : Int) = l.cap then 1 else 0).sum
theorem fullLinks_take (xs : List GLink) (k : Nat) (h : k < xs.length) : fullLinks (xs.take (k + 1)) = fullLinks (xs.take k) + if ((xs.getD k default).queue.length : Int) = (xs.getD k default).cap then 1 else 0 := by
  unfold fullLinks; rw [map_take _ _ _ h, List.sum_append]; simp
theorem fullLinks_le (xs : List GLink) : fullLinks xs ≤ xs.length := by
  induction xs with
  | nil => simp [fullLinks]
  | cons x r ih => simp only [fullLinks, List.map_cons, List.sum_cons, List.length_cons] at *; split <;> omega

def spreadK (c : GCluster) (k : Nat) : Bool := (List.range k).all fun j => (ownCells c j).length == (c.workers.getD j default).cells.length
theorem spreadK_succ (c : GCluster) (k : Nat) : spreadK c (k + 1) = (spreadK c k && ((ownCells c k).length == (c.workers.getD k default).cells.length)) := by
  simp [spreadK, List.range_succ]
def cellsSpread (c : GCluster) : Bool := spreadK c c.workers.length
theorem spreadK_false (c : GCluster) {k : Nat} (h : k < c.workers.length) (hk : ((ownCells c k).length == (c.workers.getD k default).cells.length) = false) : cellsSpread c = false := by
  unfold cellsSpread spreadK
  rw [List.all_eq_false]
  exact ⟨k, List.mem_range.2 h, by rw [hk]; decide⟩

theorem within_false {n lo hi : Int} (h : within n lo hi = false) : ¬ (lo ≤ n ∧ n ≤ hi) := fun hc => by rw [within_iff.2 hc] at h; cases h

theorem int_eqv (x y : Int) : (x == y) = decide (x = y) := by rw [Bool.eq_iff_iff]; simp
theorem bool_eqv (x y : Bool) : (x == y) = decide (x = y) := by rw [Bool.eq_iff_iff]; simp
theorem take_eq_succ {α : Type} [Inhabited α] (a b : List α) (k : Nat) (h : a.take k = b.take k) (ha : k < a.length) (hb : k < b.length) : a.take (k + 1) = b.take (k + 1) ↔ a.getD k default = b.getD k default := by
  rw [take_snoc a k ha, take_snoc b k hb, h]
  simp
theorem GStamp.eqv (x y : GStamp) : (x.epoch == y.epoch && (x.turn == y.turn && true)) = decide (x = y) := by
  obtain ⟨_, _⟩ := x
  obtain ⟨_, _⟩ := y
  rw [Bool.eq_iff_iff]; simp [and_assoc]
theorem GCount.eqv (x y : GCount) : (x.stamp.epoch == y.stamp.epoch && (x.stamp.turn == y.stamp.turn && (x.n == y.n && true))) = decide (x = y) := by
  obtain ⟨⟨_, _⟩, _⟩ := x
  obtain ⟨⟨_, _⟩, _⟩ := y
  rw [Bool.eq_iff_iff]; simp [and_assoc]
theorem GRecord.eqv (x y : GRecord) : (x.op == y.op && (x.stamp.epoch == y.stamp.epoch && (x.stamp.turn == y.stamp.turn && (x.key == y.key && (x.val == y.val && true))))) = decide (x = y) := by
  obtain ⟨_, ⟨_, _⟩, _, _⟩ := x
  obtain ⟨_, ⟨_, _⟩, _, _⟩ := y
  rw [Bool.eq_iff_iff]; simp [and_assoc]
theorem GCell.eqv (x y : GCell) : (x.op == y.op && (x.epoch == y.epoch && (x.key == y.key && (x.val == y.val && true)))) = decide (x = y) := by
  obtain ⟨_, _, _, _⟩ := x
  obtain ⟨_, _, _, _⟩ := y
  rw [Bool.eq_iff_iff]; simp [and_assoc]
theorem GDone.eqv (x y : GDone) : (x.epoch == y.epoch && (x.capped == y.capped && true)) = decide (x = y) := by
  obtain ⟨_, _⟩ := x
  obtain ⟨_, _⟩ := y
  rw [Bool.eq_iff_iff]; simp [and_assoc]
theorem GToken.eqv (x y : GToken) : (x.going == y.going && (x.at_ == y.at_ && (x.sum == y.sum && (x.black == y.black && (x.capped == y.capped && true))))) = decide (x = y) := by
  obtain ⟨_, _, _, _, _⟩ := x
  obtain ⟨_, _, _, _, _⟩ := y
  rw [Bool.eq_iff_iff]; simp [and_assoc]
theorem GNews.eqv (x y : GNews) : (x.to_ == y.to_ && (x.epoch == y.epoch && (x.capped == y.capped && true))) = decide (x = y) := by
  obtain ⟨_, _, _⟩ := x
  obtain ⟨_, _, _⟩ := y
  rw [Bool.eq_iff_iff]; simp [and_assoc]
theorem GPick.eqv (x y : GPick) : (x.kind == y.kind && (x.a == y.a && (x.b == y.b && true))) = decide (x = y) := by
  obtain ⟨_, _, _⟩ := x
  obtain ⟨_, _, _⟩ := y
  rw [Bool.eq_iff_iff]; simp [and_assoc]
theorem GNode.eqv (x y : GNode) : decide (x = y) = (x.kind == y.kind && (x.a == y.a && (x.b == y.b && decide (x.outs = y.outs)))) := by
  obtain ⟨_, _, _, _⟩ := x
  obtain ⟨_, _, _, _⟩ := y
  rw [Bool.eq_iff_iff]; simp
theorem GGraph.eqv (x y : GGraph) : decide (x = y) = (decide (x.nodes = y.nodes) && (x.workers == y.workers && x.cap == y.cap)) := by
  obtain ⟨_, _, _⟩ := x
  obtain ⟨_, _, _⟩ := y
  rw [Bool.eq_iff_iff]; simp
theorem GScript.eqv (x y : GScript) : decide (x = y) = (decide (x.graph = y.graph) && (decide (x.inputs = y.inputs) && (decide (x.picks = y.picks) && x.rounds == y.rounds))) := by
  obtain ⟨_, _, _, _⟩ := x
  obtain ⟨_, _, _, _⟩ := y
  rw [Bool.eq_iff_iff]; simp

def ofEpoch (xs : List GRecord) (e : Int) : List GRecord := xs.filter fun r => r.stamp.epoch == e
def openAt (w : GWorker) (e : Int) : Bool := w.inputs.any fun r => decide (r.stamp.epoch ≤ e)
def workAt (w : GWorker) (e : Int) : Nat := (ofEpoch w.queue e).length + (ofEpoch w.staged e).length
def passiveAt (w : GWorker) (e : Int) : Bool := if openAt w e then false else (workAt w e : Int) == 0
def isDone (w : GWorker) (e : Int) : Bool := w.dones.any fun d => d.epoch == e
def roundsDone (c : GCluster) (e : Int) : Bool := if 0 < c.workers.length then isDone (c.workers.getD 0 default) e else false
def allPassive (c : GCluster) (e : Int) : Bool := c.workers.all fun w => passiveAt w e
def overAt (c : GCluster) (e : Int) : Bool := if c.links.any (fun l => decide (((ofEpoch l.queue e).length : Int) > 0)) then false else allPassive c e
def waitsFor (c : GCluster) (e : Int) : Int :=
  if within e 0 (c.tokens.length - 1) = false then -1 else if roundsDone c e then -1
  else if within (c.tokens.getD e.toNat default).at_ 0 (c.workers.length - 1) = false then -1
  else if passiveAt (c.workers.getD (c.tokens.getD e.toNat default).at_.toNat default) e then -1 else (c.tokens.getD e.toNat default).at_

theorem ofEpoch_le (xs : List GRecord) (e : Int) : (ofEpoch xs e).length ≤ xs.length := List.length_filter_le _ _

/-- The place of the first one. -/
def findN {α : Type} (p : α → Bool) : List α → Nat
  | [] => 0
  | x :: r => if p x = true then 0 else findN p r + 1
def findI {α : Type} (p : α → Bool) (xs : List α) : Int := if xs.any p = true then (findN p xs : Int) else -1

theorem findN_of {α : Type} [Inhabited α] (p : α → Bool) (xs : List α) (k : Nat) (h : (xs.take k).any p = false) (hk : k < xs.length) (hp : p (xs.getD k default) = true) : findN p xs = k := by
  induction xs generalizing k with
  | nil => simp at hk
  | cons x r ih =>
    cases k with
    | zero =>
      simp only [List.getD_cons_zero] at hp
      simp [findN, hp]
    | succ k =>
      simp only [List.take_succ_cons, List.any_cons, Bool.or_eq_false_iff] at h
      have := ih k h.2 (by simpa using hk) (by simpa using hp)
      simp [findN, h.1, this]

theorem findI_of {α : Type} [Inhabited α] (p : α → Bool) (xs : List α) (k : Nat) (h : (xs.take k).any p = false) (hk : k < xs.length) (hp : p (xs.getD k default) = true) : findI p xs = k := by
  rw [findI, if_pos (any_of_getD hk hp), findN_of p xs k h hk hp]
theorem findI_none {α : Type} (p : α → Bool) (xs : List α) (h : xs.any p = false) : findI p xs = -1 := by rw [findI, if_neg (by rw [h]; decide)]
theorem findI_any {α : Type} (p : α → Bool) (xs : List α) : decide (findI p xs ≥ 0) = xs.any p := by
  unfold findI
  cases h : xs.any p with
  | true => rw [if_pos rfl]; exact decide_eq_true (by omega)
  | false => rw [if_neg (by decide)]; exact decide_eq_false (by omega)

theorem any_take_false {α : Type} [Inhabited α] {p : α → Bool} {xs : List α} {k : Nat} (h : (xs.take k).any p = false) (hk : k < xs.length) (hp : p (xs.getD k default) = false) : (xs.take (k + 1)).any p = false := by
  rw [any_take p xs k hk, h, hp]; rfl
theorem all_take_true {α : Type} [Inhabited α] {p : α → Bool} {xs : List α} {k : Nat} (h : (xs.take k).all p = true) (hk : k < xs.length) (hp : p (xs.getD k default) = true) : (xs.take (k + 1)).all p = true := by
  rw [all_take p xs k hk, h, hp]; rfl

end Go.Sx

/- Bytes and strings. -/
namespace Go.Sx
open Go.RowKit (Below)
variable {P : Program} {T : List (TypeId × TI)}

abbrev vy (b : UInt8) : Cell := .val (.int .u8 b.toNat)
abbrev sByte (xs : List UInt8) : Cell := slC 1 (fun b => [vy b]) xs

theorem str_rule (hT : TblOk P T) {B : Base} {Q : Exit → Act → World → Prop} {q : Bool} {all : Array Oper} {o : Oper} {rest : List Oper} {K : List KI} {s : AS} {x : Operand} {t u e : TypeId} {i j l : TI}
    (hg : o.guard = none) (ho : o.op = .convert t u x) (hi : find T t = some i) (hie : i.elem = some e) (hj : find T e = some j) (hfl : j.flat = some [.int .u8]) (hag : j.agg = false) (hl : find T u = some l) (hstr : l.str = true)
    {bs : List UInt8} (hx : argC s.own (s.ev x) = some (sByte bs))
    (h : G P B Q (.ops q all rest :: K) (s.put o.dst (.v (.string ⟨bs.toArray⟩)))) : G P B Q (.ops q all (o :: rest) :: K) s := by
  refine G_ops_read hg (fun E a w hs => ?_)
  have hr := argC_rep hs hx (hs.ev x)
  have hu := run_elem_ti (hT t i hi) hie
  have hd := run_str_ti (hT u l hl) hstr
  have he : P.underlying e = some (.int .u8) := flat_int hT hj hag hfl
  obtain ⟨dst, op', ty, pos, after, guard⟩ := o
  simp only at ho
  subst ho
  generalize hv : a.eval x = v at hr
  refine ⟨.string ⟨bs.toArray⟩, fun w' hk => ?_, h E _ w (hs.put dst (.c (.val _ rfl)))⟩
  simp only [execOp, hv, Sem.run_bind]
  generalize hc : sByte bs = c at hr
  cases hr with
  | val x h => simp [slC] at hc
  | nil es row =>
    simp only [slC, Cell.sl.injEq] at hc
    obtain ⟨hc, _⟩ := hc
    obtain rfl := List.eq_nil_of_length_eq_zero hc
    rw [run_convert_bytes_nil w' t e hu he 0 0 u hd]
    rfl
  | emp es row a' =>
    simp only [slC, Cell.sl.injEq] at hc
    obtain ⟨hc, _⟩ := hc
    obtain rfl := List.eq_nil_of_length_eq_zero hc
    rw [run_convert_bytes_string w' t u e _ 0 0 hu he hd, run_bytesToString w' a' 0 0 [] (by simp [loadCells, loadCellsFrom])]
    rfl
  | sl n es row b off cap u' hA hn hcp hl' hu' hr' =>
    simp only [slC, Cell.sl.injEq] at hc
    obtain ⟨rfl, rfl, rfl⟩ := hc
    rw [run_convert_bytes_arg w' t e hu he b off bs.length cap (bs.map fun b => (b.toNat : Int)) (by simp) (fun k hk' => by
      have h1 := hk.cell (hu' k 0 hk' (by omega))
      have h2 := hr' k 0 _ hk' rfl
      have h3 : u' k 0 = .int .u8 ((bs.getD k default).toNat) := by generalize u' k 0 = z at h2; cases h2; rfl
      rw [h3] at h1
      simp only [Nat.mul_one, Nat.add_zero] at h1
      rw [h1]
      simp [List.getD, hk']) u hd]
    simp only [Result.andThen_ok, Sem.run_pure]
    congr 3
    simp [strOfNums, Function.comp_def]

theorem strW (hT : TblOk P T) {B : Base} {Q : Exit → Act → World → Prop} {q : Bool} {all : Array Oper} {o : Oper} {rest : List Oper} {K : List KI} {s : AS} {x : Operand} {t u e : TypeId} {i j l : TI}
    (hg : o.guard = none) (ho : o.op = .convert t u x) (hi : find T t = some i) (hie : i.elem = some e) (hj : find T e = some j) (hfl : j.flat = some [.int .u8]) (hag : j.agg = false) (hl : find T u = some l) (hstr : l.str = true)
    (bs : List UInt8) (hx : argC s.own (s.ev x) = some (sByte bs))
    (h : GW P B Q (.ops q all rest :: K) (s.put o.dst (.v (.string ⟨bs.toArray⟩)))) : GW P B Q (.ops q all (o :: rest) :: K) s :=
  ⟨str_rule hT hg ho hi hie hj hfl hag hl hstr hx (h.rec id)⟩

theorem bytes_app (xs : List UInt8) (b : ByteArray) : AppOk xs.length b.size 1 (fun i => [vy (xs.getD i default)]) (fun i => [.val (.int .u8 (b.data.getD i 0).toNat)]) (sByte (xs ++ b.data.toList)) := by
  refine ⟨fun i => [vy ((xs ++ b.data.toList).getD i default)], by simp only [sByte, slC, List.length_append, Array.length_toList]; rfl, fun i hi => ?_, fun i hi => ?_⟩
  · simp [List.getD, List.getElem?_append_left hi]
  · have hi' : i < b.data.size := hi
    have e : (xs ++ b.data.toList).getD (xs.length + i) default = b.data.getD i 0 := by
      rw [List.getD, List.getElem?_append_right (by omega), Nat.add_sub_cancel_left, Array.getElem?_toList, Array.getElem?_eq_getElem hi', Array.getD_eq_getD_getElem?, Array.getElem?_eq_getElem hi']
      rfl
    exact congrArg (fun z : UInt8 => [vy z]) e

end Go.Sx

/- A region that draws its order, in which several operations that make memory may come first: one walk for each. -/
namespace Go.Sx
variable {P : Program} {T : List (TypeId × TI)} {ops : Array Oper}

def preOk (ops : Array Oper) : List Nat → Array Bool → Option (Array Bool)
  | [], listed => some listed
  | i :: r, listed => match ops[i]? with
    | some o => match kindOp o.op with
      | 0 => match (Region.ready .any ops listed).contains i && freeM ops listed i o with
        | true => preOk ops r (listed.setIfInBounds i true)
        | false => none
      | _ => none
    | none => none

def headOk (ops : Array Oper) (listed : Array Bool) (i : Nat) (t : List Nat) : Bool :=
  match t with
  | [] => false
  | j :: r => j == i && (ops[i]?).isSome && mixFrom ops r (listed.setIfInBounds i true)

/-- The reads 'pre' first, then any of these ways. -/
def mixB2 (ops : Array Oper) (pre : List Nat) (tails : List (List Nat)) : Bool :=
  Region.noSelect ops && tails.all (fun t => pre.length + t.length == ops.size) && match preOk ops pre (Array.replicate ops.size false) with
  | none => false
  | some listed => !(Region.ready .any ops listed).isEmpty && !tails.isEmpty && (Region.ready .any ops listed).all fun i => tails.any (headOk ops listed i)

theorem anyM_two (hsel : ∀ (j : Nat) (o : Oper) cs b, ops[j]? = some o → o.op ≠ .select cs b) {Q : Act → World → Prop} {tails : List (List Nat)} {m : Nat} (hm : ∀ t ∈ tails, t.length = m) (hne : tails ≠ []) : ∀ (pre : List Nat) (listed fin : Array Bool) (a : Act) (w : World),
    preOk ops pre listed = some fin → ClosedM ops listed → (Region.ready .any ops fin).isEmpty = false → ((Region.ready .any ops fin).all fun i => tails.any (headOk ops fin i)) = true →
    (∀ t ∈ tails, wpMix P ops Q ((pre ++ t).filterMap fun i => ops[i]?) a w) → anyM P ops Q (pre.length + m) listed a w
  | [], listed, fin, a, w, h, hc, hr, ht, hq => by
    obtain rfl := Option.some.inj h
    cases m with
    | zero =>
      exfalso
      match hl : Region.ready .any ops listed with
      | [] => rw [hl] at hr; simp at hr
      | i :: r =>
        rw [hl] at ht
        simp only [List.all_cons, Bool.and_eq_true, List.any_eq_true] at ht
        obtain ⟨⟨t, h1, h2⟩, _⟩ := ht
        have := hm t h1
        obtain rfl := List.eq_nil_of_length_eq_zero this
        simp [headOk] at h2
    | succ m =>
      rw [show ([] : List Nat).length + (m + 1) = m + 1 by simp]
      refine ⟨fun h0 => (by rw [h0] at hr; simp at hr), fun i hi => ?_⟩
      have hi' := List.all_eq_true.1 ht i hi
      obtain ⟨t, h1, h2⟩ := List.any_eq_true.1 hi'
      match t, h2, hm t h1, hq t h1 with
      | j :: r, h2, hlen, hq =>
        simp only [headOk, Bool.and_eq_true, beq_iff_eq] at h2
        obtain ⟨⟨rfl, h3⟩, h4⟩ := h2
        obtain ⟨o, ho⟩ := Option.isSome_iff_exists.1 h3
        have hl : r.length = m := by simpa using hlen
        have ih := fun a w => anyM_mix (P := P) (Q := Q) hsel r (listed.setIfInBounds j true) a w h4 (hc.set hi)
        rw [hl] at ih
        have e : ([] ++ j :: r).filterMap (fun i => ops[i]?) = o :: r.filterMap fun i => ops[i]? := by simp [ho]
        rw [e] at hq
        unfold opM
        simp only [ho]
        unfold wpMix at hq
        split
        · rename_i hw
          rw [if_pos hw] at hq
          rcases hq with ⟨v, h1, h2⟩ | ⟨_, hd⟩
          · unfold doneM
            rw [h1 w (Kept0.refl w)]
            exact ⟨fun _ => Kept0.refl w, ih _ _ h2⟩
          · exact hd.mono fun a w h => ih a w h
        · rename_i hw
          rw [if_neg hw] at hq
          exact ih _ _ hq
  | i :: pre, listed, fin, a, w, h, hc, hr, ht, hq => by
    unfold preOk at h
    split at h
    · rename_i o ho
      split at h
      · rename_i hk
        split at h
        · rename_i hf
          simp only [Bool.and_eq_true, List.contains_iff_mem] at hf
          obtain ⟨hrd, hf⟩ := hf
          have hfree : ∀ j oj, ops[j]? = some oj → j ≠ i → listed.getD j true = false → waitsM ops ops.size j i = true ∨ (o.apart ops oj = true ∧ (blind o.op = true ∨ kindOp oj.op ≤ 1)) := by
            intro j oj hoj hji hun
            have := List.all_eq_true.1 hf j (List.mem_range.2 (Array.getElem?_eq_some_iff.1 hoj).1)
            simp only [hoj, hun, Bool.or_false, Bool.or_eq_true, beq_iff_eq, hji, false_or, Bool.and_eq_true] at this
            exact this.symm.imp id fun ⟨h1, h2⟩ => ⟨h1, h2.imp id fun h => Nat.le_of_ble_eq_true h⟩
          have hl : ∀ t, (i :: pre ++ t).filterMap (fun i => ops[i]?) = o :: (pre ++ t).filterMap fun i => ops[i]? := fun t => by simp [ho]
          have hy : ∃ v, YieldsM P ops o v a w ∧ ∀ t ∈ tails, wpMix P ops Q ((pre ++ t).filterMap fun i => ops[i]?) (a.put o.dst v) w := by
            by_cases hw : Region.wanted o (yielded ops a.tmps) = true
            · have one : ∀ t ∈ tails, ∃ v, (∀ w', Kept0 w w' → (execOp a.eval o).run P w' = .ok (.value v) w') ∧ wpMix P ops Q ((pre ++ t).filterMap fun i => ops[i]?) (a.put o.dst v) w := fun t ht => by
                have := hq t ht
                rw [hl] at this
                unfold wpMix at this
                rw [if_pos hw] at this
                rcases this with ⟨v, h1, h2⟩ | ⟨hn, _⟩
                · exact ⟨v, h1, h2⟩
                · exact absurd hk hn
              obtain ⟨t0, ht0⟩ := List.exists_mem_of_ne_nil _ hne
              obtain ⟨v, h1, _⟩ := one t0 ht0
              refine ⟨v, .inl ⟨hw, fun w' hk => hk.elim (fun hb => blind_run hb a.eval (h1 w (Kept0.refl w))) (h1 w')⟩, fun t ht => ?_⟩
              obtain ⟨v', g1, g2⟩ := one t ht
              have e1 := h1 w (Kept0.refl w)
              have e2 := g1 w (Kept0.refl w)
              rw [e1] at e2
              simp only [Result.ok.injEq, Next.value.injEq, and_true] at e2
              rw [e2]
              exact g2
            · refine ⟨undef, .inr ⟨by simpa using hw, rfl⟩, fun t ht => ?_⟩
              have := hq t ht
              rw [hl] at this
              unfold wpMix at this
              rwa [if_neg hw] at this
          obtain ⟨v, hy, hK⟩ := hy
          have ih := anyM_two hsel hm hne pre _ fin _ w h (hc.set hrd) hr ht hK
          rw [show (i :: pre).length + m = (pre.length + m) + 1 by simp; omega]
          exact anyM_first ho hsel ops.size (pre.length + m) listed a w hc hfree hrd hy ih
        · simp at h
      · simp at h
    · simp at h

theorem wp_region_two {id : Nat} {Q : Exit → Act → World → Prop} {a : Act} {w : World} {pre : List Nat} {tails : List (List Nat)} (hm : P.follows .mixedOrders = true) (hB : mixB2 ops pre tails = true)
    (h : ∀ t ∈ tails, wpMix P ops (fun a w => Q .normal a w) (mixOps ops (pre ++ t)) a { w with drawn := w.drawn + 1 }) : (Code.region id ops true).wp P Q a w := by
  simp only [mixB2, Bool.and_eq_true] at hB
  obtain ⟨⟨h1, h2⟩, h3⟩ := hB
  split at h3
  · simp at h3
  · rename_i fin hp
    simp only [Bool.and_eq_true, Bool.not_eq_true'] at h3
    obtain ⟨⟨h4, h5⟩, h6⟩ := h3
    have hne : tails ≠ [] := by rintro rfl; simp at h5
    have hlen : ∀ t ∈ tails, pre.length + t.length = ops.size := fun t ht => by simpa using List.all_eq_true.1 h2 t ht
    obtain ⟨t0, ht0⟩ := List.exists_mem_of_ne_nil _ hne
    refine wp_region_any hm (anyM_wp (Q := fun a w => Q .normal a w) (fun _ _ h => h) _ _ _ _ ?_)
    have := anyM_two (P := P) (Q := fun a w => Q .normal a w) (Region.noSelect_spec h1) (m := t0.length) (fun t ht => by have := hlen t ht; have := hlen t0 ht0; omega) hne pre (Array.replicate ops.size false) fin a _ hp
      (fun j o _ hl => by exfalso; by_cases hj : j < ops.size <;> simp [hj] at hl) h4 h6 h
    rwa [hlen t0 ht0] at this

def allGW (P : Program) (B : Base) (Q : Exit → Act → World → Prop) (K : List KI) (s : AS) (ops : Array Oper) (pre : List Nat) : List (List Nat) → Prop
  | [] => True
  | t :: r => GW P B Q (.ops true ops (mixOps ops (pre ++ t)) :: K) s ∧ allGW P B Q K s ops pre r

theorem allGW_mem {B : Base} {Q : Exit → Act → World → Prop} {K : List KI} {s : AS} {pre : List Nat} {tails : List (List Nat)} (h : allGW P B Q K s ops pre tails) : ∀ t ∈ tails, GW P B Q (.ops true ops (mixOps ops (pre ++ t)) :: K) s := by
  induction tails with
  | nil => simp
  | cons x r ih =>
    intro t ht
    rcases List.mem_cons.1 ht with rfl | ht
    · exact h.1
    · exact ih h.2 t ht

theorem drawT (pre : List Nat) (tails : List (List Nat)) (hm : P.follows .mixedOrders = true) {B : Base} {Q : Exit → Act → World → Prop} {id : Nat} {K : List KI} {s : AS} (hB : mixB2 ops pre tails = true)
    (h : allGW P B Q K s ops pre tails) : GW P B Q (.code (.region id ops true) :: K) s :=
  ⟨fun E a w hs => wp_region_two hm hB (fun t ht => (allGW_mem h t ht).rec fun h => h E a _ (hs.call (w' := { w with drawn := w.drawn + 1 }) ⟨rfl, rfl, rfl, Nat.le_refl _, fun _ _ => rfl⟩).is)⟩

end Go.Sx

/- The cast and the adopted nil, at a return. -/
set_option maxRecDepth 100000
namespace Go.Sx
open Go

theorem castR {B : Base} {Q : Exit → Act → World → Prop} {s : AS} (k : Nat) (c' : Cell) {c : Cell} (hk : getOwn s.own k = some c) (hc : CastOk c c')
    (h : RW B Q { s with own := setOw s.own k c' }) : RW B Q s := by
  refine ⟨fun E a w hs => ?_⟩
  have hm := getOwn_mem hk
  have av : ∀ b, ({ s with own := setOw s.own k c' } : AS).avoid E b → s.avoid E b := by
    rintro b (hb | ⟨y, hy, hb⟩)
    · exact .inl hb
    · obtain ⟨z, hz, e⟩ := setOw_key hy
      exact .inr ⟨z, hz, by rw [e]; exact hb⟩
  have mv : ∀ x v, Den E w (s.avoid E) s.next x v → Den E w (({ s with own := setOw s.own k c' } : AS).avoid E) s.next x v := fun x v hx =>
    hx.move (Nat.le_refl _) (fun _ _ => ⟨rfl, rfl⟩) (fun _ _ _ => rfl) (fun b _ hb => av b hb)
  obtain ⟨h⟩ := h
  refine h E a w ⟨hs.defers, hs.links, hs.size, fun i x hx => mv _ _ (hs.slots i x hx), fun x hx => ?_, hs.boxes2, hs.keys, fun y hy => ?_, by rw [setOw_keys]; exact hs.ownkeys, fun y hy z hz hne => ?_, fun x hx y hy => ?_, hs.one, hs.base, fun b hb => hs.fresh b (av b hb)⟩
  · obtain ⟨h1, vs, ty, h2, h3, h4⟩ := hs.boxes x hx
    exact ⟨h1, vs, ty, h2, h3, fun i y hy => mv _ _ (h4 i y hy)⟩
  · rcases setOw_mem hy with ⟨h1, h2, _⟩ | ⟨h1, _⟩
    · obtain ⟨g1, g2, g3⟩ := hs.own _ hm
      rw [h1, h2]
      exact ⟨g1, hc.own g2, g3⟩
    · exact hs.own y h1
  · obtain ⟨y', hy', e1⟩ := setOw_key hy
    obtain ⟨z', hz', e2⟩ := setOw_key hz
    rw [← e1, ← e2]
    exact hs.sep y' hy' z' hz' (by rw [e1, e2]; exact hne)
  · obtain ⟨y', hy', e1⟩ := setOw_key hy
    rw [← e1]
    exact hs.sepB x hx y' hy'

theorem nilR {B : Base} {Q : Exit → Act → World → Prop} {s : AS} (i es : Nat) (row : Nat → List Cell) (hi : nth s.slots i = .c (.val (.slice none 0 0)))
    (h : RW B Q { s with slots := setNth s.slots i (.own s.next), own := ⟨s.next, .sl 0 es row⟩ :: s.own, next := s.next + 1 }) : RW B Q s := by
  refine ⟨fun E a w hs => ?_⟩
  have hI : s.isA B E (s.avoid E) a w := ⟨hs.defers, hs.links, hs.size, hs.slots, hs.boxes, hs.boxes2, hs.keys, hs.own, hs.ownkeys, hs.sep, hs.sepB, hs.one, hs.base, hs.fresh, fun _ h => h⟩
  obtain ⟨k1, k2⟩ := hI.addOwn (.nil es row) (by simp) (by simp)
  have k3 := k1.is
  obtain ⟨h⟩ := h
  refine h (E.withOwn s.next (.slice none 0 0) []) a w ⟨k3.defers, k3.links, by rw [k3.size]; exact (setNth_length _ _ _).symm, fun m z hz => ?_, k3.boxes, k3.boxes2, k3.keys, k3.own, k3.ownkeys, k3.sep, k3.sepB, k3.one, k3.base, k3.fresh⟩
  simp only at hz
  rw [setNth_get] at hz
  split at hz
  · rename_i hm
    obtain ⟨rfl, hm⟩ := hm
    obtain rfl := Option.some.inj hz
    have hd := hs.slots i (.c (.val (.slice none 0 0))) (by rw [nth_get, List.getElem?_eq_getElem hm] at hi; rw [List.getElem?_eq_getElem hm]; simpa using hi)
    rw [den_int hd]
    have : Den (E.withOwn s.next (.slice none 0 0) []) w _ _ (.own s.next) (.slice none 0 0) := k2
    exact this.move (Nat.le_refl _) (fun _ _ => ⟨rfl, rfl⟩) (fun _ _ _ => rfl) (fun b _ hb => k1.sub b hb)
  · exact k3.slots m z hz

end Go.Sx

/- All picks, in order; literal slices appended. -/
set_option maxRecDepth 100000
namespace Go.Sx
open Go

theorem slC_two {α : Type} [Inhabited α] {es : Nat} {e : α → List Cell} {xs : List α} {x y : α} {row : Nat → List Cell} (h0 : row 0 = e x) (h1 : row 1 = e y) :
    AppOk xs.length 2 es (fun i => e (xs.getD i default)) row (slC es e (xs ++ [x, y])) := by
  obtain ⟨r, hr, ha, hb⟩ := slC_app es e xs [x, y]
  refine ⟨r, hr, ha, fun i hi => ?_⟩
  rw [hb i hi]
  match i, hi with
  | 0, _ => exact h0.symm
  | 1, _ => exact h1.symm
theorem slC_four {α : Type} [Inhabited α] {es : Nat} {e : α → List Cell} {xs : List α} {x y z u : α} {row : Nat → List Cell} (h0 : row 0 = e x) (h1 : row 1 = e y) (h2 : row 2 = e z) (h3 : row 3 = e u) :
    AppOk xs.length 4 es (fun i => e (xs.getD i default)) row (slC es e (xs ++ [x, y, z, u])) := by
  obtain ⟨r, hr, ha, hb⟩ := slC_app es e xs [x, y, z, u]
  refine ⟨r, hr, ha, fun i hi => ?_⟩
  rw [hb i hi]
  match i, hi with
  | 0, _ => exact h0.symm
  | 1, _ => exact h1.symm
  | 2, _ => exact h2.symm
  | 3, _ => exact h3.symm
theorem CastL.rfl' : ∀ l : List Cell, CastL l l
  | [] => trivial
  | _ :: l => ⟨.inl rfl, CastL.rfl' l⟩
theorem cast_four {α : Type} [Inhabited α] {es : Nat} {e : α → List Cell} {x y z u : α} {row : Nat → List Cell} (h0 : row 0 = e x) (h1 : row 1 = e y) (h2 : row 2 = e z) (h3 : row 3 = e u) :
    CastOk (.sl 4 es row) (slC es e [x, y, z, u]) := by
  refine ⟨rfl, rfl, fun i hi => ?_⟩
  match i, hi with
  | 0, _ => rw [h0]; exact CastL.rfl' _
  | 1, _ => rw [h1]; exact CastL.rfl' _
  | 2, _ => rw [h2]; exact CastL.rfl' _
  | 3, _ => rw [h3]; exact CastL.rfl' _

theorem flatMap_succ {α : Type} (f : Nat → List α) (k : Nat) : (List.range (k + 1)).flatMap f = (List.range k).flatMap f ++ f k := by
  rw [List.range_succ, List.flatMap_append]; simp

def pW (w : Nat) : List GPick := [⟨1, w, 0⟩, ⟨3, w, 0⟩, ⟨2, w, 0⟩, ⟨7, w, 0⟩]
def pK (w k : Nat) : List GPick := if (w : Int) = k then [] else [⟨4, w, k⟩, ⟨5, w, k⟩]
def pA (n : Nat) : List GPick := (List.range n).flatMap pW
def pB (w j : Nat) : List GPick := (List.range j).flatMap (pK w)
def pC (n m : Nat) : List GPick := (List.range m).flatMap fun w => pB w n
def pE (e : Nat) : List GPick := (List.range e).map fun e => ⟨6, (e : Nat), 0⟩
def allP (n : Nat) : List GPick := pA n ++ pC n n ++ pE 4
theorem pA_succ (k : Nat) : pA (k + 1) = pA k ++ pW k := flatMap_succ _ _
theorem pB_succ (w k : Nat) : pB w (k + 1) = pB w k ++ pK w k := flatMap_succ _ _
theorem pC_succ (n k : Nat) : pC n (k + 1) = pC n k ++ pB k n := flatMap_succ _ _
theorem pE_succ (k : Nat) : pE (k + 1) = pE k ++ [⟨6, (k : Nat), 0⟩] := by simp [pE, List.range_succ]
theorem pA_len (k : Nat) : (pA k).length = 4 * k := by
  induction k with
  | zero => rfl
  | succ k ih => rw [pA_succ, List.length_append, ih]; rfl
theorem pK_len (w k : Nat) : (pK w k).length ≤ 2 := by unfold pK; split <;> simp
theorem pB_len (w k : Nat) : (pB w k).length ≤ 2 * k := by
  induction k with
  | zero => exact Nat.le_refl _
  | succ k ih => rw [pB_succ, List.length_append]; have := pK_len w k; omega
theorem pC_len (n k : Nat) (hn : n ≤ 4) : (pC n k).length ≤ 8 * k := by
  induction k with
  | zero => exact Nat.le_refl _
  | succ k ih => rw [pC_succ, List.length_append]; have := pB_len k n; omega
theorem pE_len (k : Nat) : (pE k).length = k := by simp [pE]
theorem allP_len (n : Nat) (hn : n ≤ 4) : (allP n).length ≤ 52 := by
  have := pC_len n n hn
  simp only [allP, List.length_append, pA_len, pE_len]; omega
theorem pW_take (w k : Nat) (h : k < 4) : (pW w).take (k + 1) = (pW w).take k ++ [⟨([1, 3, 2, 7] : List Int).getD k default, w, 0⟩] := by
  match k, h with
  | 0, _ => rfl
  | 1, _ => rfl
  | 2, _ => rfl
  | 3, _ => rfl

end Go.Sx

/- A part of a slice that is only read. -/
set_option maxRecDepth 100000
namespace Go.Sx
open Go
variable {P : Program} {T : List (TypeId × TI)}

def bnd (s : AS) (x : Option Operand) (d : Int) : Option Int :=
  match x with
  | none => some d
  | some y => match s.ev y with
    | .c (.val (.int _ v)) => some v
    | _ => none

/-- What the bound comes to. -/
def BndV (x : Option Value) (l d : Int) : Prop := (x = none ∧ l = d) ∨ ∃ k, x = some (.int k l)

theorem bnd_val {B : Base} {E : Env} {a : Act} {w : World} {s : AS} (hs : s.is B E a w) {x : Option Operand} {d l : Int} (h : bnd s x d = some l) : BndV (x.map a.eval) l d := by
  cases x with
  | none => exact .inl ⟨rfl, (Option.some.inj h).symm⟩
  | some y =>
    refine .inr ?_
    simp only [bnd] at h
    have hd := hs.ev y
    generalize s.ev y = z at h hd
    split at h
    · rename_i k v
      obtain rfl := Option.some.inj h
      have e := den_int hd
      exact ⟨k, by simp [e]⟩
    · cases h

def SubOk (n es : Nat) (row : Nat → List Cell) (l h : Int) (c : Cell) : Prop := ∃ row', c = .sl (h - l).toNat es row' ∧ ∀ i, i < (h - l).toNat → row' i = row (l.toNat + i)

theorem run_sub {t e : TypeId} {i j : TI} (hi : TI.of P t = some i) (he : i.elem = some e) (hj : TI.of P e = some j) {a : Option Addr} {len cap : Nat} {lo hi' : Option Value} {l h : Int}
    (hl : BndV lo l 0) (hh : BndV hi' h len) (h0 : 0 ≤ l) (h1 : l ≤ h) (h2 : h ≤ len) (h3 : len ≤ cap) (w : World) :
    (Instr.sliceAt t (.slice a len cap) lo hi' none).run P w = .ok (sliced a l.toNat h.toNat cap j.size) w := by
  have hu := run_elem_ti hi he
  have hel : P.elem t = e := by simp [Program.elem, hu]
  have hu' : P.underlying t = some (.slice (P.elem t)) := by rw [hel]; exact hu
  have hz : ∀ w, (sizeOf (P.elem t)).run P w = .ok j.size w := fun w => by rw [hel]; exact run_sizeOf_ti hj w
  rw [run_sliceAt_slice w t _ _ _ _ hu']
  rcases hl with ⟨rfl, rfl⟩ | ⟨k1, rfl⟩ <;> rcases hh with ⟨rfl, rfl⟩ | ⟨k2, rfl⟩
  · rw [run_slice_all w t a len cap hu', hz]; simp [Result.andThen]
  · rw [run_slice_h w t a len cap hu' k2 h h1 (by omega), hz]; simp [Result.andThen]
  · rw [run_slice_l w t a len cap hu' k1 l h0 (by omega), hz]; simp [Result.andThen]
  · rw [run_slice_lh w t a len cap hu' k1 k2 l h h0 h1 (by omega), hz]; simp [Result.andThen]

theorem rep_sub {w : World} {A : Nat → Prop} {n es : Nat} {row : Nat → List Cell} {v : Value} (hr : Rep w A (.sl n es row) v) {l h : Int} (h0 : 0 ≤ l) (h1 : l ≤ h) (h2 : h ≤ n) {c : Cell} (hc : SubOk n es row l h c) :
    ∃ a cap, v = .slice a n cap ∧ n ≤ cap ∧ Rep w A c (sliced a l.toNat h.toNat cap es) := by
  obtain ⟨row', rfl, hrow⟩ := hc
  cases hr with
  | nil =>
    refine ⟨none, 0, rfl, Nat.le_refl _, ?_⟩
    have e1 : l = 0 := by omega
    have e2 : h = 0 := by omega
    subst e1; subst e2
    exact .nil _ _
  | emp _ _ a =>
    refine ⟨some a, 0, rfl, Nat.le_refl _, ?_⟩
    have e1 : l = 0 := by omega
    have e2 : h = 0 := by omega
    subst e1; subst e2
    exact .emp _ _ a
  | sl _ _ _ b off cap u hA hn hcap hl hu hrr =>
    refine ⟨_, cap, rfl, hn, ?_⟩
    obtain ⟨p, rfl⟩ : ∃ p : Nat, l = p := ⟨l.toNat, by omega⟩
    obtain ⟨q, rfl⟩ : ∃ q : Nat, h = q := ⟨h.toNat, by omega⟩
    have e : ((q : Int) - p).toNat = q - p := by omega
    simp only [Int.toNat_natCast] at hrow ⊢
    rw [e] at hrow ⊢
    unfold sliced
    by_cases hcl : cap = p
    · have e1 : q - p = 0 := by omega
      have e2 : cap - p = 0 := by omega
      rw [if_pos hcl, e1, e2]
      exact .emp _ _ _
    · rw [if_neg hcl]
      have ea : (some (⟨b, off, none⟩ : Addr)).map (fun x => x.add (p * es)) = some ⟨b, off + p * es, none⟩ := by
        simp only [Option.map_some, Addr.add]
        split
        · rename_i h; rw [h]; rfl
        · rfl
      have eb : (some (⟨b, off, none⟩ : Addr)).map (·.add (p * es)) = some ⟨b, off + p * es, none⟩ := ea
      rw [eb]
      refine .sl (q - p) es row' b (off + p * es) (cap - p) (fun i j => u (p + i) j) (fun h => hA ?_) (by omega) (by omega) (fun i hi => ?_) (fun i j hi hj => ?_) (fun i j c hi hj => ?_)
      · exact Nat.lt_of_lt_of_le h (Nat.mul_le_mul_right _ (by omega))
      · rw [hrow i hi]; exact hl _ (by omega)
      · have := hu (p + i) j (by omega) hj
        rw [Nat.add_mul] at this
        rw [show off + p * es + i * es + j = off + (p * es + i * es) + j by omega]
        exact this
      · rw [hrow i hi] at hj
        exact hrr (p + i) j c (by omega) hj

theorem sliceW (hT : TblOk P T) {B : Base} {Q : Exit → Act → World → Prop} {q : Bool} {all : Array Oper} {o : Oper} {rest : List Oper} {K : List KI} {s : AS} {t e : TypeId} {x : Operand} {lo hi : Option Operand} {i j : TI}
    (hg : o.guard = none) (ho : o.op = .slice t x lo hi none) (hi' : find T t = some i) (he : i.elem = some e) (hj : find T e = some j)
    {n es : Nat} {row : Nat → List Cell} (hx : s.ev x = .c (.sl n es row)) (hes : es = j.size) {l h : Int} (hl : bnd s lo 0 = some l) (hh : bnd s hi n = some h)
    (hb : 0 ≤ l ∧ l ≤ h ∧ h ≤ n) (c : Cell) (hc : SubOk n es row l h c)
    (hgo : GW P B Q (.ops q all rest :: K) (s.put o.dst (.c c))) : GW P B Q (.ops q all (o :: rest) :: K) s := by
  subst hes
  refine ⟨G_ops_read hg (fun E a w hs => ?_)⟩
  have hd := hs.ev x
  rw [hx] at hd
  cases hd with
  | c hr =>
    obtain ⟨ad, cap, hv, hcap, hrep⟩ := rep_sub hr hb.1 hb.2.1 hb.2.2 hc
    have h1 := bnd_val hs hl
    have h2 := bnd_val hs hh
    refine ⟨_, fun w' _ => ?_, hgo.rec fun hg => hg _ _ _ (hs.put o.dst (.c hrep))⟩
    have hrun := run_sub (a := ad) (hT t i hi') he (hT e j hj) h1 h2 hb.1 hb.2.1 hb.2.2 hcap w'
    obtain ⟨dst, op', ty, pos, after, guard⟩ := o
    simp only at ho
    subst ho
    simp [execOp, hv, hrun]

theorem slC_sub {α : Type} [Inhabited α] {es : Nat} {e : α → List Cell} {xs : List α} {l h : Int} (h0 : 0 ≤ l) (h1 : l ≤ h) (h2 : h ≤ xs.length) :
    SubOk xs.length es (fun i => e (xs.getD i default)) l h (slC es e ((xs.drop l.toNat).take (h - l).toNat)) := by
  have hlen : ((xs.drop l.toNat).take (h - l).toNat).length = (h - l).toNat := by simp; omega
  refine ⟨_, by rw [slC, hlen], fun i hi => ?_⟩
  simp [List.getD, hi]

end Go.Sx

/- Contracts that lean on what memory holds when the call begins (a table that start-up code laid). -/
set_option maxRecDepth 100000
namespace Go.Sx
open Go
open Go.RowKit (Below)
variable {P : Program} {T : List (TypeId × TI)}

/-- A contract in worlds of which H is known. -/
def MeetsT (P : Program) (H : World → Prop) (f : FuncId) (ins outs : List Arg) : Prop :=
  Callable P f ∧ ∀ (w : World), H w → ∀ (vs : List Value), vs.length = ins.length → (∀ i x, ins[i]? = some x → RepArg w (fun _ => False) x (vs.getD i undef)) →
    Calls P f vs.toArray w fun e w' => Gives w w' outs e
theorem Meets.toT {H : World → Prop} {f : FuncId} {ins outs : List Arg} (h : Meets P f ins outs) : MeetsT P H f ins outs := ⟨h.1, fun w _ => h.2 w⟩

def Stays (H : World → Prop) : Prop := ∀ w w', Below w.heap.size w w' → H w → H w'

theorem below_of_rel {W w : World} (h : Base.rel ⟨W, fun _ => False⟩ w) : Below W.heap.size W w := ⟨h.os, h.tape, h.output, h.size, fun k hk => h.block k hk (fun h => h)⟩

theorem call_ownT {W : World} {H : World → Prop} {Q : Exit → Act → World → Prop} {q : Bool} {f : FuncId} {xs : List AV} {dst : Option Tmp} {K : List KI} {s : AS} {ins outs : List Arg} (hf : MeetsT P H f ins outs) (hst : Stays H) (hW : H W) (hx : argsOf s xs = some ins)
    (h : G P ⟨W, fun _ => False⟩ Q K ((addRes outs s).2.put dst (addRes outs s).1)) : CallG P ⟨W, fun _ => False⟩ Q q f xs dst K s := by
  refine ⟨hf.1, fun E a w hs vs hl hv => ?_⟩
  obtain ⟨h1, h2⟩ := argsOf_get hx
  refine (hf.2 w (hst W w (below_of_rel hs.base) hW) vs (by omega) (fun i x hi => ?_)).mono (fun e w' hg => ?_)
  · obtain ⟨y, hy, hc⟩ := h2 i x hi
    exact argOf_rep hs hc (hv i y hy)
  · obtain ⟨hb, rs, fps, rfl, hrl, hro, hfr, hdis⟩ := hg
    have hA := hs.call hb
    obtain ⟨E', hAd, hL, hD⟩ := addArgs_ok outs rs fps s E hA hrl hro (fun i hi => (hfr i hi).1) hdis (fun i hi b hb' => by
      have hge := (hfr i hi).2 b hb'
      refine ⟨.inr hge, fun hav => ?_, .inl (Nat.le_trans hs.base.size hge)⟩
      have := hs.avoid_lt hav
      omega)
    have hres := getD_resVal outs (addArgs outs s).1 rs hrl hL hD
    rw [addRes_eq] at h
    exact ⟨_, rfl, fun _ => .of_below hb, h E' _ w' ((hAd.isA.put dst hres).is)⟩

theorem call_roT {W : World} {H : World → Prop} {Q : Exit → Act → World → Prop} {q : Bool} {f : FuncId} {xs : List AV} {dst : Option Tmp} {K : List KI} {s : AS} {ins outs : List Arg} (hf : MeetsT P H f ins outs) (hst : Stays H) (hW : H W) (hx : argsOf s xs = some ins)
    (h : G P ⟨W, fun _ => False⟩ Q K (s.put dst (resAV outs))) : CallG P ⟨W, fun _ => False⟩ Q q f xs dst K s := by
  refine ⟨hf.1, fun E a w hs vs hl hv => ?_⟩
  obtain ⟨h1, h2⟩ := argsOf_get hx
  refine (hf.2 w (hst W w (below_of_rel hs.base) hW) vs (by omega) (fun i x hi => ?_)).mono (fun e w' hg => ?_)
  · obtain ⟨y, hy, hc⟩ := h2 i x hi
    exact argOf_rep hs hc (hv i y hy)
  · obtain ⟨hb, rs, fps, rfl, hrl, hro, hfr, hdis⟩ := hg
    have hI := (hs.call hb).is
    have hno : ∀ i, i < outs.length → ∀ b ∈ fps i, ¬ s.avoid E b := fun i hi b hb' hav => by
      have := hs.avoid_lt hav
      have := (hfr i hi).2 b hb'
      omega
    have hone : ∀ i y, outs[i]? = some y → Den E w' (s.avoid E) s.next (argAV y) (rs.getD i undef) := by
      intro i y hy
      have hi : i < outs.length := (List.getElem?_eq_some_iff.1 hy).1
      have ho := hro i y hy
      cases y with
      | one c => exact .c (OwnRep.rep ho (hno i hi))
      | agg cs =>
        obtain ⟨us, gps, hu, hul, hur, hfp⟩ := ho
        rw [hu]
        refine .agg us (by simp [hul]) (fun j x hj => ?_)
        simp only [List.getElem?_map, Option.map_eq_some_iff] at hj
        obtain ⟨c, hc, rfl⟩ := hj
        have hj : j < cs.length := (List.getElem?_eq_some_iff.1 hc).1
        exact .c ((hur j c hc).rep (fun b hb' => hno i hi b (by rw [hfp]; exact mem_flat hj hb')))
      | ptr cs => exact ho.elim
      | fn f caps => exact ho.elim
    have hres : Den E w' (s.avoid E) s.next (resAV outs) (resVal rs) := by
      have := getD_resVal (E := E) (A := s.avoid E) (N := s.next) (w := w') outs (outs.map argAV) rs hrl (by simp) (fun i x hi => by
        simp only [List.getElem?_map, Option.map_eq_some_iff] at hi
        obtain ⟨y, hy, rfl⟩ := hi
        exact hone i y hy)
      match outs, this with
      | [], this => exact this
      | [o], this => exact this
      | o1 :: o2 :: r, this => exact this
    exact ⟨_, rfl, fun _ => .of_below hb, h E _ w' (hI.put dst hres)⟩

theorem enterT0 {H : World → Prop} {f : FuncId} {fn : Func} {c : Code} {ins outs : List Arg} (hf : P.funcs[f]? = some fn) (hb : fn.body = some c) (hn : (fn.name == "runtime.NumGoroutine") = false)
    (h : ∀ W, H W → G P ⟨W, fun _ => False⟩ (bodyPost P fn fun e w' => Gives W w' outs e) [.code c] (start fn.ntmps ins)) : MeetsT P H f ins outs := by
  refine ⟨⟨fn, hf, hn, by simp [hb]⟩, fun w hH vs hl hv => calls_of_wp hf hb ?_⟩
  refine h w hH ⟨fun _ => .slice none 0 0, fun _ => []⟩ _ w ?_
  have nav : ∀ b, ¬ (start fn.ntmps ins).avoid ⟨fun _ => .slice none 0 0, fun _ => []⟩ b := by
    rintro b (⟨x, hx, _⟩ | ⟨y, hy, _⟩)
    · simp [start] at hx
    · simp [start] at hy
  have nb : ∀ x, x ∉ (start fn.ntmps ins).boxes := by simp [start]
  have no : ∀ x, x ∉ (start fn.ntmps ins).own := by simp [start]
  refine ⟨rfl, by simp [start], by simp [start, hl], fun i x hx => ?_, fun x hx => absurd hx (nb x), fun x hx => absurd hx (nb x), by simp [start], fun y hy => absurd hy (no y), by simp [start], fun y hy => absurd hy (no y), fun x hx => absurd hx (nb x), fun _ _ => rfl,
    ⟨rfl, rfl, rfl, Nat.le_refl _, fun _ _ _ => rfl⟩, fun b hb => absurd hb (nav b)⟩
  simp only [start] at hx
  by_cases hi : i < ins.length
  · rw [List.getElem?_append_left (by simpa using hi)] at hx
    simp only [List.getElem?_map, Option.map_eq_some_iff] at hx
    obtain ⟨y, hy, rfl⟩ := hx
    have hr := hv i y hy
    have hiv : i < vs.length := by omega
    have e : (vs.toArray ++ Array.replicate (fn.ntmps - vs.toArray.size) undef).getD i undef = vs.getD i undef := by
      simp [Array.getD, List.getD, hiv, show i < vs.length + (fn.ntmps - vs.length) by omega]
    rw [e]
    cases y with
    | one c => exact .c (hr.move (fun _ _ _ => rfl) (fun b _ hb => absurd hb (nav b)))
    | agg cs =>
      obtain ⟨us, hu, hul, hur⟩ := hr
      rw [hu]
      refine .agg us (by simp [hul]) (fun j x hj => ?_)
      simp only [List.getElem?_map, Option.map_eq_some_iff] at hj
      obtain ⟨c, hc, rfl⟩ := hj
      exact .c ((hur j c hc).move (fun _ _ _ => rfl) (fun b _ hb => absurd hb (nav b)))
    | ptr cs => exact hr.den (fun b hb => absurd hb (nav b))
    | fn f caps =>
      obtain ⟨us, hu, hul, hur⟩ := hr
      rw [hu]
      refine .fn us (by simp [hul]) (fun j x hj => ?_)
      simp only [List.getElem?_map, Option.map_eq_some_iff] at hj
      obtain ⟨c, hc, rfl⟩ := hj
      have hr := hur j c hc
      cases c with
      | one c => exact .c (Rep.move hr (fun _ _ _ => rfl) (fun b _ hb => absurd hb (nav b)))
      | ptr cs => exact RepPtr.den hr (fun b hb => absurd hb (nav b))
  · rw [List.getElem?_append_right (by simp; omega)] at hx
    obtain rfl : AV.any = x := by
      have := List.mem_of_getElem? hx
      simpa using (List.eq_of_mem_replicate this).symm
    exact .any _


theorem enterT (hT : TblOk P T) (wr : Bool) {H : World → Prop} {f : FuncId} {fn : Func} {c : Code} {ins outs : List Arg} (hf : P.funcs[f]? = some fn) (hb : fn.body = some c) (hn : (fn.name == "runtime.NumGoroutine") = false)
    (h : ∀ W, H W → vcW P ⟨W, fun _ => False⟩ (bodyPost P fn fun e w' => Gives W w' outs e) (run0 T wr 100000 [.code c] (start fn.ntmps ins))) : MeetsT P H f ins outs :=
  enterT0 hf hb hn fun W hW => (go hT wr (h W hW)).rec id

theorem callWT {W : World} {H : World → Prop} {Q : Exit → Act → World → Prop} {q : Bool} {f : FuncId} {xs : List AV} {dst : Option Tmp} {K : List KI} {s : AS} {ins outs : List Arg} (hf : MeetsT P H f ins outs) (hst : Stays H) (hW : H W) (hx : argsOf s xs = some ins)
    (h : GW P ⟨W, fun _ => False⟩ Q K ((addRes outs s).2.put dst (addRes outs s).1)) : CW P ⟨W, fun _ => False⟩ Q q f xs dst K s := ⟨call_ownT hf hst hW hx (h.rec id)⟩

theorem callRT {W : World} {H : World → Prop} {Q : Exit → Act → World → Prop} {q : Bool} {f : FuncId} {xs : List AV} {dst : Option Tmp} {K : List KI} {s : AS} {ins outs : List Arg} (hf : MeetsT P H f ins outs) (hst : Stays H) (hW : H W) (hx : argsOf s xs = some ins)
    (h : GW P ⟨W, fun _ => False⟩ Q K (s.put dst (resAV outs))) : CW P ⟨W, fun _ => False⟩ Q q f xs dst K s := ⟨call_roT hf hst hW hx (h.rec id)⟩

end Go.Sx

/- Decimal numerals: what the loop has after k rounds. -/
set_option maxRecDepth 100000
namespace Go.Sx
open Go

def mk10 (u : Nat) : Nat → Nat
  | 0 => u
  | k + 1 => mk10 u k / 10
def sk10 (u : Nat) : Nat → List UInt8
  | 0 => []
  | k + 1 => UInt8.ofNat (48 + mk10 u k % 10) :: sk10 u k
theorem sk10_len (u k : Nat) : (sk10 u k).length = k := by
  induction k with
  | zero => rfl
  | succ k ih => simp [sk10, ih]
theorem mk10_eq (u k : Nat) : mk10 u k = u / 10 ^ k := by
  induction k with
  | zero => simp [mk10]
  | succ k ih => rw [mk10, ih, Nat.div_div_eq_div_mul, Nat.pow_succ]
def DecI (u k : Nat) : Prop := (0 < mk10 u k ∧ Lib.decDigits u = Lib.decDigits (mk10 u k) ++ sk10 u k) ∨ (mk10 u k = 0 ∧ Lib.decDigits u = sk10 u k)
theorem decI_zero {u : Nat} (h : 0 < u) : DecI u 0 := .inl ⟨h, by simp [mk10, sk10]⟩
theorem decI_succ {u k : Nat} (h : DecI u k) (hm : 0 < mk10 u k) : DecI u (k + 1) := by
  rcases h with ⟨_, h⟩ | ⟨h, _⟩
  · by_cases hs : mk10 u k < 10
    · refine .inr ⟨by rw [mk10]; omega, ?_⟩
      rw [h, Lib.decDigits, dif_pos hs, sk10, Nat.mod_eq_of_lt hs]; rfl
    · refine .inl ⟨by rw [mk10]; omega, ?_⟩
      rw [h, Lib.decDigits, dif_neg hs, sk10, mk10]; simp
  · omega
theorem mk10_le (u k : Nat) : mk10 u k ≤ u := by rw [mk10_eq]; exact Nat.div_le_self _ _
theorem mk10_k {u k : Nat} (hu : u ≤ 9223372036854775808) (hm : 0 < mk10 u k) : k < 19 := by
  rw [mk10_eq] at hm
  by_cases h : k < 19
  · exact h
  · exfalso
    have h1 : 10 ^ 19 ≤ 10 ^ k := Nat.pow_le_pow_right (by decide) (by omega)
    have h2 : u < 10 ^ k := Nat.lt_of_lt_of_le (by omega) h1
    rw [Nat.div_eq_of_lt h2] at hm
    omega
theorem tdiv10 {σ : Int} (hσ : σ = 1 ∨ σ = -1) (m : Nat) : (σ * (m : Int)).tdiv 10 = σ * ((m / 10 : Nat) : Int) := by
  rcases hσ with rfl | rfl
  · simp only [Int.one_mul]; rw [Int.tdiv_eq_ediv_of_nonneg (by omega)]; omega
  · rw [show (-1 : Int) * (m : Int) = -(m : Int) by omega, Int.neg_tdiv, Int.tdiv_eq_ediv_of_nonneg (by omega)]; omega
theorem tmod10 {σ : Int} (hσ : σ = 1 ∨ σ = -1) (m : Nat) : (σ * (m : Int)).tmod 10 = σ * ((m % 10 : Nat) : Int) := by
  rcases hσ with rfl | rfl
  · simp only [Int.one_mul]; rw [Int.tmod_eq_emod_of_nonneg (by omega)]; omega
  · rw [show (-1 : Int) * (m : Int) = -(m : Int) by omega, Int.neg_tmod, Int.tmod_eq_emod_of_nonneg (by omega)]; omega

/-- A number's text. -/
def dec (n : Int) : ByteArray := ⟨(Lib.itoa n).toArray⟩

end Go.Sx

/- Contracts of the library's, taken over. -/
set_option maxRecDepth 100000
namespace Go.Sx
open Go
open Go.RowKit (Below)
variable {P : Program}

theorem gives_one {w w' : World} {x : Value} (hb : Below w.heap.size w w') (h : x.oneCell' = true) : Gives w w' [.one (.val x)] (.returned x) :=
  ⟨hb, [x], fun _ => [], rfl, rfl, fun i y hi => by
    cases i with
    | zero => simp only [List.getElem?_cons_zero, Option.some.injEq] at hi; subst hi; exact .val x h
    | succ i => simp at hi, fun i hi => ⟨List.nodup_nil, fun b hb => by cases hb⟩, fun i j hi hj hne b hb => by cases hb⟩

theorem rep_val {w : World} {A : Nat → Prop} {x v : Value} (h : Rep w A (.val x) v) : v = x := by
  cases h; rfl

theorem below_grow (w : World) (k : Nat) (os : Array Obj) : Below w.heap.size w (Sort.grow (w.drewN k) os) :=
  ⟨rfl, rfl, rfl, by rw [Sort.size_grow]; exact Nat.le_add_right _ _, fun i hi => (Sort.heap_grow_old (w.drewN k) os hi)⟩

theorem var_stays {n : String} {cs : Array Value} {w w' : World} (hb : Below w.heap.size w w') (h : w.var? P n = some cs) : w'.var? P n = some cs := by
  unfold World.var? at h ⊢
  cases hg : P.globalNamed n with
  | none => rw [hg] at h; cases h
  | some g =>
    rw [hg] at h
    simp only [Option.bind_some] at h ⊢
    have hlt : g < w.heap.size := by
      by_cases hlt : g < w.heap.size
      · exact hlt
      · exfalso; rw [Array.getElem?_eq_none (by omega)] at h; cases h
    rw [hb.block g hlt]; exact h

theorem cast_one {α : Type} [Inhabited α] {es : Nat} {e : α → List Cell} {x : α} {row : Nat → List Cell} (h0 : row 0 = e x) :
    CastOk (.sl 1 es row) (slC es e [x]) := by
  refine ⟨rfl, rfl, fun i hi => ?_⟩
  match i, hi with
  | 0, _ => rw [h0]; exact CastL.rfl' _

theorem bsz (a : Array UInt8) : (ByteArray.mk a).size = a.size := rfl
theorem sk10_size (u k : Nat) : (ByteArray.mk (sk10 u k).toArray).size = k := by rw [bsz, List.size_toArray, sk10_len]

theorem dec_size {n : Int} (h : inR .i64 n) : (dec n).size ≤ 21 := by
  rw [dec, bsz, List.size_toArray]; exact Lib.itoa_length_le n h.1 h.2

theorem ba_cons (b : UInt8) (l : List UInt8) : (ByteArray.mk #[b]) ++ (ByteArray.mk l.toArray) = ByteArray.mk (b :: l).toArray := by
  apply ByteArray.ext
  simp [ByteArray.data_append]

theorem within_f {n lo hi : Int} : within n lo hi = false ↔ ¬ (lo ≤ n ∧ n ≤ hi) := by
  rw [← within_iff]; simp

theorem wrap_in (n : Int) : inR .i64 (IntKind.wrap .i64 n) := by
  show _ ∧ _
  simp only [IntKind.wrap, IntKind.bits, IntKind.signed, Bool.true_and]
  split
  · rename_i h; simp at h; omega
  · rename_i h; simp at h; omega

/-- A list's row, as it was built. -/
theorem cast_list {α : Type} [Inhabited α] {es : Nat} {e : α → List Cell} {n : Nat} {row : Nat → List Cell} (xs : List α) (hn : xs.length = n) (h : ∀ i, i < n → row i = e (xs.getD i default)) :
    CastOk (.sl n es row) (slC es e xs) := by
  subst hn
  exact ⟨rfl, rfl, fun i hi => by rw [h i hi]; exact CastL.rfl' _⟩

end Go.Sx

/- Ways that meet again: one statement carried out, then only what is named is known. -/
set_option maxRecDepth 100000
namespace Go.Sx
open Go
open Go.RowKit (Below)
variable {P : Program} {T : List (TypeId × TI)}

theorem cutW (hT : TblOk P T) (wr : Bool) {J : Type} {B : Base} {Q : Exit → Act → World → Prop} {c : Code} {K : List KI} {s : AS} (fs : List Nat) (us : J → List (Nat × AV)) (bs : J → List Bx) (os : J → List Ow) (φ : J → Prop)
    (h1 : vcW P B Q (run0 T wr 100000 (.code c :: .loop (Inv B (fun j => s.upd fs (us j) (bs j) (os j)) φ (fun _ => 0) 1) :: K) s))
    (h2 : ∀ j, φ j → vcW P B Q (upK s.slots 0 fs (us j) fun slots => run0 T wr 100000 K { s with slots := slots, boxes := bs j, own := os j })) : GW P B Q (.code c :: K) s := by
  refine ⟨fun E a w hs => ?_⟩
  have g1 : G P B Q (.code c :: .loop (Inv B (fun j => s.upd fs (us j) (bs j) (os j)) φ (fun _ => 0) 1) :: K) s := (go hT wr h1).rec id
  refine Code.wp_mono (fun e a' w' hq => ?_) (g1 E a w hs)
  cases e with
  | normal =>
    obtain ⟨j, hj, _, E', hE'⟩ := (hq : Inv B (fun j => s.upd fs (us j) (bs j) (os j)) φ (fun _ => 0) 1 a' w')
    have g2 : G P B Q K (s.upd fs (us j) (bs j) (os j)) := (go hT wr (by have := h2 j hj; rw [upK_eq] at this; exact this)).rec id
    exact g2 E' a' w' hE'
  | exit id => exact hq
  | goto l => exact hq
  | ret => exact hq
  | panic c => exact hq
  | outgrown => exact hq

/-- As 'enterW', but so many steps alone. -/
theorem enterF (n : Nat) (hT : TblOk P T) (wr : Bool) {f : FuncId} {fn : Func} {c : Code} {ins outs : List Arg} (hf : P.funcs[f]? = some fn) (hb : fn.body = some c) (hn : (fn.name == "runtime.NumGoroutine") = false)
    (h : ∀ W, vcW P ⟨W, fun _ => False⟩ (bodyPost P fn fun e w' => Gives W w' outs e) (run0 T wr n [.code c] (start fn.ntmps ins))) : Meets P f ins outs :=
  enter hf hb hn fun W => sound hT wr n _ _ (vcW_vc _ (h W))

theorem enterTF (n : Nat) (hT : TblOk P T) (wr : Bool) {H : World → Prop} {f : FuncId} {fn : Func} {c : Code} {ins outs : List Arg} (hf : P.funcs[f]? = some fn) (hb : fn.body = some c) (hn : (fn.name == "runtime.NumGoroutine") = false)
    (h : ∀ W, H W → vcW P ⟨W, fun _ => False⟩ (bodyPost P fn fun e w' => Gives W w' outs e) (run0 T wr n [.code c] (start fn.ntmps ins))) : MeetsT P H f ins outs :=
  enterT0 hf hb hn fun W hW => sound hT wr n _ _ (vcW_vc _ (h W hW))

/-- So many steps more. -/
theorem goF (n : Nat) (hT : TblOk P T) (wr : Bool) {B : Base} {Q : Exit → Act → World → Prop} {K : List KI} {s : AS} (h : vcW P B Q (run0 T wr n K s)) : GW P B Q K s :=
  ⟨sound hT wr n _ _ (vcW_vc _ h)⟩

theorem rep_str {w : World} {A : Nat → Prop} {xs : List ByteArray} {v : Value} (h : Rep w A (sStr xs) v) :
    (∃ a c, v = .slice a 0 c ∧ xs = []) ∨ (∃ b o c, v = .slice (some ⟨b, o, none⟩) xs.length c ∧ xs.length ≤ c ∧ ∀ (j : Nat) x, xs[j]? = some x → w.cell? ⟨b, o + j, none⟩ = some (.string x)) := by
  change Rep w A (.sl xs.length 1 fun i => [vs (xs.getD i default)]) v at h
  generalize hn : xs.length = n at h
  generalize hrow : (fun i => [vs (xs.getD i default)]) = row at h
  cases h with
  | nil => exact .inl ⟨none, 0, rfl, List.eq_nil_of_length_eq_zero hn⟩
  | emp => exact .inl ⟨_, 0, rfl, List.eq_nil_of_length_eq_zero hn⟩
  | sl =>
    rename_i b off cap u hc hn' hA hu hr hl
    refine .inr ⟨b, off, cap, rfl, hn', fun j x hx => ?_⟩
    have hj : j < xs.length := (List.getElem?_eq_some_iff.1 hx).1
    have h1 := hu j 0 (by omega) (by omega)
    have h2 := hr j 0 (vs x) (by omega) (by rw [← hrow]; simp [List.getD, hx])
    rw [Nat.mul_one, Nat.add_zero] at h1
    rw [h1]
    exact congrArg some (rep_val h2)

/-- Texts, with a blank between them. -/
def joinB (l : List ByteArray) : ByteArray := ⟨(Lib.join (l.map (·.data.toList)) [32]).toArray⟩
theorem join_snoc (l : List (List UInt8)) (t sep : List UInt8) (h : l ≠ []) : Lib.join (l ++ [t]) sep = Lib.join l sep ++ sep ++ t := by
  match l, h with
  | x :: r, _ =>
    rw [List.cons_append, Lib.join_cons, Lib.join_cons]
    simp [Lib.joinTail]
theorem joinB_one (t : ByteArray) : joinB [t] = t := by
  simp [joinB, Lib.join_one]
theorem joinB_snoc (l : List ByteArray) (t : ByteArray) (h : l ≠ []) : joinB (l ++ [t]) = joinB l ++ ⟨#[32]⟩ ++ t := by
  apply ByteArray.ext
  simp only [joinB, List.map_append, List.map_cons, List.map_nil, ByteArray.data_append]
  rw [join_snoc _ _ _ (by simpa using h)]
  simp

end Go.Sx

/- Contracts whose results are one of many. -/
set_option maxRecDepth 100000
namespace Go.Sx
open Go
open Go.RowKit (Below)
variable {P : Program} {T : List (TypeId × TI)}

/-- The call gives the results of some i. -/
def MeetsE (P : Program) (H : World → Prop) (f : FuncId) (ins : List Arg) {ι : Type} (φ : ι → Prop) (outs : ι → List Arg) : Prop :=
  Callable P f ∧ ∀ (w : World), H w → ∀ (vs : List Value), vs.length = ins.length → (∀ i x, ins[i]? = some x → RepArg w (fun _ => False) x (vs.getD i undef)) →
    Calls P f vs.toArray w fun e w' => ∃ i, φ i ∧ Gives w w' (outs i) e

theorem callRE {W : World} {H : World → Prop} {Q : Exit → Act → World → Prop} {q : Bool} {f : FuncId} {xs : List AV} {dst : Option Tmp} {K : List KI} {s : AS} {ins : List Arg} {ι : Type} {φ : ι → Prop} {outs : ι → List Arg}
    (hf : MeetsE P H f ins φ outs) (hst : Stays H) (hW : H W) (hx : argsOf s xs = some ins)
    (h : ∀ i, φ i → GW P ⟨W, fun _ => False⟩ Q K (s.put dst (resAV (outs i)))) : CW P ⟨W, fun _ => False⟩ Q q f xs dst K s := by
  refine ⟨⟨hf.1, fun E a w hs vs hl hv => ?_⟩⟩
  obtain ⟨h1, h2⟩ := argsOf_get hx
  refine (hf.2 w (hst W w (below_of_rel hs.base) hW) vs (by omega) (fun i x hi => ?_)).mono (fun e w' ⟨k, hk, hg⟩ => ?_)
  · obtain ⟨y, hy, hc⟩ := h2 i x hi
    exact argOf_rep hs hc (hv i y hy)
  · -- one result at a time, as for a contract with fixed results
    have hone : MeetsT P (fun _ => True) f ins (outs k) → True := fun _ => trivial
    obtain ⟨hb, rs, fps, rfl, hrl, hro, hfr, hdis⟩ := hg
    have hI := (hs.call hb).is
    have hno : ∀ i, i < (outs k).length → ∀ b ∈ fps i, ¬ s.avoid E b := fun i hi b hb' hav => by
      have := hs.avoid_lt hav
      have := (hfr i hi).2 b hb'
      omega
    have hone : ∀ i y, (outs k)[i]? = some y → Den E w' (s.avoid E) s.next (argAV y) (rs.getD i undef) := by
      intro i y hy
      have hi : i < (outs k).length := (List.getElem?_eq_some_iff.1 hy).1
      have ho := hro i y hy
      cases y with
      | one c => exact .c (OwnRep.rep ho (hno i hi))
      | agg cs =>
        obtain ⟨us, gps, hu, hul, hur, hfp⟩ := ho
        rw [hu]
        refine .agg us (by simp [hul]) (fun j x hj => ?_)
        simp only [List.getElem?_map, Option.map_eq_some_iff] at hj
        obtain ⟨c, hc, rfl⟩ := hj
        have hj : j < cs.length := (List.getElem?_eq_some_iff.1 hc).1
        exact .c ((hur j c hc).rep (fun b hb' => hno i hi b (by rw [hfp]; exact mem_flat hj hb')))
      | ptr cs => exact ho.elim
      | fn f caps => exact ho.elim
    have hres : Den E w' (s.avoid E) s.next (resAV (outs k)) (resVal rs) := by
      have := getD_resVal (E := E) (A := s.avoid E) (N := s.next) (w := w') (outs k) ((outs k).map argAV) rs hrl (by simp) (fun i x hi => by
        simp only [List.getElem?_map, Option.map_eq_some_iff] at hi
        obtain ⟨y, hy, rfl⟩ := hi
        exact hone i y hy)
      match (outs k), this with
      | [], this => exact this
      | [o], this => exact this
      | o1 :: o2 :: r, this => exact this
    exact ⟨_, rfl, fun _ => .of_below hb, (h k hk).rec fun g => g E _ w' (hI.put dst hres)⟩

theorem gives_two {w w' : World} {x y : Value} (hb : Below w.heap.size w w') (hx : x.oneCell' = true) (hy : y.oneCell' = true) : Gives w w' [.one (.val x), .one (.val y)] (.returned (.tuple #[x, y])) :=
  ⟨hb, [x, y], fun _ => [], rfl, rfl, fun i z hi => by
    match i, hi with
    | 0, hi => simp only [List.getElem?_cons_zero, Option.some.injEq] at hi; subst hi; exact .val x hx
    | 1, hi => simp only [List.getElem?_cons_succ, List.getElem?_cons_zero, Option.some.injEq] at hi; subst hi; exact .val y hy
    | i + 2, hi => simp at hi, fun i hi => ⟨List.nodup_nil, fun b hb => by cases hb⟩, fun i j hi hj hne b hb => by cases hb⟩

end Go.Sx

/- A part of a text; an error held against nil. -/
set_option maxRecDepth 100000
namespace Go.Sx
open Go
variable {P : Program} {T : List (TypeId × TI)}

theorem run_substr {t : TypeId} (ht : P.underlying t = some .string) {b : ByteArray} {lo hi' : Option Value} {l h : Int}
    (hl : BndV lo l 0) (hh : BndV hi' h b.size) (h0 : 0 ≤ l) (h1 : l ≤ h) (h2 : h ≤ b.size) (w : World) :
    (Instr.sliceAt t (.string b) lo hi' none).run P w = .ok (.string (b.extract l.toNat h.toNat)) w := by
  rw [run_sliceAt_string w t _ _ _ _ ht]
  rcases hl with ⟨rfl, rfl⟩ | ⟨k1, rfl⟩ <;> rcases hh with ⟨rfl, rfl⟩ | ⟨k2, rfl⟩
  · rw [run_slice_string_all w t b ht]; simp
  · rw [run_slice_string_h w t b ht k2 h h1 h2]; simp
  · rw [run_slice_string_l w t b ht k1 l h0 (by omega)]; simp
  · rw [run_slice_string w t b k1 k2 l h ht h0 h1 h2]

theorem substrW (hT : TblOk P T) {B : Base} {Q : Exit → Act → World → Prop} {q : Bool} {all : Array Oper} {o : Oper} {rest : List Oper} {K : List KI} {s : AS} {t : TypeId} {x : Operand} {lo hi : Option Operand} {i : TI}
    (hg : o.guard = none) (ho : o.op = .slice t x lo hi none) (hi' : find T t = some i) (hstr : i.str = true)
    {b : ByteArray} (hx : s.ev x = .c (vs b)) {l h : Int} (hl : bnd s lo 0 = some l) (hh : bnd s hi b.size = some h)
    (hb : 0 ≤ l ∧ l ≤ h ∧ h ≤ b.size)
    (hgo : GW P B Q (.ops q all rest :: K) (s.put o.dst (.c (vs (b.extract l.toNat h.toNat))))) : GW P B Q (.ops q all (o :: rest) :: K) s := by
  refine ⟨G_ops_read hg (fun E a w hs => ?_)⟩
  have hd := hs.ev x
  rw [hx] at hd
  have e := den_int hd
  have h1 := bnd_val hs hl
  have h2 := bnd_val hs hh
  have hden : ∀ {E : Env} {w : World} {A : Nat → Prop} {N : Nat} (v : Value), v.oneCell' = true → Den E w A N (.c (.val v)) v := fun v hv => .c (.val v hv)
  refine ⟨_, fun w' _ => ?_, hgo.rec fun hg => hg _ _ _ (hs.put o.dst (hden _ rfl))⟩
  have hrun := run_substr (run_str_ti (hT t i hi') hstr) h1 h2 hb.1 hb.2.1 hb.2.2 w'
  obtain ⟨dst, op', ty, pos, after, guard⟩ := o
  simp only at ho
  subst ho
  simp [execOp, e, hrun]

/-- 'err != nil', for a value that is known. -/
theorem errW {B : Base} {Q : Exit → Act → World → Prop} {q : Bool} {all : Array Oper} {o : Oper} {rest : List Oper} {K : List KI} {s : AS} {t u : TypeId} {x : Operand} {v : Value}
    (hg : o.guard = none) (ho : o.op = .binOp .neq t x (.const .nilIface) u) (hu : P.underlying t = some (.interface (P.methodsAt t)))
    (hx : s.ev x = .c (.val v)) {r : Bool} (hv : (v = .nilIface ∧ r = false) ∨ (∃ y z, v = .iface y z ∧ r = true))
    (hgo : GW P B Q (.ops q all rest :: K) (s.put o.dst (.c (vb r)))) : GW P B Q (.ops q all (o :: rest) :: K) s := by
  refine ⟨G_ops_read hg (fun E a w hs => ?_)⟩
  have hd := hs.ev x
  rw [hx] at hd
  have e := den_int hd
  have hden : ∀ {E : Env} {w : World} {A : Nat → Prop} {N : Nat} (v : Value), v.oneCell' = true → Den E w A N (.c (.val v)) v := fun v hv => .c (.val v hv)
  refine ⟨.bool r, fun w' _ => ?_, hgo.rec fun hg => hg _ _ _ (hs.put o.dst (hden _ rfl))⟩
  obtain ⟨dst, op', ty, pos, after, guard⟩ := o
  simp only at ho
  subst ho
  have ec : a.eval (.const .nilIface) = .nilIface := rfl
  rcases hv with ⟨rfl, rfl⟩ | ⟨y, z, rfl, rfl⟩
  · simp [execOp, e, eqGuard, run_neq_nil_nil w' t hu, ec]
  · simp [execOp, e, eqGuard, run_neq_held_nil w' t y z hu, ec]

end Go.Sx

/- Numerals read back; fields of a line: plain Lean. -/
set_option maxRecDepth 100000
namespace Go.Sx
open Go

def isD (b : UInt8) : Prop := 48 ≤ b.toNat ∧ b.toNat ≤ 57
instance (b : UInt8) : Decidable (isD b) := by unfold isD; infer_instance
def dstep (n : Nat) (b : UInt8) : Nat := 10 * n + (b.toNat - 48)
def dval (acc : Nat) (l : List UInt8) : Nat := l.foldl dstep acc
theorem dval_cons (acc : Nat) (x : UInt8) (l : List UInt8) : dval acc (x :: l) = dval (10 * acc + (x.toNat - 48)) l := by
  simp only [dval, List.foldl_cons, dstep]
theorem dval_append (acc : Nat) (l : List UInt8) (b : UInt8) : dval acc (l ++ [b]) = 10 * dval acc l + (b.toNat - 48) := by
  simp only [dval, List.foldl_append, List.foldl_cons, List.foldl_nil, dstep]
theorem dval_ge (acc : Nat) (l : List UInt8) : acc ≤ dval acc l := by
  induction l generalizing acc with
  | nil => exact Nat.le_refl _
  | cons x l ih =>
    have := ih (10 * acc + (x.toNat - 48))
    rw [dval_cons]
    omega
theorem dval_lt (l : List UInt8) (h : ∀ b ∈ l, isD b) : dval 0 l < 10 ^ l.length := by
  suffices hh : ∀ (l : List UInt8) (acc : Nat), (∀ b ∈ l, isD b) → dval acc l < (acc + 1) * 10 ^ l.length by simpa using hh l 0 h
  intro l
  induction l with
  | nil => intro acc _; show acc < (acc + 1) * 10 ^ 0; omega
  | cons x l ih =>
    intro acc h
    have h1 := ih (10 * acc + (x.toNat - 48)) (fun b hb => h b (List.mem_cons_of_mem _ hb))
    have hx := h x List.mem_cons_self
    unfold isD at hx
    rw [dval_cons, List.length_cons, Nat.pow_succ]
    refine Nat.lt_of_lt_of_le h1 ?_
    rw [Nat.mul_comm (10 ^ l.length) 10, ← Nat.mul_assoc]
    exact Nat.mul_le_mul_right _ (by omega)

theorem digit_toNat {d : Nat} (h : d < 10) : (UInt8.ofNat (48 + d)).toNat = 48 + d := by
  rw [UInt8.toNat_ofNat']; omega
theorem decDigits_isD (u : Nat) : ∀ b ∈ Lib.decDigits u, isD b := by
  induction u using Nat.strongRecOn with
  | _ u ih =>
    rw [Lib.decDigits]
    split
    · rename_i h
      intro b hb
      rw [List.mem_singleton.1 hb, isD, digit_toNat h]; omega
    · rename_i h
      intro b hb
      rcases List.mem_append.1 hb with hb | hb
      · exact ih _ (by omega) b hb
      · rw [List.mem_singleton.1 hb, isD, digit_toNat (by omega)]; omega
theorem decDigits_dval (u : Nat) : dval 0 (Lib.decDigits u) = u := by
  induction u using Nat.strongRecOn with
  | _ u ih =>
    rw [Lib.decDigits]
    split
    · rename_i h
      rw [dval_cons, digit_toNat h]
      simp only [dval, List.foldl_nil]
      omega
    · rename_i h
      rw [dval_append, ih _ (by omega), digit_toNat (by omega)]; omega
theorem decDigits_ne (u : Nat) : Lib.decDigits u ≠ [] := by
  rw [Lib.decDigits]; split <;> simp
theorem decDigits_len (k : Nat) : ∀ u, u < 10 ^ (k + 1) → (Lib.decDigits u).length ≤ k + 1 := by
  induction k with
  | zero =>
    intro u h
    rw [Lib.decDigits, dif_pos (show u < 10 from h)]
    exact Nat.le_refl _
  | succ k ih =>
    intro u h
    rw [Lib.decDigits]
    split
    · exact Nat.succ_le_succ (Nat.zero_le _)
    · rw [List.length_append]
      have h' : u < 10 ^ (k + 1) * 10 := h
      have := ih (u / 10) (by omega)
      exact Nat.succ_le_succ this

theorem parse_dval : ∀ (l : List UInt8) (acc : Nat), (∀ b ∈ l, isD b) → dval acc l ≤ 1000000000000000000 → Lib.parseUint10 acc l = .ok (dval acc l)
  | [], _, _, _ => rfl
  | c :: r, acc, h, hd => by
    have hc : 48 ≤ c.toNat ∧ c.toNat ≤ 57 := h c List.mem_cons_self
    have hd' : dval (10 * acc + (c.toNat - 48)) r ≤ 1000000000000000000 := by rw [← dval_cons]; exact hd
    have hge := dval_ge (10 * acc + (c.toNat - 48)) r
    have e : acc * 10 + (c.toNat - 48) = 10 * acc + (c.toNat - 48) := by omega
    rw [Lib.parseUint10, if_pos hc, if_neg (by omega), e, if_neg (by omega)]
    exact parse_dval r _ (fun b hb => h b (List.mem_cons_of_mem _ hb)) hd'

theorem dec_nat (n : Nat) : (dec n).data.toList = Lib.decDigits n := by
  rw [dec, Lib.itoa, if_neg (by omega)]; simp

theorem atoi_dec (n : Nat) (h : n ≤ 1000000000) : Lib.atoiAll (dec n).data.toList = .ok (n : Int) := by
  rw [dec_nat]
  have hD := decDigits_isD n
  have hv := decDigits_dval n
  have hp := parse_dval (Lib.decDigits n) 0 hD (by omega)
  rw [hv] at hp
  generalize hl : Lib.decDigits n = l at *
  match l, decDigits_ne n with
  | [], hne => exact absurd hl hne
  | c :: r, _ =>
    have hc : 48 ≤ c.toNat ∧ c.toNat ≤ 57 := hD c List.mem_cons_self
    simp only [Lib.atoiAll]
    rw [if_neg (by omega), Lib.parseMag, if_neg (by simp), hp]
    simp only
    rw [if_neg (by omega), if_neg (by omega), if_neg (by omega)]

/-- The number that a text spells, as the program reads it. -/
def rd (s : ByteArray) : Option Nat := if dval 0 s.data.toList ≤ 1000000000 ∧ dec (dval 0 s.data.toList : Nat) = s then some (dval 0 s.data.toList) else none
theorem rd_some {s : ByteArray} {n : Nat} : rd s = some n ↔ n ≤ 1000000000 ∧ dec n = s := by
  unfold rd
  constructor
  · intro h
    split at h
    · rename_i hc
      obtain rfl := Option.some.inj h
      exact hc
    · cases h
  · rintro ⟨h1, rfl⟩
    have e : dval 0 (dec n).data.toList = n := by rw [dec_nat, decDigits_dval]
    rw [e, if_pos ⟨h1, rfl⟩]
theorem rd_le {s : ByteArray} {n : Nat} (h : rd s = some n) : n ≤ 1000000000 := (rd_some.1 h).1
theorem rd_size {s : ByteArray} {n : Nat} (h : rd s = some n) : s.size ≤ 10 := by
  obtain ⟨h1, rfl⟩ := rd_some.1 h
  have : (dec n).size = (dec n).data.toList.length := (Array.length_toList).symm
  rw [this, dec_nat]
  exact decDigits_len 9 n (by omega)
theorem rd_isD {s : ByteArray} {n : Nat} (h : rd s = some n) : ∀ b ∈ s.data.toList, isD b := by
  obtain ⟨h1, rfl⟩ := rd_some.1 h
  rw [dec_nat]; exact decDigits_isD n
theorem rd_atoi {s : ByteArray} {n : Nat} (h : rd s = some n) : Lib.atoiAll s.data.toList = .ok (n : Int) := by
  obtain ⟨h1, rfl⟩ := rd_some.1 h
  exact atoi_dec n h1
def rdN (s : ByteArray) : Int := ((rd s).getD 0 : Nat)
def rdB (s : ByteArray) : Bool := (rd s).isSome
theorem rd_none {s : ByteArray} (h : rd s = none) : rdN s = 0 ∧ rdB s = false := by simp [rdN, rdB, h]
theorem rd_is {s : ByteArray} {n : Nat} (h : rd s = some n) : rdN s = n ∧ rdB s = true := by simp [rdN, rdB, h]
theorem rdN_range (s : ByteArray) : 0 ≤ rdN s ∧ rdN s ≤ 1000000000 := by
  cases h : rd s with
  | none => rw [(rd_none h).1]; omega
  | some n => rw [(rd_is h).1]; have := rd_le h; omega

theorem atoi_inR {l : List UInt8} {v : Int} (h : Lib.atoiAll l = .ok v) : inR .i64 v := by
  unfold Lib.atoiAll at h
  split at h
  · cases h
  · rename_i c r
    simp only at h
    split at h
    · cases h
    · cases h
    · rename_i u hu
      split at h
      · cases h
      · split at h
        · cases h
        · injection h with h
          subst h
          show _ ∧ _
          split <;> omega

end Go.Sx

/- Fields of a line, as a loop finds them: plain Lean. -/
set_option maxRecDepth 100000
namespace Go.Sx
open Go

def byteAt (s : ByteArray) (i : Nat) : UInt8 := s.data.getD i 0
def stF (s : ByteArray) : Nat → List ByteArray × Nat
  | 0 => ([], 0)
  | i + 1 => if i < s.size ∧ byteAt s i ≠ 32 then stF s i else (if (stF s i).2 < i then (stF s i).1 ++ [s.extract (stF s i).2 i] else (stF s i).1, i + 1)
def okB (s : ByteArray) : Prop := ∀ b ∈ s.data.toList, 32 ≤ b.toNat ∧ b.toNat ≤ 126
instance (s : ByteArray) : Decidable (okB s) := by unfold okB; infer_instance
def fieldsB (s : ByteArray) : List ByteArray := (Lib.fields s.data.toList).map fun l => ⟨l.toArray⟩

theorem stF_skip {s : ByteArray} {k : Nat} (h : k < s.size) (hx : byteAt s k ≠ 32) : stF s (k + 1) = stF s k := by
  rw [stF, if_pos ⟨h, hx⟩]
theorem stF_add {s : ByteArray} {k : Nat} (h : ¬ (k < s.size ∧ byteAt s k ≠ 32)) (hb : (stF s k).2 < k) : stF s (k + 1) = ((stF s k).1 ++ [s.extract (stF s k).2 k], k + 1) := by
  rw [stF, if_neg h, if_pos hb]
theorem stF_none {s : ByteArray} {k : Nat} (h : ¬ (k < s.size ∧ byteAt s k ≠ 32)) (hb : ¬ (stF s k).2 < k) : stF s (k + 1) = ((stF s k).1, k + 1) := by
  rw [stF, if_neg h, if_neg hb]
theorem stF_le (s : ByteArray) (i : Nat) : (stF s i).2 ≤ i := by
  induction i with
  | zero => exact Nat.le_refl _
  | succ i ih =>
    rw [stF]
    split
    · omega
    · exact Nat.le_refl _
theorem stF_len (s : ByteArray) (i : Nat) : (stF s i).1.length ≤ i := by
  induction i with
  | zero => exact Nat.le_refl _
  | succ i ih =>
    rw [stF]
    split
    · omega
    · simp only
      split
      · rw [List.length_append]; exact Nat.succ_le_succ ih
      · omega
theorem byteAt_get {s : ByteArray} {i : Nat} (h : i < s.size) : s.data.toList.drop i = byteAt s i :: s.data.toList.drop (i + 1) := by
  have h' : i < s.data.toList.length := by rw [Array.length_toList]; exact h
  rw [List.drop_eq_getElem_cons h']
  congr 1
  unfold byteAt
  rw [Array.getD_eq_getD_getElem?, Array.getElem?_eq_getElem (show i < s.data.size from h)]
  simp
theorem byteAt_mem {s : ByteArray} {i : Nat} (h : i < s.size) : byteAt s i ∈ s.data.toList := by
  have := byteAt_get h
  exact List.mem_of_mem_drop (by rw [this]; exact List.mem_cons_self)
theorem seg_snoc {s : ByteArray} {b i : Nat} (h : i < s.size) (hb : b ≤ i) : (s.data.toList.take (i + 1)).drop b = (s.data.toList.take i).drop b ++ [byteAt s i] := by
  have h' : i < s.data.toList.length := by rw [Array.length_toList]; exact h
  have e : s.data.toList.take (i + 1) = s.data.toList.take i ++ [byteAt s i] := by
    rw [List.take_add_one, List.getElem?_eq_getElem h']
    unfold byteAt
    rw [Array.getD_eq_getD_getElem?, Array.getElem?_eq_getElem (show i < s.data.size from h)]
    simp
  rw [e, List.drop_append_of_le_length (by rw [List.length_take]; omega)]
theorem extract_list (s : ByteArray) (b i : Nat) (h : i ≤ s.size) : (s.extract b i).data.toList = (s.data.toList.take i).drop b := by
  rw [ByteArray.data_extract, Array.toList_extract, List.extract_eq_take_drop, List.drop_take]
theorem isSp_ok {x : UInt8} (h : 32 ≤ x.toNat ∧ x.toNat ≤ 126) : Lib.isSp x = decide (x = 32) := by
  have hne : ∀ k : UInt8, k.toNat < 32 → x ≠ k := fun k hk e => by rw [e] at h; omega
  rw [Bool.eq_iff_iff, decide_eq_true_eq]
  simp only [Lib.isSp, Bool.or_eq_true, beq_iff_eq]
  constructor
  · rintro (((((h1 | h1) | h1) | h1) | h1) | h1)
    · exact absurd h1 (hne _ (by decide))
    · exact absurd h1 (hne _ (by decide))
    · exact absurd h1 (hne _ (by decide))
    · exact absurd h1 (hne _ (by decide))
    · exact absurd h1 (hne _ (by decide))
    · exact h1
  · exact fun h1 => .inr h1
theorem fieldsGo_cons (cur : List UInt8) (b : UInt8) (l : List UInt8) : Lib.fieldsGo cur (b :: l) = if Lib.isSp b then (if cur.isEmpty then Lib.fieldsGo [] l else cur :: Lib.fieldsGo [] l) else Lib.fieldsGo (cur ++ [b]) l := by
  cases cur <;> rfl
theorem fieldsGo_nil (cur : List UInt8) : Lib.fieldsGo cur [] = if cur.isEmpty then [] else [cur] := by
  cases cur <;> rfl
theorem stF_inv (s : ByteArray) (hok : okB s) (i : Nat) (hi : i ≤ s.size) : Lib.fields s.data.toList = (stF s i).1.map (·.data.toList) ++ Lib.fieldsGo ((s.data.toList.take i).drop (stF s i).2) (s.data.toList.drop i) := by
  induction i with
  | zero => simp [stF, Lib.fields]
  | succ i ih =>
    have h : i < s.size := by omega
    have hle := stF_le s i
    rw [ih (by omega), byteAt_get h, fieldsGo_cons, isSp_ok (hok _ (byteAt_mem h)), stF]
    by_cases hx : byteAt s i = 32
    · rw [if_pos (show decide (byteAt s i = 32) = true by simpa using hx), if_neg (show ¬ (i < s.size ∧ byteAt s i ≠ 32) from fun c => c.2 hx)]
      simp only
      have hnil : (s.data.toList.take (i + 1)).drop (i + 1) = [] := List.drop_eq_nil_of_le (List.length_take_le _ _)
      rw [hnil]
      by_cases hb : (stF s i).2 < i
      · have hne : ((s.data.toList.take i).drop (stF s i).2).isEmpty = false := by
          rw [List.isEmpty_eq_false_iff, ← List.length_pos_iff, List.length_drop, List.length_take, Array.length_toList]
          have : i < s.data.size := h
          omega
        rw [if_neg (by rw [hne]; decide), if_pos hb, List.map_append, List.map_cons, List.map_nil, extract_list s _ _ (by omega)]
        simp
      · have hne : ((s.data.toList.take i).drop (stF s i).2).isEmpty = true := by
          rw [List.isEmpty_iff, List.drop_eq_nil_iff, List.length_take]
          omega
        rw [if_pos hne, if_neg hb]
    · rw [if_neg (show ¬ decide (byteAt s i = 32) = true by simpa using hx), if_pos (show i < s.size ∧ byteAt s i ≠ 32 from ⟨h, hx⟩), seg_snoc h hle]
theorem stF_end (s : ByteArray) (hok : okB s) : (stF s (s.size + 1)).1 = fieldsB s := by
  have h := stF_inv s hok s.size (Nat.le_refl _)
  have hle := stF_le s s.size
  have hsz : s.data.toList.length = s.size := Array.length_toList
  rw [List.take_of_length_le (Nat.le_of_eq hsz), List.drop_eq_nil_of_le (Nat.le_of_eq hsz), fieldsGo_nil] at h
  rw [fieldsB, h, stF, if_neg (by intro c; omega)]
  simp only
  have hmap : ∀ l : List ByteArray, (l.map (·.data.toList)).map (fun l => (⟨l.toArray⟩ : ByteArray)) = l := fun l => by
    rw [List.map_map]
    conv => rhs; rw [← List.map_id l]
    refine List.map_congr_left fun x _ => ?_
    simp
  by_cases hb : (stF s s.size).2 < s.size
  · have hne : (s.data.toList.drop (stF s s.size).2).isEmpty = false := by
      rw [List.isEmpty_eq_false_iff, ← List.length_pos_iff, List.length_drop]
      omega
    rw [if_pos hb, hne]
    simp only [Bool.false_eq_true, if_false, List.map_append, hmap, List.map_cons, List.map_nil]
    congr 2
    apply ByteArray.ext
    apply Array.toList_inj.1
    rw [extract_list s _ _ (Nat.le_refl _), List.take_of_length_le (by omega)]
  · have hne : (s.data.toList.drop (stF s s.size).2).isEmpty = true := by
      rw [List.isEmpty_iff, List.drop_eq_nil_iff]
      omega
    rw [if_neg hb, hne]
    simp only [if_true, List.append_nil, hmap]

def PartsP (s : ByteArray) : Prop := s.size ≤ 600 ∧ okB s ∧ (fieldsB s).length ≤ 12
instance (s : ByteArray) : Decidable (PartsP s) := by unfold PartsP; infer_instance
def partsB (s : ByteArray) : Bool := decide (PartsP s)
def partsL (s : ByteArray) : List ByteArray := if PartsP s then fieldsB s else []
theorem partsL_len (s : ByteArray) : (partsL s).length ≤ 12 := by
  unfold partsL
  split
  · rename_i h; exact h.2.2
  · exact Nat.zero_le _

end Go.Sx

/- Texts joined by blanks come apart in one way: plain Lean. -/
set_option maxRecDepth 100000
namespace Go.Sx
open Go

theorem cut32 : ∀ {x y r r' : List UInt8}, 32 ∉ x → 32 ∉ y → x ++ 32 :: r = y ++ 32 :: r' → x = y ∧ r = r'
  | [], [], _, _, _, _, h => ⟨rfl, by simpa using h⟩
  | [], b :: y, _, _, _, hy, h => by
    simp only [List.nil_append, List.cons_append, List.cons.injEq] at h
    exact absurd (by rw [← h.1]; exact List.mem_cons_self) hy
  | a :: x, [], _, _, hx, _, h => by
    simp only [List.nil_append, List.cons_append, List.cons.injEq] at h
    exact absurd (by rw [h.1]; exact List.mem_cons_self) hx
  | a :: x, b :: y, _, _, hx, hy, h => by
    simp only [List.cons_append, List.cons.injEq] at h
    obtain ⟨h1, h2⟩ := cut32 (fun hm => hx (List.mem_cons_of_mem _ hm)) (fun hm => hy (List.mem_cons_of_mem _ hm)) h.2
    exact ⟨by rw [h.1, h1], h2⟩
theorem join2 (x y : List UInt8) (r : List (List UInt8)) : Lib.join (x :: y :: r) [32] = x ++ 32 :: Lib.join (y :: r) [32] := by
  rw [Lib.join_cons, Lib.join_cons]
  simp [Lib.joinTail]
theorem join_inj : ∀ (p q : List (List UInt8)), p ≠ [] → q ≠ [] → (∀ x ∈ p, 32 ∉ x) → (∀ x ∈ q, 32 ∉ x) → Lib.join p [32] = Lib.join q [32] → p = q
  | [], _, h, _, _, _, _ => absurd rfl h
  | _ :: _, [], _, h, _, _, _ => absurd rfl h
  | [x], [y], _, _, _, _, h => by rw [Lib.join_one, Lib.join_one] at h; rw [h]
  | [x], y :: y' :: r, _, _, hp, _, h => by
    rw [Lib.join_one, join2] at h
    exact absurd (by rw [h]; simp) (hp x List.mem_cons_self)
  | x :: x' :: r, [y], _, _, _, hq, h => by
    rw [Lib.join_one, join2] at h
    exact absurd (by rw [← h]; simp) (hq y List.mem_cons_self)
  | x :: x' :: r, y :: y' :: r', _, _, hp, hq, h => by
    rw [join2, join2] at h
    obtain ⟨h1, h2⟩ := cut32 (hp x List.mem_cons_self) (hq y List.mem_cons_self) h
    have := join_inj (x' :: r) (y' :: r') (by simp) (by simp) (fun z hz => hp z (List.mem_cons_of_mem _ hz)) (fun z hz => hq z (List.mem_cons_of_mem _ hz)) h2
    rw [h1, this]
theorem fieldsGo_no : ∀ (l cur : List UInt8), 32 ∉ cur → ∀ x ∈ Lib.fieldsGo cur l, 32 ∉ x
  | [], cur, hc, x, hx => by
    rw [fieldsGo_nil] at hx
    split at hx
    · cases hx
    · rw [List.mem_singleton.1 hx]; exact hc
  | b :: l, cur, hc, x, hx => by
    rw [fieldsGo_cons] at hx
    have hn : (32 : UInt8) ∉ ([] : List UInt8) := by simp
    split at hx
    · split at hx
      · exact fieldsGo_no l [] hn x hx
      · rcases List.mem_cons.1 hx with rfl | hx
        · exact hc
        · exact fieldsGo_no l [] hn x hx
    · rename_i hb
      refine fieldsGo_no l (cur ++ [b]) (fun hm => ?_) x hx
      rcases List.mem_append.1 hm with hm | hm
      · exact hc hm
      · have e := List.mem_singleton.1 hm
        subst e
        exact hb (by decide)
def noB (s : ByteArray) : Prop := (32 : UInt8) ∉ s.data.toList
theorem fieldsB_no (s : ByteArray) : ∀ x ∈ fieldsB s, noB x := fun x hx => by
  obtain ⟨l, hl, rfl⟩ := List.mem_map.1 hx
  have := fieldsGo_no s.data.toList [] (by simp) l hl
  simpa [noB] using this
theorem partsL_no (s : ByteArray) : ∀ x ∈ partsL s, noB x := fun x hx => by
  unfold partsL at hx
  split at hx
  · exact fieldsB_no s x hx
  · cases hx
theorem joinB_inj {p q : List ByteArray} (hp : p ≠ []) (hq : q ≠ []) (h1 : ∀ x ∈ p, noB x) (h2 : ∀ x ∈ q, noB x) (h : joinB p = joinB q) : p = q := by
  have h' : Lib.join (p.map (·.data.toList)) [32] = Lib.join (q.map (·.data.toList)) [32] := by
    have := congrArg (fun b : ByteArray => b.data.toList) h
    simpa [joinB] using this
  have e := join_inj _ _ (by simpa using hp) (by simpa using hq) (fun x hx => by obtain ⟨y, hy, rfl⟩ := List.mem_map.1 hx; exact h1 y hy) (fun x hx => by obtain ⟨y, hy, rfl⟩ := List.mem_map.1 hx; exact h2 y hy) h'
  have hinj : ∀ (a b : List ByteArray), a.map (·.data.toList) = b.map (·.data.toList) → a = b := by
    intro a
    induction a with
    | nil => intro b hb; cases b with | nil => rfl | cons _ _ => simp at hb
    | cons x a ih =>
      intro b hb
      cases b with
      | nil => simp at hb
      | cons y b =>
        simp only [List.map_cons, List.cons.injEq] at hb
        rw [ih b hb.2, ByteArray.ext (Array.toList_inj.1 hb.1)]
  exact hinj p q e
theorem isD_no {l : List UInt8} (h : ∀ b ∈ l, isD b) : (32 : UInt8) ∉ l := fun hm => absurd (h _ hm) (by decide)
theorem dec_no (n : Nat) : noB (dec n) := by
  rw [noB, dec_nat]; exact isD_no (decDigits_isD n)
theorem rd_dec (n : Nat) (h : n ≤ 1000000000) : rd (dec n) = some n := rd_some.2 ⟨h, rfl⟩

end Go.Sx

/- What the program reads from a line: inputs and picks; plain Lean. -/
set_option maxRecDepth 100000
namespace Go.Sx
open Go

/-- A part's number, 0 where there is none. -/
def numAt (p : List ByteArray) (i : Nat) : Int := if i < p.length then rdN (p.getD i default) else 0
theorem numAt_range (p : List ByteArray) (i : Nat) : 0 ≤ numAt p i ∧ numAt p i ≤ 1000000000 := by
  unfold numAt
  split
  · exact rdN_range _
  · omega

/-- All parts behind the first w are numerals. -/
def numsB (p : List ByteArray) (w : Nat) : Bool := (p.drop w).all rdB
def numsL (p : List ByteArray) (w : Nat) : List Int := (p.drop w).map rdN
theorem numsL_len (p : List ByteArray) (w : Nat) : (numsL p w).length = p.length - w := by simp [numsL]
theorem rdB_dec (n : Nat) (h : n ≤ 1000000000) : rdB (dec n) = true ∧ rdN (dec n) = n := by
  have := rd_is (rd_dec n h)
  exact ⟨this.2, this.1⟩
theorem rdB_is {s : ByteArray} (h : rdB s = true) : dec (rdN s) = s := by
  cases hr : rd s with
  | none => rw [(rd_none hr).2] at h; cases h
  | some n => rw [(rd_is hr).1]; exact (rd_some.1 hr).2

theorem rd_nodigit {s : ByteArray} {k : Nat} (h : k < s.size) (hx : ¬ isD (byteAt s k)) : rd s = none := by
  cases hr : rd s with
  | none => rfl
  | some n => exact absurd (rd_isD hr _ (byteAt_mem h)) hx
theorem rd_long {s : ByteArray} (h : 10 < s.size) : rd s = none := by
  cases hr : rd s with
  | none => rfl
  | some n => have := rd_size hr; omega
theorem take_byte {s : ByteArray} {k : Nat} (h : k < s.size) : s.data.toList.take (k + 1) = s.data.toList.take k ++ [byteAt s k] := by
  have := seg_snoc (b := 0) h (Nat.zero_le _)
  simpa using this
theorem dval_take {s : ByteArray} {k : Nat} (h : k < s.size) : dval 0 (s.data.toList.take (k + 1)) = 10 * dval 0 (s.data.toList.take k) + ((byteAt s k).toNat - 48) := by
  rw [take_byte h, dval_append]
theorem dval_bound {s : ByteArray} {k : Nat} (hs : s.size ≤ 10) (hd : ∀ b ∈ s.data.toList.take k, isD b) : dval 0 (s.data.toList.take k) < 10000000000 := by
  have h := dval_lt _ hd
  have hl : (s.data.toList.take k).length ≤ 10 := by
    rw [List.length_take, Array.length_toList]
    have : s.data.size ≤ 10 := hs
    omega
  exact Nat.lt_of_lt_of_le h (Nat.pow_le_pow_right (by decide) hl)
theorem rd_eq (s : ByteArray) : rd s = if dval 0 s.data.toList ≤ 1000000000 ∧ dec (dval 0 s.data.toList : Nat) = s then some (dval 0 s.data.toList) else none := rfl

def UptoB (s : ByteArray) (k : Nat) : Prop := ∀ i, i < k → i < s.size → 32 ≤ (byteAt s i).toNat ∧ (byteAt s i).toNat ≤ 126
theorem uptoB_zero (s : ByteArray) : UptoB s 0 := fun _ h => absurd h (Nat.not_lt_zero _)
theorem uptoB_succ {s : ByteArray} {k : Nat} (h : UptoB s k) (hk : k < s.size → 32 ≤ (byteAt s k).toNat ∧ (byteAt s k).toNat ≤ 126) : UptoB s (k + 1) := fun i hi hs => by
  by_cases e : i = k
  · subst e; exact hk hs
  · exact h i (by omega) hs
theorem okB_of {s : ByteArray} {k : Nat} (h : UptoB s k) (hk : s.size ≤ k) : okB s := fun b hb => by
  obtain ⟨i, hi, e⟩ := List.getElem_of_mem hb
  have hi' : i < s.size := by rw [Array.length_toList] at hi; exact hi
  have h1 := h i (by omega) hi'
  have e2 : byteAt s i = b := by
    unfold byteAt
    rw [Array.getD_eq_getD_getElem?, Array.getElem?_eq_getElem (show i < s.data.size from hi'), ← e]
    simp
  rw [e2] at h1
  exact h1
theorem notParts {s : ByteArray} {k : Nat} (h : k < s.size) (hx : ¬ (32 ≤ (byteAt s k).toNat ∧ (byteAt s k).toNat ≤ 126)) : ¬ PartsP s := fun c => hx (c.2.1 _ (byteAt_mem h))
theorem partsL_not {s : ByteArray} (h : ¬ PartsP s) : partsL s = [] := if_neg h
theorem partsB_not {s : ByteArray} (h : ¬ PartsP s) : partsB s = false := decide_eq_false h
theorem partsL_is {s : ByteArray} (h : PartsP s) : partsL s = fieldsB s := if_pos h
theorem partsB_is {s : ByteArray} (h : PartsP s) : partsB s = true := decide_eq_true h

end Go.Sx

/- Results of which only that they are values is told. -/
set_option maxRecDepth 100000
namespace Go.Sx
open Go
open Go.RowKit (Below)
variable {P : Program} {T : List (TypeId × TI)}

theorem Rep.oneCell {w : World} {A : Nat → Prop} {c : Cell} {v : Value} (h : Rep w A c v) : v.oneCell' = true := by
  cases h <;> first | assumption | rfl

/-- A slot's value is given a name. -/
theorem fixR {B : Base} {Q : Exit → Act → World → Prop} {s : AS} (i : Nat) {c : Cell} (hi : nth s.slots i = .c c)
    (h : ∀ v : Value, v.oneCell' = true → RW B Q { s with slots := setNth s.slots i (.c (.val v)) }) : RW B Q s := by
  refine ⟨fun E a w hs => ?_⟩
  by_cases hl : i < s.slots.length
  · have hd := hs.slots i (.c c) (by rw [nth_get, List.getElem?_eq_getElem hl] at hi; rw [List.getElem?_eq_getElem hl]; simpa using hi)
    have hv : (a.tmps.getD i undef).oneCell' = true := by
      generalize hu : a.tmps.getD i undef = u at hd
      cases hd with
      | c hr => exact hr.oneCell
    obtain ⟨g⟩ := h _ hv
    refine g E a w ⟨hs.defers, hs.links, by rw [hs.size]; exact (setNth_length _ _ _).symm, fun m z hz => ?_, hs.boxes, hs.boxes2, hs.keys, hs.own, hs.ownkeys, hs.sep, hs.sepB, hs.one, hs.base, hs.fresh⟩
    simp only at hz
    rw [setNth_get] at hz
    split at hz
    · rename_i hm
      obtain ⟨rfl, hm⟩ := hm
      obtain rfl := Option.some.inj hz
      exact .c (.val _ hv)
    · exact hs.slots m z hz
  · exfalso
    rw [nth_get, List.getElem?_eq_none (by omega)] at hi
    simp at hi

theorem RW.mono {B : Base} {Q Q' : Exit → Act → World → Prop} {s : AS} (h : ∀ a w, Q .ret a w → Q' .ret a w) (hr : RW B Q s) : RW B Q' s :=
  ⟨fun E a w hs => h a w (hr.rec (fun g => g E a w hs))⟩

theorem enterE0 {H : World → Prop} {ι : Type} {φ : ι → Prop} {f : FuncId} {fn : Func} {c : Code} {ins : List Arg} {outs : ι → List Arg} (hf : P.funcs[f]? = some fn) (hb : fn.body = some c) (hn : (fn.name == "runtime.NumGoroutine") = false)
    (h : ∀ W, H W → G P ⟨W, fun _ => False⟩ (bodyPost P fn fun e w' => ∃ i, φ i ∧ Gives W w' (outs i) e) [.code c] (start fn.ntmps ins)) : MeetsE P H f ins φ outs := by
  refine ⟨⟨fn, hf, hn, by simp [hb]⟩, fun w hH vs hl hv => calls_of_wp hf hb ?_⟩
  refine h w hH ⟨fun _ => .slice none 0 0, fun _ => []⟩ _ w ?_
  have nav : ∀ b, ¬ (start fn.ntmps ins).avoid ⟨fun _ => .slice none 0 0, fun _ => []⟩ b := by
    rintro b (⟨x, hx, _⟩ | ⟨y, hy, _⟩)
    · simp [start] at hx
    · simp [start] at hy
  have nb : ∀ x, x ∉ (start fn.ntmps ins).boxes := by simp [start]
  have no : ∀ x, x ∉ (start fn.ntmps ins).own := by simp [start]
  refine ⟨rfl, by simp [start], by simp [start, hl], fun i x hx => ?_, fun x hx => absurd hx (nb x), fun x hx => absurd hx (nb x), by simp [start], fun y hy => absurd hy (no y), by simp [start], fun y hy => absurd hy (no y), fun x hx => absurd hx (nb x), fun _ _ => rfl,
    ⟨rfl, rfl, rfl, Nat.le_refl _, fun _ _ _ => rfl⟩, fun b hb => absurd hb (nav b)⟩
  simp only [start] at hx
  by_cases hi : i < ins.length
  · rw [List.getElem?_append_left (by simpa using hi)] at hx
    simp only [List.getElem?_map, Option.map_eq_some_iff] at hx
    obtain ⟨y, hy, rfl⟩ := hx
    have hr := hv i y hy
    have hiv : i < vs.length := by omega
    have e : (vs.toArray ++ Array.replicate (fn.ntmps - vs.toArray.size) undef).getD i undef = vs.getD i undef := by
      simp [Array.getD, List.getD, hiv, show i < vs.length + (fn.ntmps - vs.length) by omega]
    rw [e]
    cases y with
    | one c => exact .c (hr.move (fun _ _ _ => rfl) (fun b _ hb => absurd hb (nav b)))
    | agg cs =>
      obtain ⟨us, hu, hul, hur⟩ := hr
      rw [hu]
      refine .agg us (by simp [hul]) (fun j x hj => ?_)
      simp only [List.getElem?_map, Option.map_eq_some_iff] at hj
      obtain ⟨c, hc, rfl⟩ := hj
      exact .c ((hur j c hc).move (fun _ _ _ => rfl) (fun b _ hb => absurd hb (nav b)))
    | ptr cs => exact hr.den (fun b hb => absurd hb (nav b))
    | fn f caps =>
      obtain ⟨us, hu, hul, hur⟩ := hr
      rw [hu]
      refine .fn us (by simp [hul]) (fun j x hj => ?_)
      simp only [List.getElem?_map, Option.map_eq_some_iff] at hj
      obtain ⟨c, hc, rfl⟩ := hj
      have hr := hur j c hc
      cases c with
      | one c => exact .c (Rep.move hr (fun _ _ _ => rfl) (fun b _ hb => absurd hb (nav b)))
      | ptr cs => exact RepPtr.den hr (fun b hb => absurd hb (nav b))
  · rw [List.getElem?_append_right (by simp; omega)] at hx
    obtain rfl : AV.any = x := by
      have := List.mem_of_getElem? hx
      simpa using (List.eq_of_mem_replicate this).symm
    exact .any _

theorem enterE (hT : TblOk P T) (wr : Bool) {H : World → Prop} {ι : Type} {φ : ι → Prop} {f : FuncId} {fn : Func} {c : Code} {ins : List Arg} {outs : ι → List Arg} (hf : P.funcs[f]? = some fn) (hb : fn.body = some c) (hn : (fn.name == "runtime.NumGoroutine") = false)
    (h : ∀ W, H W → vcW P ⟨W, fun _ => False⟩ (bodyPost P fn fun e w' => ∃ i, φ i ∧ Gives W w' (outs i) e) (run0 T wr 100000 [.code c] (start fn.ntmps ins))) : MeetsE P H f ins φ outs :=
  enterE0 hf hb hn fun W hW => (go hT wr (h W hW)).rec id

theorem retE {W : World} {fn : Func} {ι : Type} {φ : ι → Prop} {outs : ι → List Arg} {B : Base} {s : AS} (i : ι) (hi : φ i)
    (h : RW B (bodyPost P fn fun e w' => Gives W w' (outs i) e) s) : RW B (bodyPost P fn fun e w' => ∃ i, φ i ∧ Gives W w' (outs i) e) s :=
  RW.mono (fun _ _ ⟨h1, v, h2, h3⟩ => ⟨h1, v, h2, i, hi, h3⟩) h

theorem Rep.isSlice {w : World} {A : Nat → Prop} {n es : Nat} {row : Nat → List Cell} {v : Value} (h : Rep w A (.sl n es row) v) : ∃ a m c, v = .slice a m c := by
  cases h with
  | nil => exact ⟨_, _, _, rfl⟩
  | emp => exact ⟨_, _, _, rfl⟩
  | sl => exact ⟨_, _, _, rfl⟩

/-- A slice's value is given a name. -/
theorem fixS {B : Base} {Q : Exit → Act → World → Prop} {s : AS} (i : Nat) {n es : Nat} {row : Nat → List Cell} (hi : nth s.slots i = .c (.sl n es row))
    (h : ∀ a m c, RW B Q { s with slots := setNth s.slots i (.c (.val (.slice a m c))) }) : RW B Q s := by
  refine ⟨fun E a w hs => ?_⟩
  by_cases hl : i < s.slots.length
  · have hd := hs.slots i (.c (.sl n es row)) (by rw [nth_get, List.getElem?_eq_getElem hl] at hi; rw [List.getElem?_eq_getElem hl]; simpa using hi)
    have hv : ∃ b m c, a.tmps.getD i undef = .slice b m c := by
      generalize hu : a.tmps.getD i undef = u at hd
      cases hd with
      | c hr => exact hr.isSlice
    obtain ⟨b, m, c, hv⟩ := hv
    obtain ⟨g⟩ := h b m c
    refine g E a w ⟨hs.defers, hs.links, by rw [hs.size]; exact (setNth_length _ _ _).symm, fun m' z hz => ?_, hs.boxes, hs.boxes2, hs.keys, hs.own, hs.ownkeys, hs.sep, hs.sepB, hs.one, hs.base, hs.fresh⟩
    simp only at hz
    rw [setNth_get] at hz
    split at hz
    · rename_i hm
      obtain ⟨rfl, hm⟩ := hm
      obtain rfl := Option.some.inj hz
      rw [hv]
      exact .c (.val _ rfl)
    · exact hs.slots m' z hz
  · exfalso
    rw [nth_get, List.getElem?_eq_none (by omega)] at hi
    simp at hi

end Go.Sx

/- Memory that a function made is frozen: from then on it is only read, and it may still be handed back. -/
set_option maxRecDepth 100000
namespace Go.Sx
open Go
open Go.RowKit (Below)
variable {P : Program} {T : List (TypeId × TI)}

/-- The value v in the world that B begins with: memory made since W, that nothing writes any more. -/
structure Frozen (W : World) (B : Base) (c : Cell) (v : Value) (fp : List Nat) : Prop where
  own : OwnRep B.w0 c v fp
  nodup : fp.Nodup
  new : ∀ b ∈ fp, W.heap.size ≤ b
  out : ∀ b ∈ fp, ¬ B.may b
  below : ∀ w, B.rel w → Below W.heap.size W w
  fresh : ∀ b, B.fresh b → W.heap.size ≤ b

theorem Frozen.now {W : World} {B : Base} {c : Cell} {v : Value} {fp : List Nat} (h : Frozen W B c v fp) {w : World} (hr : B.rel w) : OwnRep w c v fp :=
  h.own.move fun b hb => hr.block b (h.own.lt b hb) (h.out b hb)

theorem Frozen.free {W : World} {B : Base} {c : Cell} {v : Value} {fp : List Nat} (h : Frozen W B c v fp) {b : Nat} (hb : b ∈ fp) : ¬ B.fresh b := by
  rintro (h1 | h1)
  · have := h.own.lt b hb
    omega
  · exact h.out b hb h1

theorem Frozen.rep {W : World} {B : Base} {c : Cell} {v : Value} {fp : List Nat} (h : Frozen W B c v fp) {s : AS} {E : Env} {a : Act} {w : World} (hs : s.is B E a w) : Rep w (s.avoid E) c v :=
  (h.now hs.base).rep fun _ hb hav => h.free hb (hs.fresh _ hav)

/-- A slot that holds the frozen value shows what it reads as. -/
theorem showG {W : World} {B : Base} {Q : Exit → Act → World → Prop} {K : List KI} {s : AS} {c : Cell} {v : Value} {fp : List Nat} (hF : Frozen W B c v fp) (i : Nat) (hi : nth s.slots i = .c (.val v))
    (h : GW P B Q K { s with slots := setNth s.slots i (.c c) }) : GW P B Q K s := by
  refine ⟨fun E a w hs => h.rec fun g => g E a w ⟨hs.defers, hs.links, by rw [hs.size]; exact (setNth_length _ _ _).symm, fun m z hz => ?_, hs.boxes, hs.boxes2, hs.keys, hs.own, hs.ownkeys, hs.sep, hs.sepB, hs.one, hs.base, hs.fresh⟩⟩
  simp only at hz
  rw [setNth_get] at hz
  split at hz
  · rename_i hm
    obtain ⟨rfl, hm⟩ := hm
    obtain rfl := Option.some.inj hz
    have hd := hs.slots i (.c (.val v)) (by rw [nth_get, List.getElem?_eq_getElem hm] at hi; rw [List.getElem?_eq_getElem hm]; simpa using hi)
    rw [den_int hd]
    exact Den.c (A := s.avoid E) (N := s.next) (hF.rep hs)
  · exact hs.slots m z hz

/-- An argument that is the frozen value shows what it reads as. -/
theorem showC {W : World} {B : Base} {Q : Exit → Act → World → Prop} {q : Bool} {f : FuncId} {xs : List AV} {dst : Option Tmp} {K : List KI} {s : AS} {c : Cell} {v : Value} {fp : List Nat} (hF : Frozen W B c v fp) (i : Nat) (hi : nth xs i = .c (.val v))
    (h : CW P B Q q f (setNth xs i (.c c)) dst K s) : CW P B Q q f xs dst K s := by
  obtain ⟨h⟩ := h
  refine ⟨h.1, fun E a w hs vs hl hv => h.2 E a w hs vs (by rw [setNth_length]; exact hl) fun m z hz => ?_⟩
  rw [setNth_get] at hz
  split at hz
  · rename_i hm
    obtain ⟨rfl, hm⟩ := hm
    obtain rfl := Option.some.inj hz
    have hd := hv i (.c (.val v)) (by rw [nth_get, List.getElem?_eq_getElem hm] at hi; rw [List.getElem?_eq_getElem hm]; simpa using hi)
    rw [den_int hd]
    exact .c (hF.rep hs)
  · exact hv m z hz

/-! Freezing. -/

def frozA (k : Nat) (v : Value) (x : AV) : AV :=
  match x with
  | .own j => match Nat.beq j k with
    | true => .c (.val v)
    | false => .own j
  | .oel _ _ _ _ => .any
  | .agg _ => .any
  | .tup _ => .any
  | .fn _ _ => .any
  | x => x

def frozL (k : Nat) (v : Value) (l : List AV) : List AV :=
  match l with
  | [] => []
  | x :: r => frozA k v x :: frozL k v r

def frozB (k : Nat) (v : Value) (l : List Bx) : List Bx :=
  match l with
  | [] => []
  | b :: r => ⟨b.key, frozL k v b.cells⟩ :: frozB k v r

theorem frozL_get (k : Nat) (v : Value) (l : List AV) (i : Nat) : (frozL k v l)[i]? = l[i]?.map (frozA k v) := by
  induction l generalizing i with
  | nil => simp [frozL]
  | cons x r ih => cases i <;> simp [frozL, ih]
theorem frozL_length (k : Nat) (v : Value) (l : List AV) : (frozL k v l).length = l.length := by
  induction l with
  | nil => rfl
  | cons x r ih => simp [frozL, ih]
theorem frozB_eq (k : Nat) (v : Value) (l : List Bx) : frozB k v l = l.map fun b => ⟨b.key, frozL k v b.cells⟩ := by
  induction l with
  | nil => rfl
  | cons x r ih => simp [frozB, ih]

def AS.froz (s : AS) (k : Nat) (v : Value) : AS := { next := s.next, slots := frozL k v s.slots, boxes := frozB k v s.boxes, own := remOs [k] s.own, links := s.links }

theorem froz_avoid {s : AS} {k : Nat} {v : Value} {E : Env} {b : Nat} (h : (s.froz k v).avoid E b) : s.avoid E b := by
  rcases h with ⟨x, hx, hb⟩ | ⟨y, hy, hb⟩
  · simp only [AS.froz, frozB_eq, List.mem_map] at hx
    obtain ⟨z, hz, rfl⟩ := hx
    exact .inl ⟨z, hz, hb⟩
  · exact .inr ⟨y, (remOs_mem.1 hy).1, hb⟩

theorem froz_den {s : AS} {k : Nat} {E : Env} {w : World} {x : AV} {u : Value} (h1 : (E.ov k).oneCell' = true) (h : Den E w (s.avoid E) s.next x u) : Den E w ((s.froz k (E.ov k)).avoid E) s.next (frozA k (E.ov k) x) u := by
  have h := h.move (E' := E) (A' := (s.froz k (E.ov k)).avoid E) (Nat.le_refl _) (fun _ _ => ⟨rfl, rfl⟩) (fun _ _ _ => rfl) (fun b _ hb => froz_avoid hb)
  cases x with
  | own j =>
    show Den E w _ s.next (match Nat.beq j k with | true => .c (.val (E.ov k)) | false => .own j) u
    split
    · rename_i he
      obtain rfl := Nat.eq_of_beq_eq_true he
      cases h with
      | own hk => exact .c (.val _ h1)
    · exact h
  | any => exact .any _
  | c x => exact h
  | box k o => exact h
  | el n es row i off => exact h
  | oel k es i off => exact .any _
  | agg xs => exact .any _
  | tup xs => exact .any _
  | fn f xs => exact .any _

theorem freezeW {W : World} {Q : Exit → Act → World → Prop} {K : List KI} {s : AS} (k : Nat) {c : Cell} (hk : getOwn s.own k = some c)
    (h : ∀ (B : Base) (v : Value) (fp : List Nat), Frozen W B c v fp → GW P B Q K (s.froz k v)) : GW P ⟨W, fun _ => False⟩ Q K s := by
  refine ⟨fun E a w hs => ?_⟩
  have hm := getOwn_mem hk
  obtain ⟨g1, g2, g3⟩ := hs.own _ hm
  have hnew : ∀ b, s.avoid E b → W.heap.size ≤ b := fun b hb => (hs.fresh b hb).elim id False.elim
  have hF : Frozen W ⟨w, fun b => (s.froz k (E.ov k)).avoid E b⟩ c (E.ov k) (E.fp k) := by
    refine ⟨g2, g3, fun b hb => hnew b (.inr ⟨_, hm, hb⟩), fun b hb hav => ?_, fun w' hr => ?_, fun b hb => ?_⟩
    · rcases hav with ⟨x, hx, rfl⟩ | ⟨y, hy, hb'⟩
      · simp only [AS.froz, frozB_eq, List.mem_map] at hx
        obtain ⟨z, hz, rfl⟩ := hx
        exact hs.sepB z hz _ hm hb
      · obtain ⟨hy, hne⟩ := remOs_mem.1 hy
        exact hs.sep y hy _ hm (by simpa using hne) b hb' hb
    · have hb := hs.base
      refine ⟨hr.os.trans hb.os, hr.tape.trans hb.tape, hr.output.trans hb.output, Nat.le_trans hb.size hr.size, fun j hj => ?_⟩
      rw [hr.block j (Nat.lt_of_lt_of_le hj hb.size) (fun hav => by have := hnew j (froz_avoid hav); omega)]
      exact hb.block j hj (fun h => h)
    · rcases hb with hb | hb
      · exact Nat.le_trans hs.base.size hb
      · exact hnew b (froz_avoid hb)
  have h1 := hs.one k g1
  refine (h _ _ _ hF).rec fun g => g E a w ⟨hs.defers, hs.links, ?_, fun i x hx => ?_, fun x hx => ?_, fun x hx y hy e => ?_, ?_, fun y hy => hs.own y (remOs_mem.1 hy).1, remOs_nodup hs.ownkeys, fun y hy z hz => hs.sep y (remOs_mem.1 hy).1 z (remOs_mem.1 hz).1, fun x hx y hy => ?_, hs.one, ⟨rfl, rfl, rfl, Nat.le_refl _, fun _ _ _ => rfl⟩, fun b hb => .inr hb⟩
  · rw [hs.size]; exact (frozL_length _ _ _).symm
  · simp only [AS.froz, frozL_get, Option.map_eq_some_iff] at hx
    obtain ⟨z, hz, rfl⟩ := hx
    exact froz_den h1 (hs.slots i z hz)
  · simp only [AS.froz, frozB_eq, List.mem_map] at hx
    obtain ⟨z, hz, rfl⟩ := hx
    obtain ⟨k1, vs, ty, k2, k3, k4⟩ := hs.boxes z hz
    refine ⟨k1, vs, ty, k2, by rw [k3]; exact (frozL_length _ _ _).symm, fun i y hy => ?_⟩
    simp only [frozL_get, Option.map_eq_some_iff] at hy
    obtain ⟨u, hu, rfl⟩ := hy
    exact froz_den h1 (k4 i u hu)
  · simp only [AS.froz, frozB_eq, List.mem_map] at hx hy
    obtain ⟨x, hx, rfl⟩ := hx
    obtain ⟨y, hy, rfl⟩ := hy
    exact hs.boxes2 x hx y hy e
  · have e : ((s.froz k (E.ov k)).boxes.map (·.key)) = s.boxes.map (·.key) := by
      simp only [AS.froz, frozB_eq, List.map_map]
      rfl
    rw [e]
    exact hs.keys
  · simp only [AS.froz, frozB_eq, List.mem_map] at hx
    obtain ⟨x, hx, rfl⟩ := hx
    exact hs.sepB x hx y (remOs_mem.1 hy).1

/-! Calls and the return, behind it. -/

theorem callRF {W : World} {B : Base} {c : Cell} {v : Value} {fp : List Nat} {H : World → Prop} {Q : Exit → Act → World → Prop} {q : Bool} {f : FuncId} {xs : List AV} {dst : Option Tmp} {K : List KI} {s : AS} {ins outs : List Arg} (hF : Frozen W B c v fp) (hf : MeetsT P H f ins outs) (hst : Stays H) (hW : H W) (hx : argsOf s xs = some ins)
    (h : GW P B Q K (s.put dst (resAV outs))) : CW P B Q q f xs dst K s := by
  refine ⟨hf.1, fun E a w hs vs hl hv => ?_⟩
  have hm : Meets P f ins outs → True := fun _ => trivial
  have hH : H w := hst W w (hF.below w hs.base) hW
  obtain ⟨h1, h2⟩ := argsOf_get hx
  refine (hf.2 w hH vs (by omega) (fun i x hi => ?_)).mono (fun e w' hg => ?_)
  · obtain ⟨y, hy, hc⟩ := h2 i x hi
    exact argOf_rep hs hc (hv i y hy)
  · obtain ⟨hb, rs, fps, rfl, hrl, hro, hfr, hdis⟩ := hg
    have hI := (hs.call hb).is
    have hno : ∀ i, i < outs.length → ∀ b ∈ fps i, ¬ s.avoid E b := fun i hi b hb' hav => by
      have := hs.avoid_lt hav
      have := (hfr i hi).2 b hb'
      omega
    have hone : ∀ i y, outs[i]? = some y → Den E w' (s.avoid E) s.next (argAV y) (rs.getD i undef) := by
      intro i y hy
      have hi : i < outs.length := (List.getElem?_eq_some_iff.1 hy).1
      have ho := hro i y hy
      cases y with
      | one c => exact .c (OwnRep.rep ho (hno i hi))
      | agg cs =>
        obtain ⟨us, gps, hu, hul, hur, hfp⟩ := ho
        rw [hu]
        refine .agg us (by simp [hul]) (fun j x hj => ?_)
        simp only [List.getElem?_map, Option.map_eq_some_iff] at hj
        obtain ⟨c, hc, rfl⟩ := hj
        have hj : j < cs.length := (List.getElem?_eq_some_iff.1 hc).1
        exact .c ((hur j c hc).rep (fun b hb' => hno i hi b (by rw [hfp]; exact mem_flat hj hb')))
      | ptr cs => exact ho.elim
      | fn f caps => exact ho.elim
    have hres : Den E w' (s.avoid E) s.next (resAV outs) (resVal rs) := by
      have := getD_resVal (E := E) (A := s.avoid E) (N := s.next) (w := w') outs (outs.map argAV) rs hrl (by simp) (fun i x hi => by
        simp only [List.getElem?_map, Option.map_eq_some_iff] at hi
        obtain ⟨y, hy, rfl⟩ := hi
        exact hone i y hy)
      match outs, this with
      | [], this => exact this
      | [o], this => exact this
      | o1 :: o2 :: r, this => exact this
    exact ⟨_, rfl, fun _ => .of_below hb, h.rec fun g => g E _ w' (hI.put dst hres)⟩

/-- The results of a return, each with its memory. -/
structure GivesF (B : Base) (w' : World) (outs : List Arg) (e : Ending) : Prop where
  rel : B.rel w'
  res : ∃ (rs : List Value) (fps : Nat → List Nat), e = .returned (resVal rs) ∧ rs.length = outs.length ∧ (∀ i y, outs[i]? = some y → OwnArg w' y (rs.getD i undef) (fps i)) ∧
    (∀ i, i < outs.length → (fps i).Nodup ∧ ∀ b ∈ fps i, B.fresh b) ∧ ∀ i j, i < outs.length → j < outs.length → i ≠ j → ∀ b ∈ fps i, b ∉ fps j

theorem GivesF.gives {W : World} {B : Base} {c : Cell} {v : Value} {fp : List Nat} (hF : Frozen W B c v fp) {w' : World} {outs : List Arg} {e : Ending} (h : GivesF B w' outs e) : Gives W w' outs e := by
  obtain ⟨h1, rs, fps, h2, h3, h4, h5, h6⟩ := h
  exact ⟨hF.below _ h1, rs, fps, h2, h3, h4, fun i hi => ⟨(h5 i hi).1, fun b hb => hF.fresh b ((h5 i hi).2 b hb)⟩, h6⟩

/-- One of them is what was frozen. -/
theorem GivesF.givesV {W : World} {B : Base} {c : Cell} {v : Value} {fp : List Nat} (hF : Frozen W B c v fp) {w' : World} {outs : List Arg} {e : Ending} (j : Nat) (hj : outs[j]? = some (.one (.val v))) (h : GivesF B w' outs e) : Gives W w' (outs.set j (.one c)) e := by
  obtain ⟨h1, rs, fps, h2, h3, h4, h5, h6⟩ := h
  have hjl : j < outs.length := (List.getElem?_eq_some_iff.1 hj).1
  refine ⟨hF.below _ h1, rs, fun i => if i = j then fp else fps i, h2, by rw [List.length_set]; exact h3, fun i y hy => ?_, fun i hi => ?_, fun i k hi hk hne b hb hb' => ?_⟩
  · rw [List.getElem?_set] at hy
    by_cases e : i = j
    · subst e
      rw [if_pos rfl, if_pos hjl] at hy
      obtain rfl := Option.some.inj hy
      have ho := h4 i _ hj
      have hv : rs.getD i undef = v := by
        have ho : OwnRep w' (.val v) (rs.getD i undef) (fps i) := ho
        generalize fps i = g at ho
        cases ho
        rfl
      simp only [if_true]
      rw [hv]
      exact hF.now h1
    · rw [if_neg (fun h => e h.symm)] at hy
      simp only [if_neg e]
      exact h4 i y hy
  · rw [List.length_set] at hi
    by_cases e : i = j
    · simp only [if_pos e]
      exact ⟨hF.nodup, hF.new⟩
    · simp only [if_neg e]
      exact ⟨(h5 i hi).1, fun b hb => hF.fresh b ((h5 i hi).2 b hb)⟩
  · rw [List.length_set] at hi hk
    by_cases e1 : i = j
    · have e2 : k ≠ j := fun e2 => hne (e1.trans e2.symm)
      simp only [if_pos e1] at hb
      simp only [if_neg e2] at hb'
      exact hF.free hb ((h5 k hk).2 b hb')
    · simp only [if_neg e1] at hb
      by_cases e2 : k = j
      · simp only [if_pos e2] at hb'
        exact hF.free hb' ((h5 i hi).2 b hb)
      · simp only [if_neg e2] at hb'
        exact h6 i k hi hk hne b hb hb'

theorem ret_okF (hT : TblOk P T) {B : Base} {fn : Func} {outs : List Arg} {s : AS} {xs : List AV} (hx : retAV T fn.results.toList s = some xs) (hk : noDup (xs.flatMap keysA) = true) (ho : outAs s.own xs outs) :
    RetG B (bodyPost P fn fun e w' => GivesF B w' outs e) s := by
  intro E a w h
  obtain ⟨vs, h1, h2, h3, h4⟩ := retAV_ok hT h fn.results.toList xs hx
  obtain ⟨g1, g2⟩ := outAs_get ho
  refine ⟨h.defers, resVal vs, ?_, h.base, vs, fun i => (keysA (nth xs i)).flatMap E.fp, rfl, by omega, fun i y hy => ?_, fun i hi => ?_, fun i j hi hj hne b hb hb' => ?_⟩
  · rw [results_eq, Array.mapM_eq_mapM_toList]
    simp only [map_eq_pure_bind, Sem.run_bind, h1, Result.andThen_ok, Sem.run_pure]
    exact congrArg (fun v => Result.ok v w) (resVal_eq vs)
  · obtain ⟨x, hx', hxo⟩ := g2 i y hy
    have := (outA_ok h hxo (h4 i x hx')).1
    have e : nth xs i = x := by rw [nth_get, hx']; rfl
    simp only [e]
    exact this
  · have hi' : i < xs.length := by omega
    have hnd := noDup_spec hk
    have hxi := List.getElem?_eq_getElem hi'
    obtain ⟨x, hx', hxo⟩ := g2 i _ (List.getElem?_eq_getElem hi)
    have hkeys := (outA_ok h hxo (h4 i x hx')).2
    show ((keysA (nth xs i)).flatMap E.fp).Nodup ∧ ∀ b ∈ (keysA (nth xs i)).flatMap E.fp, B.fresh b
    rw [show nth xs i = x by rw [nth_get, hx']; rfl]
    constructor
    · have hsub : (keysA x).Nodup := (nodup_flatMap.1 hnd).1 x (List.mem_of_getElem? hx')
      refine nodup_flatMap.2 ⟨fun k hk' => ?_, ?_⟩
      · obtain ⟨y, hy, rfl⟩ := hkeys k hk'
        exact (h.own y hy).2.2
      · refine List.Pairwise.imp_of_mem ?_ hsub
        intro k j hk' hj' hne b hb hb'
        obtain ⟨y, hy, rfl⟩ := hkeys k hk'
        obtain ⟨z, hz, rfl⟩ := hkeys j hj'
        exact h.sep y hy z hz hne b hb hb'
    · intro b hb
      obtain ⟨k, hk', hb⟩ := List.mem_flatMap.1 hb
      obtain ⟨y, hy, rfl⟩ := hkeys k hk'
      exact h.fresh b (.inr ⟨y, hy, hb⟩)
  · have hi' : i < xs.length := by omega
    have hj' : j < xs.length := by omega
    have hnd := noDup_spec hk
    obtain ⟨x, hx', hxo⟩ := g2 i _ (List.getElem?_eq_getElem hi)
    obtain ⟨z, hz', hzo⟩ := g2 j _ (List.getElem?_eq_getElem hj)
    change b ∈ (keysA (nth xs i)).flatMap E.fp at hb
    change b ∈ (keysA (nth xs j)).flatMap E.fp at hb'
    rw [show nth xs i = x by rw [nth_get, hx']; rfl] at hb
    rw [show nth xs j = z by rw [nth_get, hz']; rfl] at hb'
    obtain ⟨k, hk1, hb⟩ := List.mem_flatMap.1 hb
    obtain ⟨l, hl1, hb'⟩ := List.mem_flatMap.1 hb'
    obtain ⟨y1, hy1, rfl⟩ := (outA_ok h hxo (h4 i x hx')).2 k hk1
    obtain ⟨y2, hy2, rfl⟩ := (outA_ok h hzo (h4 j z hz')).2 l hl1
    by_cases e : y1.key = y2.key
    · have hpw := (nodup_flatMap.1 hnd).2
      have e1 : xs[i] = x := by rw [List.getElem?_eq_getElem hi'] at hx'; exact Option.some.inj hx'
      have e2 : xs[j] = z := by rw [List.getElem?_eq_getElem hj'] at hz'; exact Option.some.inj hz'
      rcases Nat.lt_or_gt_of_ne hne with hlt | hlt
      · have := List.pairwise_iff_getElem.1 hpw i j hi' hj' hlt
        rw [e1, e2] at this
        exact this _ hk1 (e ▸ hl1)
      · have := List.pairwise_iff_getElem.1 hpw j i hj' hi' hlt
        rw [e1, e2] at this
        exact this _ hl1 (e ▸ hk1)
    · exact h.sep y1 hy1 y2 hy2 e b hb hb'

theorem outC_val (own : List Ow) (v : Value) : outC own (.c (.val v)) (.val v) := by
  unfold outC
  split
  · rename_i h; cases h
  · rename_i h
    obtain rfl := Cell.val.inj (AV.c.inj h)
    exact .inl rfl
  · rename_i h
    exact (congrArg Cell.val (Cell.val.inj (AV.c.inj h)))
  · rename_i h1 h2 h3
    exact h3 v rfl

theorem retF (hT : TblOk P T) {W : World} {B : Base} {c : Cell} {v : Value} {fp : List Nat} (hF : Frozen W B c v fp) {fn : Func} {outs : List Arg} {s : AS} {xs : List AV} (hx : retAV T fn.results.toList s = some xs) (hk : noDup (xs.flatMap keysA) = true) (ho : outAs s.own xs outs) :
    RW B (bodyPost P fn fun e w' => Gives W w' outs e) s :=
  RW.mono (fun _ _ ⟨h1, v, h2, h3⟩ => ⟨h1, v, h2, h3.gives hF⟩) ⟨ret_okF hT hx hk ho⟩

theorem retV (hT : TblOk P T) {W : World} {B : Base} {c : Cell} {v : Value} {fp : List Nat} (hF : Frozen W B c v fp) {fn : Func} {outs : List Arg} {s : AS} {xs : List AV} (j : Nat) (hj : outs[j]? = some (.one c)) (hx : retAV T fn.results.toList s = some xs) (hk : noDup (xs.flatMap keysA) = true) (ho : outAs s.own xs (outs.set j (.one (.val v)))) :
    RW B (bodyPost P fn fun e w' => Gives W w' outs e) s := by
  have hjl : j < outs.length := (List.getElem?_eq_some_iff.1 hj).1
  have e : (outs.set j (.one (.val v))).set j (.one c) = outs := by
    rw [List.set_set]
    apply List.ext_getElem? 
    intro i
    rw [List.getElem?_set]
    split
    · rename_i h
      subst h
      exact hj.symm
    · rfl
  refine RW.mono (fun _ _ ⟨h1, u, h2, h3⟩ => ⟨h1, u, h2, ?_⟩) ⟨ret_okF hT hx hk ho⟩
  have h := h3.givesV hF j (by rw [List.getElem?_set, if_pos rfl, if_pos hjl])
  rwa [e] at h

end Go.Sx
