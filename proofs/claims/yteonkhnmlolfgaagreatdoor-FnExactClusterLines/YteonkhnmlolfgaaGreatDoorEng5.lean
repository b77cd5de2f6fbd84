/- A symbolic executor for the model's code, proved sound: part 5. No conditions. -/
import Derived.Test.YteonkhnmlolfgaaGreatDoorEng4
import Derived.Lib.AppendZerosOnto
import Derived.Lib.Overlaps

/- Elements of owned slices opened and closed in one go; cells of mixed elements; parts of owned slices. -/
set_option maxRecDepth 100000
namespace Go.Sx
open Go
open Go.RowKit (Below)
variable {P : Program} {T : List (TypeId × TI)}

/-- What may be done to a state ahead of a return. -/
theorem rwOf (P : Program) {B : Base} {Q : Exit → Act → World → Prop} {s s' : AS} (tr : ∀ (K' : List KI), GW P B QF K' s' → GW P B QF K' s) (h : RW B Q s') : RW B Q s :=
  ⟨fun E a w hs => (tr [.loop (fun a w => Q .ret a w)] ⟨fun E a w hs => h.rec fun g => g E a w hs⟩).out E a w hs⟩

/-! In a region that draws its order: an operation that reads may come first. -/

variable {ops : Array Oper}

def closedB (ops : Array Oper) (listed : Array Bool) : Bool :=
  (List.range ops.size).all fun j => !listed.getD j false || match ops[j]? with
    | some o => o.after.toList.all fun e => !Region.binds .any e || listed.getD e.on false
    | none => true
theorem closedB_spec {listed : Array Bool} (h : closedB ops listed = true) : ClosedM ops listed := by
  intro j o ho hl e he hb
  have := List.all_eq_true.1 h j (List.mem_range.2 (Array.getElem?_eq_some_iff.1 ho).1)
  simp only [hl, ho, Bool.not_true, Bool.false_or] at this
  have := List.all_eq_true.1 this e (Array.mem_toList_iff.2 he)
  simpa [hb] using this

theorem readF {B : Base} {N : Act → World → Prop} {fuel : Nat} {listed : Array Bool} {s s' : AS} (i : Nat) {o : Oper} (hi : ops[i]? = some o)
    (hb : (Nat.beq (kindOp o.op) 0 && Region.noSelect ops && (Region.ready .any ops listed).contains i && freeM ops listed i o && closedB ops listed) = true)
    (ht : GW P B QF [.ops true ops [o], .loop (fun a w => ∃ E, s'.is B E a w)] s) (h : BW P B N ops fuel (listed.setIfInBounds i true) s') : BW P B N ops (fuel + 1) listed s := by
  simp only [Bool.and_eq_true, List.contains_iff_mem] at hb
  obtain ⟨⟨⟨⟨h0, h1⟩, h2⟩, h3⟩, h4⟩ := hb
  have h0 := Nat.eq_of_beq_eq_true h0
  refine ⟨fun E a w hs => ?_⟩
  have hg : wpMix P ops (fun a w => ∃ E, s'.is B E a w) [o] a w := ht.out E a w hs
  have hfree : ∀ j oj, ops[j]? = some oj → j ≠ i → listed.getD j true = false → waitsM ops ops.size j i = true ∨ (o.apart ops oj = true ∧ (blind o.op = true ∨ kindOp oj.op ≤ 1)) := by
    intro j oj hoj hji hun
    have := List.all_eq_true.1 h3 j (List.mem_range.2 (Array.getElem?_eq_some_iff.1 hoj).1)
    simp only [hoj, hun, Bool.or_false, Bool.or_eq_true, beq_iff_eq, hji, false_or, Bool.and_eq_true] at this
    exact this.symm.imp id fun ⟨h1, h2⟩ => ⟨h1, h2.imp id fun h => Nat.le_of_ble_eq_true h⟩
  unfold wpMix at hg
  by_cases hw : Region.wanted o (yielded ops a.tmps) = true
  · rw [if_pos hw] at hg
    rcases hg with ⟨v, hv, hn⟩ | ⟨hk, _⟩
    · obtain ⟨E', hs'⟩ := hn
      exact anyM_first hi (Region.noSelect_spec h1) ops.size fuel listed a w (closedB_spec h4) hfree h2 (.inl ⟨hw, fun w' hw' => hw'.elim (fun hb => blind_run hb a.eval (hv w (Kept0.refl w))) (hv w')⟩) (h.out E' _ w hs')
    · exact absurd h0 hk
  · rw [if_neg hw] at hg
    obtain ⟨E', hs'⟩ := hg
    exact anyM_first hi (Region.noSelect_spec h1) ops.size fuel listed a w (closedB_spec h4) hfree h2 (.inr ⟨by simpa using hw, rfl⟩) (h.out E' _ w hs')

end Go.Sx

/- A flat slice of one's own taken apart into its block, and put together again; parts of it by name; copy, append within the room, clear. -/
set_option maxRecDepth 100000
namespace Go.Sx
open Go
open Go.RowKit (Below)
variable {P : Program} {T : List (TypeId × TI)}

def rowsAV (n : Nat) (row : Nat → List Cell) : List AV := (List.range n).flatMap fun i => (row i).map AV.c

theorem rowsAV_len {n es : Nat} {row : Nat → List Cell} (hl : ∀ i, i < n → (row i).length = es) : (rowsAV n row).length = n * es := by
  unfold rowsAV
  induction n with
  | zero => simp
  | succ n ih =>
    rw [List.range_succ, List.flatMap_append, List.length_append, ih (fun i hi => hl i (by omega))]
    simp [hl n (Nat.lt_succ_self n), Nat.succ_mul]

theorem rowsAV_get {n es : Nat} {row : Nat → List Cell} (hl : ∀ i, i < n → (row i).length = es) {i j : Nat} (hi : i < n) (hj : j < es) : (rowsAV n row)[i * es + j]? = ((row i)[j]?).map AV.c := by
  unfold rowsAV
  induction n with
  | zero => omega
  | succ n ih =>
    have hlen := rowsAV_len (n := n) (row := row) (es := es) (fun i hi => hl i (by omega))
    unfold rowsAV at hlen
    rw [List.range_succ, List.flatMap_append]
    by_cases h : i < n
    · have := idx_lt h hj
      rw [List.getElem?_append_left (by omega)]
      exact ih (fun i hi => hl i (by omega)) h
    · obtain rfl : i = n := by omega
      rw [List.getElem?_append_right (by omega), hlen]
      simp

theorem rowsAV_none {n es : Nat} {row : Nat → List Cell} (hl : ∀ i, i < n → (row i).length = es) {m : Nat} {x : AV} (h : (rowsAV n row)[m]? = some x) : ∃ i j c, i < n ∧ j < es ∧ m = i * es + j ∧ (row i)[j]? = some c ∧ x = .c c := by
  have hm : m < n * es := by rw [← rowsAV_len hl]; exact (List.getElem?_eq_some_iff.1 h).1
  have he : 0 < es := Nat.pos_of_ne_zero (fun e => by subst e; simp at hm)
  have hi : m / es < n := Nat.div_lt_of_lt_mul (by rw [Nat.mul_comm]; exact hm)
  have hj : m % es < es := Nat.mod_lt _ he
  have hmm : m / es * es + m % es = m := by rw [Nat.mul_comm]; exact Nat.div_add_mod m es
  rw [← hmm, rowsAV_get hl hi hj] at h
  rw [Option.map_eq_some_iff] at h
  obtain ⟨c, hc, rfl⟩ := h
  exact ⟨m / es, m % es, c, hi, hj, hmm.symm, hc, rfl⟩

def ptrV (b : Nat) : Value := .pointer (some ⟨b, 0, none⟩)
def slV (b o n cap : Nat) : Value := .slice (some ⟨b, o, none⟩) n cap

/-- A flat slice that is not empty, taken apart. -/
theorem unpackW {B : Base} {Q : Exit → Act → World → Prop} {K : List KI} {s : AS} (k : Nat) {n es : Nat} {row : Nat → List Cell} (hk : getOwn s.own k = some (.sl n es row)) (hn : 0 < n) (hf : FlatRows n row)
    (h : ∀ (b off cap : Nat) (pre post : List AV), pre.length = off * es → n ≤ cap → cap ≤ maxLen → (cap - n) * es ≤ post.length →
      GW P B Q K { s with own := remOs [k] s.own, next := s.next + 1, boxes := ⟨s.next, pre ++ rowsAV n row ++ post⟩ :: s.boxes, links := (s.next, ptrV b) :: (k, slV b (off * es) n cap) :: s.links }) : GW P B Q K s := by
  refine ⟨fun E a w hs => ?_⟩
  have hm := getOwn_mem hk
  obtain ⟨hklt, o2, o3⟩ := hs.own _ hm
  simp only at o2 o3 hklt
  generalize hov : E.ov k = ovk, hfp : E.fp k = fp at o2 o3
  cases o2 with
  | nil => omega
  | emp => omega
  | sl _ _ _ b off cap ty cells fps hnc hcp hb hcs hl hr =>
    have hI := hs.drop [k]
    have kE := Env.with_keep E s.next b
    have hbk : s.avoid E b := .inr ⟨_, hm, by rw [hfp]; simp⟩
    have nav : ¬ ({ s with own := remOs [k] s.own } : AS).avoid E b := by
      rintro (⟨r, hr', he⟩ | ⟨r, hr', hz'⟩)
      · exact hs.sepB r hr' _ hm (by rw [he, hfp]; simp)
      · obtain ⟨q1, q2⟩ := remOs_mem.1 hr'
        exact hs.sep _ hm r q1 (fun e => q2 (by simp at e; simp [e])) b (by rw [hfp]; simp) hz'
    let s1 : AS := { s with own := remOs [k] s.own, next := s.next + 1, links := (s.next, ptrV b) :: (k, slV b (off * es) n cap) :: s.links }
    have hA1 : s1.isA B (E.with s.next b) (s.avoid E) a w := by
      have mv : ∀ x v, Den E w (s.avoid E) s.next x v → Den (E.with s.next b) w (s.avoid E) (s.next + 1) x v := fun x v hx => hx.move (Nat.le_succ _) kE (fun _ _ _ => rfl) (fun _ _ h => h)
      have kb : ∀ x ∈ s.boxes, (E.with s.next b).β x.key = E.β x.key := fun x hx => (kE _ (hs.boxes x hx).1).1
      have av : ∀ c, s1.avoid (E.with s.next b) c → ({ s with own := remOs [k] s.own } : AS).avoid E c := by
        rintro c (⟨x, hx, hc⟩ | hc)
        · exact .inl ⟨x, hx, by rw [← kb x hx]; exact hc⟩
        · exact .inr hc
      refine ⟨hs.defers, fun p hp => ?_, hs.size, fun i x hx => mv _ _ (hs.slots i x hx), fun x hx => ?_, fun x hx y hy e => hs.boxes2 x hx y hy (by rw [← kb x hx, ← kb y hy]; exact e), hs.keys, fun y hy => ?_, hI.ownkeys, hI.sep, fun x hx y hy => ?_, fun j hj => ?_, hs.base, fun c hc => hI.fresh c (av c hc), fun c hc => hI.sub c (av c hc)⟩
      · rcases List.mem_cons.1 hp with rfl | hp
        · exact ⟨Nat.lt_succ_self _, by simp [Env.with, ptrV]⟩
        · rcases List.mem_cons.1 hp with rfl | hp
          · exact ⟨Nat.lt_succ_of_lt hklt, by rw [(kE _ hklt).2, hov]; rfl⟩
          · exact ⟨Nat.lt_succ_of_lt (hs.links p hp).1, by rw [(kE _ (hs.links p hp).1).2]; exact (hs.links p hp).2⟩
      · obtain ⟨g1, ws, ty', g2, g3, g4⟩ := hs.boxes x hx
        exact ⟨Nat.lt_succ_of_lt g1, ws, ty', by rw [kb x hx]; exact g2, g3, fun i y hy => mv _ _ (g4 i y hy)⟩
      · obtain ⟨g1, g2, g3⟩ := hI.own y hy
        exact ⟨Nat.lt_succ_of_lt g1, by rw [(kE _ g1).2]; exact g2, g3⟩
      · rw [kb x hx]; exact hI.sepB x hx y hy
      · by_cases e : j = s.next
        · subst e; simp [Env.with, Value.oneCell']
        · have hj' : j < s.next := by have : j < s.next + 1 := hj; omega
          rw [(kE _ hj').2]; exact hs.one j hj'
    have nav1 : ¬ s1.avoid (E.with s.next b) b := by
      intro hc
      refine nav ?_
      rcases hc with ⟨x, hx, hc⟩ | hc
      · exact .inl ⟨x, hx, by rw [← (kE _ (hs.boxes x hx).1).1]; exact hc⟩
      · exact .inr hc
    let pre : List AV := List.replicate (off * es) .any
    let post : List AV := List.replicate (cells.size - (off + n) * es) .any
    have hle : (off + n) * es ≤ cells.size := Nat.le_trans (Nat.mul_le_mul_right _ (by omega)) hcs
    have hll := rowsAV_len hl
    have hlen : (pre ++ rowsAV n row ++ post).length = cells.size := by
      simp only [pre, post, List.length_append, List.length_replicate, hll, Nat.add_mul] at hle ⊢
      omega
    have hB1 := hA1.addBox (k := s.next) (Nat.lt_succ_self _) (fun x hx e => by have := (hs.boxes x hx).1; omega) (cells := pre ++ rowsAV n row ++ post) (vs := cells) (ty := ty) (by rw [Env.with_self]; exact hb) hlen.symm
      (fun i y hy => by
        by_cases h1 : i < off * es
        · rw [List.append_assoc, List.getElem?_append_left (by simpa [pre] using h1)] at hy
          have : y = .any := by simp [pre, List.getElem?_replicate, h1] at hy; exact hy.symm
          rw [this]; exact .any _
        · rw [List.append_assoc, List.getElem?_append_right (by simpa [pre] using Nat.le_of_not_lt h1)] at hy
          simp only [pre, List.length_replicate] at hy
          by_cases h2 : i - off * es < n * es
          · rw [List.getElem?_append_left (by rw [hll]; exact h2)] at hy
            obtain ⟨i', j', c, hi', hj', hm', hc, rfl⟩ := rowsAV_none hl hy
            have := hr i' j' c hi' hc
            obtain ⟨x, rfl⟩ := hf i' hi' c (List.mem_of_getElem? hc)
            rw [show (off + i') * es + j' = i by rw [Nat.add_mul]; omega] at this
            generalize cells.getD i undef = u, fps (i' * es + j') = g at this
            cases this with
            | val _ h1 => exact .c (.val _ h1)
          · rw [List.getElem?_append_right (by rw [hll]; omega)] at hy
            have : y = .any := by
              have := List.mem_of_getElem? hy
              exact List.eq_of_mem_replicate this
            rw [this]; exact .any _)
      (by rw [Env.with_self]; exact nav1) (by rw [Env.with_self]; exact hbk) (by rw [Env.with_self]; exact hs.fresh b hbk)
    exact (h b off cap pre post (by simp [pre]) hnc hcp (by
      simp only [post, List.length_replicate]
      have : (off + cap) * es = (off + n) * es + (cap - n) * es := by rw [← Nat.add_mul]; congr 1; omega
      omega)).out _ a w hB1.is

/-- A slot that holds what is owned (or was), by name. -/
theorem nameSlot {B : Base} {Q : Exit → Act → World → Prop} {K : List KI} {s : AS} (i k : Nat) {v : Value} (hl : getLink s.links k = some v) (hi : nth s.slots i = .own k) (h : GW P B Q K { s with slots := setNth s.slots i (.c (.val v)) }) : GW P B Q K s := by
  refine ⟨fun E a w hs => h.rec fun g => g E a w ⟨hs.defers, hs.links, by rw [hs.size]; exact (setNth_length _ _ _).symm, fun m z hz => ?_, hs.boxes, hs.boxes2, hs.keys, hs.own, hs.ownkeys, hs.sep, hs.sepB, hs.one, hs.base, hs.fresh⟩⟩
  simp only at hz
  rw [setNth_get] at hz
  split at hz
  · rename_i hm
    obtain ⟨rfl, hm⟩ := hm
    obtain rfl := Option.some.inj hz
    have hd := hs.slots i (.own k) (by rw [nth_get, List.getElem?_eq_getElem hm] at hi; rw [List.getElem?_eq_getElem hm]; simpa using hi)
    obtain ⟨h1, h2⟩ := hs.links _ (getLink_mem hl)
    have h2 : E.ov k = v := h2
    have h1' : k < s.next := h1
    generalize a.tmps.getD i undef = u at hd
    cases hd with
    | own _ => rw [h2]; exact .c (.val _ (by rw [← h2]; exact hs.one k h1'))
  · exact hs.slots m z hz

/-- A block that holds such rows is taken for a slice of one's own. -/
theorem packW {B : Base} {Q : Exit → Act → World → Prop} {K : List KI} {s : AS} (i kb : Nat) {bx : Bx} {b off n es cap : Nat} (row : Nat → List Cell) (pre post : List AV) (hb : getBx s.boxes kb = some bx) (hc : bx.cells = pre ++ rowsAV n row ++ post) (hpre : pre.length = off * es)
    (hrow : ∀ i, i < n → (row i).length = es) (hf : FlatRows n row) (hn : n ≤ cap) (hcap : cap ≤ maxLen) (hpost : (cap - n) * es ≤ post.length) (hl : getLink s.links kb = some (ptrV b)) (hi : nth s.slots i = .c (.val (slV b (off * es) n cap)))
    (h : GW P B Q K { s with boxes := remB kb s.boxes, own := ⟨s.next, .sl n es row⟩ :: s.own, next := s.next + 1, slots := setNth s.slots i (.own s.next) }) : GW P B Q K s := by
  refine ⟨fun E a w hs => ?_⟩
  obtain ⟨hm, rfl⟩ := getBx_mem hb
  obtain ⟨h1, vs, ty, h2, h3, h4⟩ := hs.boxes bx hm
  obtain ⟨hlk, hov⟩ := hs.links _ (getLink_mem hl)
  have hov : E.ov bx.key = ptrV b := hov
  have hβ : E.β bx.key = b := by unfold Env.β; rw [hov]; rfl
  rw [hβ] at h2
  have hI := hs.dropP bx.key []
  have hrem : remOs [] s.own = s.own := remOs_nil _
  have hav : s.avoid E b := .inl ⟨bx, hm, hβ⟩
  have nav : ¬ (Sx.dropP bx.key [] s).avoid E b := by
    rintro (⟨x, hx, hc'⟩ | ⟨y, hy, hc'⟩)
    · obtain ⟨q1, q2⟩ := remB_mem.1 hx
      exact q2 (hs.boxes2 x q1 bx hm (by rw [hβ]; exact hc'))
    · exact hs.sepB bx hm y (remOs_mem.1 hy).1 (by rw [hβ]; exact hc')
  have hll := rowsAV_len hrow
  have hsz : (off + cap) * es ≤ vs.size := by
    rw [h3, hc]
    simp only [List.length_append, hpre, hll, Nat.add_mul]
    have : (cap - n) * es + n * es = cap * es := by rw [← Nat.add_mul]; congr 1; omega
    omega
  have hown : OwnRep w (.sl n es row) (slV b (off * es) n cap) (b :: (List.range (n * es)).flatMap fun _ => []) := by
    refine .sl n es row b off cap ty vs (fun _ => []) hn hcap h2 hsz hrow (fun i j c hi hj => ?_)
    have hjl : j < es := by rw [← hrow i hi]; exact (List.getElem?_eq_some_iff.1 hj).1
    have := h4 ((off + i) * es + j) (.c c) (by
      rw [hc, List.append_assoc, List.getElem?_append_right (by rw [hpre, Nat.add_mul]; omega), hpre, show (off + i) * es + j - off * es = i * es + j by rw [Nat.add_mul]; omega, List.getElem?_append_left (by rw [hll]; exact idx_lt hi hjl), rowsAV_get hrow hi hjl, hj]
      rfl)
    obtain ⟨x, rfl⟩ := hf i hi c (List.mem_of_getElem? hj)
    generalize vs.getD ((off + i) * es + j) undef = u at this
    cases this with
    | c hr => cases hr with
      | val _ h1 => exact .val _ h1
  have hfl : (List.range (n * es)).flatMap (fun _ => ([] : List Nat)) = [] := flatMap_none _
  rw [hfl] at hown
  obtain ⟨k1, k2⟩ := hI.addOwn hown (by simp) (fun z hz => by
    rw [List.mem_singleton.1 hz]
    exact ⟨hav, nav, hs.fresh b hav⟩)
  have hs3 : ({ s with boxes := remB bx.key s.boxes, own := ⟨s.next, .sl n es row⟩ :: s.own, next := s.next + 1 } : AS) = (Sx.dropP bx.key [] s).addOwn (.sl n es row) := by simp [AS.addOwn, Sx.dropP, hrem]
  have k3 : ({ s with boxes := remB bx.key s.boxes, own := ⟨s.next, .sl n es row⟩ :: s.own, next := s.next + 1 } : AS).is B (E.withOwn s.next (slV b (off * es) n cap) [b]) a w := by rw [hs3]; exact k1.is
  have hsub : ∀ z, ({ s with boxes := remB bx.key s.boxes, own := ⟨s.next, .sl n es row⟩ :: s.own, next := s.next + 1 } : AS).avoid (E.withOwn s.next (slV b (off * es) n cap) [b]) z → s.avoid E z := by rw [hs3]; exact k1.sub
  refine h.out (E.withOwn s.next (slV b (off * es) n cap) [b]) a w ⟨k3.defers, k3.links, by rw [k3.size]; exact (setNth_length _ _ _).symm, fun m z hz => ?_, k3.boxes, k3.boxes2, k3.keys, k3.own, k3.ownkeys, k3.sep, k3.sepB, k3.one, k3.base, k3.fresh⟩
  simp only at hz
  rw [setNth_get] at hz
  split at hz
  · rename_i hm2
    obtain ⟨rfl, hm2⟩ := hm2
    obtain rfl := Option.some.inj hz
    have hd := hs.slots i (.c (.val (slV b (off * es) n cap))) (by rw [nth_get, List.getElem?_eq_getElem hm2] at hi; rw [List.getElem?_eq_getElem hm2]; simpa using hi)
    rw [den_int hd]
    have : Den (E.withOwn s.next (slV b (off * es) n cap) [b]) w _ _ (.own s.next) (slV b (off * es) n cap) := k2
    exact this.move (Nat.le_refl _) (fun _ _ => ⟨rfl, rfl⟩) (fun _ _ _ => rfl) (fun b _ hb => hsub b hb)
  · exact k3.slots m z hz

/-- A part of a named slice. -/
theorem sliceV (hT : TblOk P T) {B : Base} {Q : Exit → Act → World → Prop} {q : Bool} {all : Array Oper} {o : Oper} {rest : List Oper} {K : List KI} {s : AS} {t e : TypeId} {x : Operand} {lo hi : Option Operand} {i j : TI}
    (hg : o.guard = none) (ho : o.op = .slice t x lo hi none) (hi' : find T t = some i) (he : i.elem = some e) (hj : find T e = some j)
    {b ad n cap : Nat} (hx : s.ev x = .c (.val (slV b ad n cap))) {l h : Int} (hl : bnd s lo 0 = some l) (hh : bnd s hi n = some h) (hb : 0 ≤ l ∧ l ≤ h ∧ h ≤ cap ∧ (hi = none → h ≤ n) ∧ l < cap)
    (ad' n' c' : Nat) (q1 : ad' = ad + l.toNat * j.size) (q2 : n' = h.toNat - l.toNat) (q3 : c' = cap - l.toNat) (hgo : GW P B Q (.ops q all rest :: K) (s.put o.dst (.c (.val (slV b ad' n' c'))))) : GW P B Q (.ops q all (o :: rest) :: K) s := by
  subst q1 q2 q3
  refine ⟨G_ops_read hg (fun E a w hs => ?_)⟩
  have hd := hs.ev x
  rw [hx] at hd
  have hv := den_int hd
  have h1 := bnd_val hs hl
  have h2 := bnd_val hs hh
  have hu := run_elem_ti (hT t i hi') he
  have hel : P.elem t = e := by simp [Program.elem, hu]
  have hu' : P.underlying t = some (.slice (P.elem t)) := by rw [hel]; exact hu
  have hz : ∀ w, (sizeOf (P.elem t)).run P w = .ok j.size w := fun w => by rw [hel]; exact run_sizeOf_ti (hT e j hj) w
  have hval : sliced (some ⟨b, ad, none⟩) l.toNat h.toNat cap j.size = slV b (ad + l.toNat * j.size) (h.toNat - l.toNat) (cap - l.toNat) := by
    unfold sliced slV
    rw [if_neg (by omega)]
    simp only [Option.map_some, add_none]
  refine ⟨_, fun w' _ => ?_, hgo.out E _ w (hs.put o.dst (.c (.val _ rfl)))⟩
  have hrun : (Instr.sliceAt t (slV b ad n cap) (lo.map a.eval) (hi.map a.eval) none).run P w' = .ok (slV b (ad + l.toNat * j.size) (h.toNat - l.toNat) (cap - l.toNat)) w' := by
    rw [← hval, run_sliceAt_slice w' t _ _ _ _ hu']
    unfold slV
    rcases h1 with ⟨e1, rfl⟩ | ⟨k1, e1⟩ <;> rcases h2 with ⟨e2, rfl⟩ | ⟨k2, e2⟩ <;> rw [e1, e2]
    · rw [run_slice_all w' t _ n cap hu', hz]; simp [Result.andThen]
    · rw [run_slice_h w' t _ n cap hu' k2 h (by omega) (by omega), hz]; simp [Result.andThen]
    · rw [run_slice_l w' t _ n cap hu' k1 l (by omega) (by omega), hz]; simp [Result.andThen]
    · rw [run_slice_lh w' t _ n cap hu' k1 k2 l h (by omega) (by omega) (by omega), hz]; simp [Result.andThen]
  obtain ⟨dst, op', ty, pos, after, guard⟩ := o
  simp only at ho
  subst ho
  simp [execOp, hv, hrun]

/-- A part of a slice that is not looked at. -/
theorem sliceAny (hT : TblOk P T) {B : Base} {Q : Exit → Act → World → Prop} {q : Bool} {all : Array Oper} {o : Oper} {rest : List Oper} {K : List KI} {s : AS} {t e : TypeId} {x : Operand} {lo : Option Operand} {i j : TI}
    (hg : o.guard = none) (ho : o.op = .slice t x lo none none) (hi' : find T t = some i) (he : i.elem = some e) (hj : find T e = some j)
    {k n es : Nat} {row : Nat → List Cell} (hx : s.ev x = .own k) (hk : getOwn s.own k = some (.sl n es row)) {l : Int} (hl : bnd s lo 0 = some l) (hb : 0 ≤ l ∧ l ≤ n)
    (hgo : GW P B Q (.ops q all rest :: K) (s.put o.dst .any)) : GW P B Q (.ops q all (o :: rest) :: K) s := by
  refine ⟨G_ops_read hg (fun E a w hs => ?_)⟩
  have hd := hs.ev x
  rw [hx] at hd
  have hv : a.eval x = E.ov k := by
    generalize a.eval x = v at hd
    cases hd with
    | own _ => rfl
  have h1 := bnd_val hs hl
  obtain ⟨_, o2, _⟩ := hs.own _ (getOwn_mem hk)
  have hsh : ∃ ad cap, E.ov k = .slice ad n cap ∧ n ≤ cap := by
    simp only at o2
    generalize E.ov k = u, E.fp k = fp at o2
    cases o2 with
    | nil => exact ⟨none, 0, rfl, Nat.le_refl _⟩
    | emp => exact ⟨_, 0, rfl, Nat.le_refl _⟩
    | sl _ _ _ b off cap ty cells fps hn => exact ⟨_, cap, rfl, hn⟩
  obtain ⟨ad, cap, hov, hcap⟩ := hsh
  refine ⟨sliced ad l.toNat ((n : Int)).toNat cap j.size, fun w' _ => ?_, hgo.out E _ w (hs.put o.dst (.any _))⟩
  have hrun := run_sub (a := ad) (h := n) (hT t i hi') he (hT e j hj) h1 (.inl ⟨rfl, rfl⟩) hb.1 hb.2 (Int.le_refl _) hcap w'
  obtain ⟨dst, op', ty, pos, after, guard⟩ := o
  simp only at ho
  subst ho
  simp [execOp, hv, hov, hrun]

/-- Cells of a block are written. -/
theorem putBox {s : AS} {B : Base} {E : Env} {a : Act} {w : World} (hs : s.is B E a w) {kb b : Nat} {bx : Bx} (hl : getLink s.links kb = some (ptrV b)) (hb : getBx s.boxes kb = some bx) (L1 D L2 S : List AV) (hc : bx.cells = L1 ++ D ++ L2) (hD : D.length = S.length)
    (vals : List Value) (hv : vals.length = S.length) (hden : ∀ i y, S[i]? = some y → Den E w (s.avoid E) s.next y (vals.getD i undef)) :
    ∃ ty vs, w.heap[b]? = some (.cells vs ty (0, 0)) ∧ L1.length + vals.length ≤ vs.size ∧
      ({ s with boxes := setBx s.boxes kb (L1 ++ S ++ L2) } : AS).is B E a (w.setRow b (vs.toList.take L1.length ++ vals ++ vs.toList.drop (L1.length + vals.length)).toArray) := by
  obtain ⟨hm, rfl⟩ := getBx_mem hb
  obtain ⟨h1, vs, ty, h2, h3, h4⟩ := hs.boxes bx hm
  obtain ⟨hlk, hov⟩ := hs.links _ (getLink_mem hl)
  have hov : E.ov bx.key = ptrV b := hov
  have hβ : E.β bx.key = b := by unfold Env.β; rw [hov]; rfl
  rw [hc] at h3 h4
  simp only [List.length_append] at h3
  refine ⟨ty, vs, by rw [← hβ]; exact h2, by omega, ?_⟩
  have := hs.setBox hb (L1 ++ S ++ L2) (vs.toList.take L1.length ++ vals ++ vs.toList.drop (L1.length + vals.length)).toArray (by simp; omega) (fun j y hj => by
    rw [← getD_toList]
    simp only [List.getD]
    have e1 : (vs.toList.take L1.length).length = L1.length := by simp; omega
    by_cases c1 : j < L1.length
    · rw [List.append_assoc, List.getElem?_append_left c1] at hj
      rw [List.append_assoc, List.getElem?_append_left (by omega)]
      have := h4 j y (by rw [List.append_assoc, List.getElem?_append_left c1]; exact hj)
      rw [← getD_toList] at this
      simpa [List.getD, List.getElem?_take, c1] using this
    · rw [List.append_assoc, List.getElem?_append_right (by omega)] at hj
      rw [List.append_assoc, List.getElem?_append_right (by omega), e1]
      by_cases c2 : j - L1.length < S.length
      · rw [List.getElem?_append_left c2] at hj
        rw [List.getElem?_append_left (by omega)]
        have := hden _ y hj
        simpa [List.getD] using this
      · rw [List.getElem?_append_right (by omega)] at hj
        rw [List.getElem?_append_right (by omega), List.getElem?_drop, hv]
        have := h4 j y (by rw [List.append_assoc, List.getElem?_append_right (by omega), List.getElem?_append_right (by omega), hD]; exact hj)
        rw [← getD_toList] at this
        rw [show L1.length + S.length + (j - L1.length - S.length) = j by omega]
        simpa [List.getD] using this)
  rw [hβ] at this
  exact this

/-- Cells of a block are read. -/
theorem getBox {s : AS} {B : Base} {E : Env} {a : Act} {w : World} (hs : s.is B E a w) {kb b : Nat} {bx : Bx} (hl : getLink s.links kb = some (ptrV b)) (hb : getBx s.boxes kb = some bx) (M1 S M2 : List AV) (hc : bx.cells = M1 ++ S ++ M2) (hS : ∀ y ∈ S, ∃ c, y = .c c) :
    ∃ vals : List Value, vals.length = S.length ∧ (∀ i y, S[i]? = some y → Den E w (s.avoid E) s.next y (vals.getD i undef)) ∧ (∀ j v, vals[j]? = some v → w.cell? ((⟨b, M1.length, none⟩ : Addr).add j) = some v) ∧ ∀ v ∈ vals, v.oneCell' = true := by
  obtain ⟨hm, rfl⟩ := getBx_mem hb
  obtain ⟨h1, vs, ty, h2, h3, h4⟩ := hs.boxes bx hm
  obtain ⟨hlk, hov⟩ := hs.links _ (getLink_mem hl)
  have hov : E.ov bx.key = ptrV b := hov
  have hβ : E.β bx.key = b := by unfold Env.β; rw [hov]; rfl
  rw [hβ] at h2
  rw [hc] at h3 h4
  simp only [List.length_append] at h3
  have hD : ∀ i y, S[i]? = some y → Den E w (s.avoid E) s.next y (vs.getD (M1.length + i) undef) := fun i y hy => by
    have hi : i < S.length := (List.getElem?_eq_some_iff.1 hy).1
    refine h4 (M1.length + i) y ?_
    rw [List.append_assoc, List.getElem?_append_right (by omega), show M1.length + i - M1.length = i by omega, List.getElem?_append_left hi]
    exact hy
  refine ⟨(List.range S.length).map fun i => vs.getD (M1.length + i) undef, by simp, fun i y hy => ?_, fun j v hj => ?_, fun v hv => ?_⟩
  · have hi : i < S.length := (List.getElem?_eq_some_iff.1 hy).1
    have := hD i y hy
    simpa [List.getD, hi] using this
  · rw [add_none, cell_of_row w b _ vs ty (0, 0) h2]
    simp only [List.getElem?_map, Option.map_eq_some_iff] at hj
    obtain ⟨i, hi, rfl⟩ := hj
    obtain ⟨hij, rfl⟩ := List.getElem?_eq_some_iff.1 hi
    simp only [List.length_range] at hij
    simp only [List.getElem_range]
    have : M1.length + j < vs.size := by omega
    simp [Array.getD, this]
  · simp only [List.mem_map, List.mem_range] at hv
    obtain ⟨i, hi, rfl⟩ := hv
    have hy := List.getElem?_eq_getElem hi
    have := hD i _ hy
    obtain ⟨c, hc'⟩ := hS _ (List.getElem_mem hi)
    rw [hc'] at this
    generalize vs.getD (M1.length + i) undef = u at this
    cases this with
    | c hr => exact hr.one

/-- 'copy' from a part of a block to a part of a block. -/
theorem copyVV (hT : TblOk P T) {B : Base} {Q : Exit → Act → World → Prop} {q : Bool} {all : Array Oper} {o : Oper} {rest : List Oper} {K : List KI} {s : AS} {t t' e : TypeId} {x y : Operand} {i j : TI}
    (hg : o.guard = none) (ho : o.op = .call { callee := .builtin .copy, args := #[x, y], argTypes := #[t, t'] }) (hi : find T t = some i) (he : i.elem = some e) (hj : find T e = some j)
    {b o1 n1 c1 kb : Nat} {bx : Bx} (hx : s.ev x = .c (.val (slV b o1 n1 c1))) (hl : getLink s.links kb = some (ptrV b)) (hb : getBx s.boxes kb = some bx)
    {b2 o2 n2 c2 kb2 : Nat} {bx2 : Bx} (hy : s.ev y = .c (.val (slV b2 o2 n2 c2))) (hl2 : getLink s.links kb2 = some (ptrV b2)) (hb2 : getBx s.boxes kb2 = some bx2)
    (L1 D L2 M1 S M2 : List AV) (hc : bx.cells = L1 ++ D ++ L2) (h1 : L1.length = o1) (hD : D.length = S.length) (hc2 : bx2.cells = M1 ++ S ++ M2) (h2 : M1.length = o2) (hS : S.length = Nat.min n2 n1 * j.size) (hSc : ∀ y ∈ S, ∃ c, y = .c c)
    (h : GW P B Q (.ops q all rest :: K) (({ s with boxes := setBx s.boxes kb (L1 ++ S ++ L2) } : AS).put o.dst .any)) : GW P B Q (.ops q all (o :: rest) :: K) s := by
  refine ⟨G_ops_val hg (by rw [ho]; simp [kindOp]) (fun E a w hs => ?_)⟩
  have e1 := den_int (show Den E w (s.avoid E) s.next (.v (slV b o1 n1 c1)) (a.eval x) by have := hs.ev x; rwa [hx] at this)
  have e2 := den_int (show Den E w (s.avoid E) s.next (.v (slV b2 o2 n2 c2)) (a.eval y) by have := hs.ev y; rwa [hy] at this)
  obtain ⟨vals, g1, g2, g3, g4⟩ := getBox hs hl2 hb2 M1 S M2 hc2 hSc
  obtain ⟨ty, vs, k1, k2, k3⟩ := putBox hs hl hb L1 D L2 S hc hD vals g1 g2
  have hu := run_elem_ti (hT t i hi) he
  have hld := run_loadCells_list (P := P) w ⟨b2, M1.length, none⟩ vals g3
  have hst := run_storeCells_at P b L1.length ty vals 0 vs w k1 (by omega) g4
  simp only [Nat.add_zero] at hst
  refine ⟨goInt (Nat.min n2 n1), _, .inl ?_, fun hk => (by rw [ho] at hk; simp [kindOp] at hk), h.out E _ _ (k3.put o.dst (.any _))⟩
  obtain ⟨dst, op', ty', pos, after, guard⟩ := o
  simp only at ho
  subst ho
  rw [g1, hS] at hld
  subst h1
  subst h2
  simp [execOp, resolve, invoke, builtin, e1, e2, slV, Builtin.copy_, run_underlying hu, run_sizeOf_ti (hT e j hj), Builtin.lenOf, Builtin.firstCells, hld, hst]

/-- The cells of a flat slice of one's own. -/
theorem getOwnV {s : AS} {B : Base} {E : Env} {a : Act} {w : World} (hs : s.is B E a w) {k n es : Nat} {row : Nat → List Cell} (hk : getOwn s.own k = some (.sl n es row)) (hf : FlatRows n row) (hn : 0 < n) :
    ∃ (b o cap : Nat) (vals : List Value), E.ov k = slV b o n cap ∧ vals.length = n * es ∧ (∀ i y, (rowsAV n row)[i]? = some y → Den E w (s.avoid E) s.next y (vals.getD i undef)) ∧ (∀ j v, vals[j]? = some v → w.cell? ((⟨b, o, none⟩ : Addr).add j) = some v) ∧ (∀ v ∈ vals, v.oneCell' = true) ∧ (rowsAV n row).length = n * es := by
  obtain ⟨_, o2, _⟩ := hs.own _ (getOwn_mem hk)
  simp only at o2
  generalize E.ov k = u, E.fp k = fp at o2
  cases o2 with
  | nil => omega
  | emp => omega
  | sl _ _ _ b off cap ty cells fps hnc hcp hb hcs hl hr =>
    have hll := rowsAV_len hl
    have hle : (off + n) * es ≤ cells.size := Nat.le_trans (Nat.mul_le_mul_right _ (by omega)) hcs
    have hD : ∀ i y, (rowsAV n row)[i]? = some y → Den E w (s.avoid E) s.next y (cells.getD (off * es + i) undef) ∧ (cells.getD (off * es + i) undef).oneCell' = true := fun i y hy => by
      obtain ⟨i', j', c, hi', hj', rfl, hc, rfl⟩ := rowsAV_none hl hy
      have := hr i' j' c hi' hc
      obtain ⟨x, rfl⟩ := hf i' hi' c (List.mem_of_getElem? hc)
      rw [show (off + i') * es + j' = off * es + (i' * es + j') by rw [Nat.add_mul]; omega] at this
      generalize cells.getD (off * es + (i' * es + j')) undef = u, fps (i' * es + j') = g at this
      cases this with
      | val _ h1 => exact ⟨.c (.val _ h1), h1⟩
    refine ⟨b, off * es, cap, (List.range (n * es)).map fun i => cells.getD (off * es + i) undef, rfl, by simp, fun i y hy => ?_, fun j v hj => ?_, fun v hv => ?_, hll⟩
    · have hi : i < n * es := by rw [← hll]; exact (List.getElem?_eq_some_iff.1 hy).1
      have := (hD i y hy).1
      simpa [List.getD, hi] using this
    · rw [add_none, cell_of_row w b _ cells ty (0, 0) hb]
      simp only [List.getElem?_map, Option.map_eq_some_iff] at hj
      obtain ⟨i, hi, rfl⟩ := hj
      obtain ⟨hij, rfl⟩ := List.getElem?_eq_some_iff.1 hi
      simp only [List.length_range] at hij
      simp only [List.getElem_range]
      have : off * es + j < cells.size := by rw [Nat.add_mul] at hle; omega
      simp [Array.getD, this]
    · simp only [List.mem_map, List.mem_range] at hv
      obtain ⟨i, hi, rfl⟩ := hv
      exact (hD i _ (List.getElem?_eq_getElem (by rw [hll]; exact hi))).2

/-- 'copy' of all of a flat slice of one's own into a part of a block. -/
theorem copyOV (hT : TblOk P T) {B : Base} {Q : Exit → Act → World → Prop} {q : Bool} {all : Array Oper} {o : Oper} {rest : List Oper} {K : List KI} {s : AS} {t t' e : TypeId} {x y : Operand} {i j : TI}
    (hg : o.guard = none) (ho : o.op = .call { callee := .builtin .copy, args := #[x, y], argTypes := #[t, t'] }) (hi : find T t = some i) (he : i.elem = some e) (hj : find T e = some j)
    {b o1 n1 c1 kb : Nat} {bx : Bx} (hx : s.ev x = .c (.val (slV b o1 n1 c1))) (hl : getLink s.links kb = some (ptrV b)) (hb : getBx s.boxes kb = some bx)
    {k n es : Nat} {row : Nat → List Cell} (hy : s.ev y = .own k) (hk : getOwn s.own k = some (.sl n es row)) (hf : FlatRows n row) (hn : 0 < n) (hes : es = j.size) (hle : n ≤ n1)
    (L1 D L2 : List AV) (hc : bx.cells = L1 ++ D ++ L2) (h1 : L1.length = o1) (hD : D.length = n * es)
    (h : GW P B Q (.ops q all rest :: K) (({ s with boxes := setBx s.boxes kb (L1 ++ rowsAV n row ++ L2) } : AS).put o.dst .any)) : GW P B Q (.ops q all (o :: rest) :: K) s := by
  refine ⟨G_ops_val hg (by rw [ho]; simp [kindOp]) (fun E a w hs => ?_)⟩
  have e1 := den_int (show Den E w (s.avoid E) s.next (.v (slV b o1 n1 c1)) (a.eval x) by have := hs.ev x; rwa [hx] at this)
  have e2 : a.eval y = E.ov k := by
    have := hs.ev y
    rw [hy] at this
    generalize a.eval y = v at this
    cases this with
    | own _ => rfl
  obtain ⟨b2, o2, c2, vals, g0, g1, g2, g3, g4, g5⟩ := getOwnV hs hk hf hn
  obtain ⟨ty, vs, k1, k2, k3⟩ := putBox hs hl hb L1 D L2 (rowsAV n row) hc (by rw [hD, g5]) vals (by rw [g1, g5]) g2
  have hu := run_elem_ti (hT t i hi) he
  have hld := run_loadCells_list (P := P) w ⟨b2, o2, none⟩ vals g3
  have hst := run_storeCells_at P b L1.length ty vals 0 vs w k1 (by omega) g4
  simp only [Nat.add_zero] at hst
  refine ⟨goInt n, _, .inl ?_, fun hk => (by rw [ho] at hk; simp [kindOp] at hk), h.out E _ _ (k3.put o.dst (.any _))⟩
  obtain ⟨dst, op', ty', pos, after, guard⟩ := o
  simp only at ho
  subst ho
  have hmin : Nat.min n n1 = n := Nat.min_eq_left hle
  rw [g1, hes] at hld
  subst h1
  rw [g0] at e2
  simp [execOp, resolve, invoke, builtin, e1, e2, slV, Builtin.copy_, run_underlying hu, run_sizeOf_ti (hT e j hj), Builtin.lenOf, Builtin.firstCells, hmin, hld, hst]

/-- 'cap' of a named slice. -/
theorem capV (hT : TblOk P T) {B : Base} {Q : Exit → Act → World → Prop} {q : Bool} {all : Array Oper} {o : Oper} {rest : List Oper} {K : List KI} {s : AS} {t e : TypeId} {x : Operand} {i : TI}
    (hg : o.guard = none) (ho : o.op = .call { callee := .builtin .cap, args := #[x], argTypes := #[t] }) (hi : find T t = some i) (he : i.elem = some e)
    {b o1 n1 c1 : Nat} (hx : s.ev x = .c (.val (slV b o1 n1 c1))) (h : GW P B Q (.ops q all rest :: K) (s.put o.dst (.c (.val (.int .i64 (c1 : Int)))))) : GW P B Q (.ops q all (o :: rest) :: K) s := by
  refine ⟨G_ops_read hg (fun E a w hs => ?_)⟩
  have e1 := den_int (show Den E w (s.avoid E) s.next (.v (slV b o1 n1 c1)) (a.eval x) by have := hs.ev x; rwa [hx] at this)
  have hu := run_elem_ti (hT t i hi) he
  refine ⟨.int .i64 c1, fun w' _ => ?_, h.out E _ w (hs.put o.dst (.c (.val _ rfl)))⟩
  obtain ⟨dst, op', ty', pos, after, guard⟩ := o
  simp only at ho
  subst ho
  simp [execOp, resolve, invoke, builtin, e1, slV, Builtin.cap_, run_underlying hu, goInt]

/-- 'append' of zero values that does not fit: a new row. -/
theorem appZ (hT : TblOk P T) {B : Base} {Q : Exit → Act → World → Prop} {q : Bool} {all : Array Oper} {o : Oper} {rest : List Oper} {K : List KI} {s : AS} {t tn e : TypeId} {x y : Operand} {i j jn : TI} {kn kq : IntKind}
    (hg : o.guard = none) (ho : o.op = .call { callee := .builtin .append, args := #[x, y], argTypes := #[t, tn] }) (hi : find T t = some i) (he : i.elem = some e) (hj : find T e = some j) (hn : find T tn = some jn) (hag : jn.agg = false) (hfl : jn.flat = some [.int kn])
    {b o1 n1 c1 kb : Nat} {bx : Bx} (hx : s.ev x = .c (.val (slV b o1 n1 c1))) (hl : getLink s.links kb = some (ptrV b)) (hb : getBx s.boxes kb = some bx) {k : Nat} (hy : s.ev y = .c (.val (.int kq (k : Int))))
    {es : Nat} {row : Nat → List Cell} (M1 M2 : List AV) (hc : bx.cells = M1 ++ rowsAV n1 row ++ M2) (h1 : M1.length = o1) (hes : es = j.size) (hpos : 0 < es) (hrow : ∀ i, i < n1 → (row i).length = es) (hf : FlatRows n1 row)
    (hk : 0 < k) (hgrow : c1 < n1 + k) (hlen : n1 + k ≤ 549755813888) (hby : Nat.ble j.bytes 256 = true) (row' : Nat → List Cell) (r1 : ∀ i, i < n1 → row' i = row i) (r2 : ∀ i, n1 ≤ i → i < n1 + k → row' i = j.zero.map Cell.val)
    (h : GW P B Q (.ops q all rest :: K) (({ s with own := ⟨s.next, .sl (n1 + k) es row'⟩ :: s.own, next := s.next + 1 } : AS).put o.dst (.own s.next))) : GW P B Q (.ops q all (o :: rest) :: K) s := by
  subst hes
  have hby := Nat.le_of_ble_eq_true hby
  refine ⟨G_ops_val hg (by rw [ho]; simp [kindOp]) (fun E a w hs => ?_)⟩
  have e1 := den_int (show Den E w (s.avoid E) s.next (.v (slV b o1 n1 c1)) (a.eval x) by have := hs.ev x; rwa [hx] at this)
  have e2 := den_int (show Den E w (s.avoid E) s.next (.v (.int kq (k : Int))) (a.eval y) by have := hs.ev y; rwa [hy] at this)
  have hll := rowsAV_len hrow
  obtain ⟨vals, g1, g2, g3, g4⟩ := getBox hs hl hb M1 (rowsAV n1 row) M2 hc (fun y hy => by
    obtain ⟨m, hm, rfl⟩ := List.getElem_of_mem hy
    obtain ⟨_, _, c, _, _, _, _, hc'⟩ := rowsAV_none hrow (List.getElem?_eq_getElem hm)
    exact ⟨c, hc'⟩)
  have hu := run_elem_ti (hT t i hi) he
  obtain ⟨f, d, z, S⟩ := TI.of_spec (hT e j hj)
  have hzs : z.cells.size = j.size := by have := S.zlen; rw [← S.cells] at this; simpa using this
  have hun := flat_int hT hn hag hfl
  have hcd : ∀ ad, w.drew.cell? ad = w.cell? ad := fun ad => rfl
  have hld := run_loadCells_list (P := P) w.drew ⟨b, M1.length, none⟩ vals (fun m v hm => by rw [hcd]; exact g3 m v hm)
  rw [g1, hll, h1] at hld
  have hbytes : (n1 + k) * j.bytes ≤ 140737488355328 := Nat.le_trans (Nat.mul_le_mul hlen hby) (by decide)
  have hmax : n1 + k ≤ maxLen := by simp only [maxLen]; omega
  have hrun := Go.Lib.run_append_grow_zeros (P := P) w t tn o.type e f z kq kn hu hun S.hf S.hz (some ⟨b, o1, none⟩) n1 c1 vals (by rw [S.size]; simpa [Builtin.firstCells] using hld) k hk (by rw [S.size]; exact hpos) hgrow (by omega)
    (by rw [S.bytes]; exact Nat.le_trans (Nat.mul_le_mul (show k ≤ n1 + k by omega) (Nat.le_refl _)) (Nat.le_trans hbytes (by decide))) (by rw [S.bytes]; exact growslice_fits hgrow hbytes)
  have hge := grownCap_ge w (n1 + k) c1 e
  have hcm := grownCap_le_maxLen w (n1 + k) c1 e hmax
  generalize grownCap w (n1 + k) c1 e = cap at *
  let cells := vals.toArray ++ Builtin.zeroCells z.cells k ++ Builtin.zeroCells z.cells (cap - (n1 + k))
  let w' := w.drew.alloc (.cells cells e)
  have hbel : Below w.heap.size w w' := by
    have hb0 := below_alloc w.drew (.cells cells e)
    exact ⟨hb0.os, hb0.tape, hb0.output, hb0.size, hb0.block⟩
  have hsz : cells.size = cap * j.size := by
    simp only [cells, Array.size_append, List.size_toArray, zeroCells_size, hzs, g1, hll, ← Nat.add_mul]
    congr 1
    omega
  have hnew : w'.heap[w.heap.size]? = some (.cells cells e (0, 0)) := heap_alloc_new w.drew _
  have hzl : (Builtin.zeroCells z.cells k).size = k * j.size := by rw [zeroCells_size, hzs]
  have hget : ∀ m, m < (n1 + k) * j.size → cells.getD m undef = if m < n1 * j.size then vals.getD m undef else j.zero.getD (m % j.size) undef := by
    intro m hm
    have hm2 : m < cells.size := by rw [hsz]; exact Nat.lt_of_lt_of_le hm (Nat.mul_le_mul_right _ hge)
    rw [← getD_toList]
    simp only [cells, Array.toList_append, List.getD]
    rw [List.append_assoc]
    split
    · rename_i hlt
      rw [List.getElem?_append_left (by rw [g1, hll]; exact hlt)]
    · rename_i hlt
      rw [List.getElem?_append_right (by rw [g1, hll]; omega), g1, hll]
      have hin : m - n1 * j.size < k * j.size := by rw [Nat.add_mul] at hm; omega
      rw [List.getElem?_append_left (by rw [Array.length_toList, hzl]; exact hin)]
      have hmod : (m - n1 * j.size) % j.size = m % j.size := by
        have := Nat.sub_mul_mod (x := m) (n := j.size) (k := n1) (by rw [Nat.mul_comm]; omega)
        rwa [Nat.mul_comm j.size n1] at this
      have hlt2 : m % j.size < z.cells.size := by rw [hzs]; exact Nat.mod_lt _ hpos
      simp only [Builtin.zeroCells, hzs, Array.toList_map, Array.toList_range, List.getElem?_map, List.getElem?_range hin, Option.map_some, Option.getD_some, hmod]
      rw [getElem!_pos z.cells _ hlt2, ← S.cells]
      simp [List.getD, hlt2]
  have hown : OwnRep w' (.sl (n1 + k) j.size row') (.slice (some ⟨w.heap.size, 0 * j.size, none⟩) (n1 + k) cap) (w.heap.size :: (List.range ((n1 + k) * j.size)).flatMap fun _ => []) := by
    refine .sl (n1 + k) j.size row' w.heap.size 0 cap e cells (fun _ => []) hge hcm hnew (by rw [hsz]; simp) (fun m hm => ?_) (fun m p c hm hp => ?_)
    · by_cases h0 : m < n1
      · rw [r1 m h0]; exact hrow m h0
      · rw [r2 m (by omega) hm, List.length_map, S.zlen]
    · simp only [Nat.zero_add]
      by_cases h0 : m < n1
      · rw [r1 m h0] at hp
        have hpl : p < j.size := by rw [← hrow m h0]; exact (List.getElem?_eq_some_iff.1 hp).1
        have hlt := idx_lt h0 hpl
        rw [hget _ (by rw [Nat.add_mul]; omega), if_pos hlt]
        obtain ⟨u, rfl⟩ := hf m h0 c (List.mem_of_getElem? hp)
        have := g2 (m * j.size + p) (.c (.val u)) (by rw [rowsAV_get hrow h0 hpl, hp]; rfl)
        generalize vals.getD (m * j.size + p) undef = q at this
        cases this with
        | c hr => cases hr with
          | val _ h1 => exact .val _ h1
      · rw [r2 m (by omega) hm] at hp
        have hpl : p < j.size := by have := (List.getElem?_eq_some_iff.1 hp).1; rwa [List.length_map, S.zlen] at this
        have hlt := idx_lt hm hpl
        have hnlt : ¬ m * j.size + p < n1 * j.size := by
          have : n1 * j.size ≤ m * j.size := Nat.mul_le_mul_right _ (by omega)
          omega
        rw [hget _ hlt, if_neg hnlt]
        have hmod : (m * j.size + p) % j.size = p := by rw [Nat.mul_comm, Nat.mul_add_mod]; exact Nat.mod_eq_of_lt hpl
        rw [hmod]
        rw [List.getElem?_map, Option.map_eq_some_iff] at hp
        obtain ⟨u, hu', rfl⟩ := hp
        have : j.zero.getD p undef = u := by simp [List.getD, hu']
        rw [this]
        exact .val _ (oneCells_spec S.zone u (List.mem_of_getElem? hu'))
  rw [flatMap_none] at hown
  have hA := hs.call hbel
  obtain ⟨k1, k2⟩ := hA.addOwn hown (by simp) (fun m hm => by
    rw [List.mem_singleton.1 hm]
    refine ⟨.inr (Nat.le_refl _), fun hav => ?_, .inl hs.base.size⟩
    have := hs.avoid_lt hav
    omega)
  simp only [Nat.zero_mul] at k1 k2
  refine ⟨_, w', .inl ?_, fun hk => (by rw [ho] at hk; simp [kindOp] at hk), h.out _ _ _ ((k1.put o.dst k2).is)⟩
  obtain ⟨dst, op', ty', pos, after, guard⟩ := o
  simp only at ho
  subst ho
  simp only at hrun
  simp [execOp, resolve, invoke, builtin, e1, e2, slV, hrun, w', cells]

theorem shape_of {w : World} {b : Nat} {cells : Array Value} {ty : TypeId} (h : w.heap[b]? = some (.cells cells ty (0, 0))) : w.shape? b = some (ty, cells.size) := by
  simp [World.shape?, h]
theorem frozen_of {w : World} {b : Nat} {cells : Array Value} {ty : TypeId} (h : w.heap[b]? = some (.cells cells ty (0, 0))) (o : Nat) : w.frozen? ⟨b, o, none⟩ = false := by
  simp [World.frozen?, h]

/-- slices.overlaps, of a slice of one's own and a part of a block. -/
theorem overlapsW (hT : TblOk P T) {B : Base} {Q : Exit → Act → World → Prop} {q : Bool} {all : Array Oper} {o : Oper} {rest : List Oper} {K : List KI} {s : AS} {f : FuncId} {fn : Func} {tS tR e : TypeId} {ats : Array TypeId} {x y : Operand} {i j : TI}
    (hfn : P.funcs[f]? = some fn) (hname : (fn.name == "runtime.NumGoroutine") = false) (hbody : fn.body.isNone = true) (hnx : Extern.findNext fn = none) (hex : Extern.find fn = some (Extern.SlicesOverlaps.overlaps #[tS, tS] #[tR]))
    (hg : o.guard = none) (ho : o.op = .call { callee := .value (.func f), args := #[x, y], argTypes := ats }) (hi : find T tS = some i) (he : i.elem = some e) (hj : find T e = some j)
    {k n es : Nat} {row : Nat → List Cell} (hx : s.ev x = .own k) (hk : getOwn s.own k = some (.sl n es row)) (hn : 0 < n)
    {b o1 n1 c1 kb : Nat} {bx : Bx} (hy : s.ev y = .c (.val (slV b o1 n1 c1))) (hl : getLink s.links kb = some (ptrV b)) (hb : getBx s.boxes kb = some bx) (hlen : 0 < bx.cells.length)
    (h : GW P B Q (.ops q all rest :: K) (s.put o.dst (.c (.val (.bool false))))) : GW P B Q (.ops q all (o :: rest) :: K) s := by
  refine ⟨G_ops_val hg (by rw [ho]; simp [kindOp]) (fun E a w hs => ?_)⟩
  have e2 := den_int (show Den E w (s.avoid E) s.next (.v (slV b o1 n1 c1)) (a.eval y) by have := hs.ev y; rwa [hy] at this)
  have e1 : a.eval x = E.ov k := by
    have := hs.ev x
    rw [hx] at this
    generalize a.eval x = v at this
    cases this with
    | own _ => rfl
  obtain ⟨hm, rfl⟩ := getBx_mem hb
  obtain ⟨h1, vs, ty, h2, h3, h4⟩ := hs.boxes bx hm
  obtain ⟨hlk, hov⟩ := hs.links _ (getLink_mem hl)
  have hov : E.ov bx.key = ptrV b := hov
  have hβ : E.β bx.key = b := by unfold Env.β; rw [hov]; rfl
  obtain ⟨_, o2, _⟩ := hs.own _ (getOwn_mem hk)
  have hsep := hs.sepB bx hm _ (getOwn_mem hk)
  rw [hβ] at h2 hsep
  simp only at o2 hsep
  generalize E.ov k = u, E.fp k = fp at o2 e1 hsep
  cases o2 with
  | nil => omega
  | emp => omega
  | sl _ _ _ b' off cap ty' cells fps hnc hcp hbk hcs hl' hr =>
    have hne : b' ≠ b := fun e => hsep (by rw [e]; simp)
    have hz := fun w => run_sizeOf_ti (P := P) (hT e j hj) w
    have hu := run_elem_ti (hT tS i hi) he
    have hov := Go.Lib.run_overlaps_apart (P := P) w tS tR e hu j.size hz ⟨b', off * es, none⟩ ⟨b, o1, none⟩ n cap n1 c1 hne ty' ty cells.size vs.size (shape_of hbk) (shape_of h2) (by omega) (frozen_of hbk _) (frozen_of hbk _)
    refine ⟨.bool false, w, .inl ?_, fun _ => Kept0.refl w, h.out E _ _ (hs.put o.dst (.c (.val _ rfl)))⟩
    obtain ⟨dst, op', ty2, pos, after, guard⟩ := o
    simp only at ho
    subst ho
    have hcall := run_callFunc_extern hfn hname hbody hnx hex #[.slice (some ⟨b', off * es, none⟩) n cap, slV b o1 n1 c1] w
    simp only [slV] at hcall e2
    rw [hov] at hcall
    have ef : a.eval (.func f) = .func (.func f) #[] #[] := rfl
    simp [execOp, resolve, Deferred.ofValue, invoke, ef, e1, e2, hcall, Result.andThen]

/-! Typed lists. -/

def tAV {α : Type} (e : α → List Cell) (l : List α) : List AV := l.flatMap fun x => (e x).map AV.c
theorem tAV_app {α : Type} (e : α → List Cell) (l m : List α) : tAV e (l ++ m) = tAV e l ++ tAV e m := by simp [tAV]
theorem tAV_len {α : Type} {e : α → List Cell} {es : Nat} (he : ∀ x, (e x).length = es) (l : List α) : (tAV e l).length = l.length * es := by
  induction l with
  | nil => simp [tAV]
  | cons x r ih =>
    have : tAV e (x :: r) = (e x).map AV.c ++ tAV e r := rfl
    rw [this, List.length_append, ih, List.length_map, he, List.length_cons, Nat.succ_mul]
    omega
theorem tAV_c {α : Type} (e : α → List Cell) (l : List α) : ∀ y ∈ tAV e l, ∃ c, y = .c c := by
  intro y hy
  obtain ⟨x, _, hx⟩ := List.mem_flatMap.1 hy
  obtain ⟨c, _, rfl⟩ := List.mem_map.1 hx
  exact ⟨c, rfl⟩
theorem tAV_rows {α : Type} [Inhabited α] (e : α → List Cell) (l : List α) : rowsAV l.length (fun i => e (l.getD i default)) = tAV e l := by
  unfold rowsAV
  have h : ∀ (m : List α), (List.range m.length).flatMap (fun i => (e (m.getD i default)).map AV.c) = tAV e m := by
    intro m
    induction m with
    | nil => rfl
    | cons x r ih =>
      rw [List.length_cons, List.range_succ_eq_map, List.flatMap_cons, List.flatMap_map]
      have : tAV e (x :: r) = (e x).map AV.c ++ tAV e r := rfl
      rw [this, ← ih]
      rfl
  exact h l

theorem unpackT {α : Type} [Inhabited α] {B : Base} {Q : Exit → Act → World → Prop} {K : List KI} {s : AS} (k : Nat) (es : Nat) (e : α → List Cell) (l : List α) (hk : getOwn s.own k = some (slC es e l)) (hn : 0 < l.length) (hf : FlatRows l.length fun i => e (l.getD i default))
    (h : ∀ (b off cap : Nat) (pre post : List AV), pre.length = off * es → l.length ≤ cap → cap ≤ maxLen → (cap - l.length) * es ≤ post.length →
      GW P B Q K { s with own := remOs [k] s.own, next := s.next + 1, boxes := ⟨s.next, pre ++ tAV e l ++ post⟩ :: s.boxes, links := (s.next, ptrV b) :: (k, slV b (off * es) l.length cap) :: s.links }) : GW P B Q K s :=
  unpackW k hk hn hf (fun b off cap pre post h1 h2 h3 h4 => by
    have := h b off cap pre post h1 h2 h3 h4
    rw [← tAV_rows] at this
    exact this)

theorem packT {α : Type} [Inhabited α] {B : Base} {Q : Exit → Act → World → Prop} {K : List KI} {s : AS} (i kb : Nat) {bx : Bx} {b o n cap : Nat} (off es : Nat) (e : α → List Cell) (l : List α) (pre post : List AV) (hb : getBx s.boxes kb = some bx) (hc : bx.cells = pre ++ tAV e l ++ post) (hpre : pre.length = off * es)
    (he : ∀ x, (e x).length = es) (hf : FlatRows l.length fun i => e (l.getD i default)) (hcap : cap ≤ maxLen) (hpost : l.length ≤ cap ∧ (cap - l.length) * es ≤ post.length) (hl : getLink s.links kb = some (ptrV b)) (hi : nth s.slots i = .c (.val (slV b o n cap))) (ho : o = off * es) (hn : n = l.length)
    (h : GW P B Q K { s with boxes := remB kb s.boxes, own := ⟨s.next, slC es e l⟩ :: s.own, next := s.next + 1, slots := setNth s.slots i (.own s.next) }) : GW P B Q K s := by
  subst ho hn
  exact packW i kb (fun i => e (l.getD i default)) pre post hb (by rw [hc, tAV_rows]) hpre (fun _ _ => he _) hf hpost.1 hcap hpost.2 hl hi h

end Go.Sx

set_option maxRecDepth 100000
namespace Go.Sx
open Go

variable {P : Program} {ops : Array Oper}

end Go.Sx

set_option maxRecDepth 100000
namespace Go.Sx
open Go

variable {P : Program} {T : List (TypeId × TI)}

/-! A run whose boxes may hold lists that are not written out. -/

def forceBS {α : Type} (l : List Bx) (k : List Bx → α) : α :=
  match l with
  | [] => k []
  | x :: r => match x with | ⟨key, cells⟩ => forceN key fun key => forceBS r fun r' => k (⟨key, cells⟩ :: r')
theorem forceBS_eq {α : Type} (l : List Bx) (k : List Bx → α) : forceBS l k = k l := by
  induction l generalizing k with
  | nil => rfl
  | cons x r ih => cases x; simp [forceBS, forceN_eq, ih]

def forceS {α : Type} (s : AS) (k : AS → α) : α :=
  match s with
  | ⟨next, slots, boxes, own, links⟩ => forceN next fun next => forceL slots fun slots => forceBS boxes fun boxes => forceO own fun own => forceK links fun links => k ⟨next, slots, boxes, own, links⟩
theorem forceS_eq {α : Type} (s : AS) (k : AS → α) : forceS s k = k s := by cases s; simp [forceS, forceN_eq, forceL_eq, forceBS_eq, forceO_eq, forceK_eq]

def runS (T : List (TypeId × TI)) (wr : Bool) : Nat → List KI → AS → Out
  | 0, K, s => forceS s (.at_ K)
  | n + 1, K, s =>
    match K with
    | [] => forceS s (.at_ [])
    | .block _ :: K => runS T wr n K s
    | .loop I :: K => forceS s (.at_ (.loop I :: K))
    | .code c :: K =>
      match c with
      | .skip => runS T wr n K s
      | .seq a b => runS T wr n (.code a :: .code b :: K) s
      | .block id c => runS T wr n (.code c :: .block id :: K) s
      | .cond o t e =>
        match s.ev o with
        | .c (.val (.bool b)) => .ite b (runS T wr n (.code t :: K) s) (runS T wr n (.code e :: K) s)
        | _ => forceS s (.at_ (.code (.cond o t e) :: K))
      | .exit id => match popTo id K with
        | some K' => runS T wr n K' s
        | none => forceS s (.at_ (.code (.exit id) :: K))
      | .ret => forceS s .ret
      | .region _id ops false => runS T wr n (.ops false ops ops.toList :: K) s
      | c => forceS s (.at_ (.code c :: K))
    | .ops q all l :: K =>
      match l with
      | [] => runS T wr n K s
      | o :: rest =>
        match o.guard with
        | none =>
          match o.op with
          | .pick c x y =>
            match s.ev c with
            | .c (.val (.bool b)) => .ite b (cont s o.dst (s.ev x) (runS T wr n (.ops q all rest :: K))) (cont s o.dst (s.ev y) (runS T wr n (.ops q all rest :: K)))
            | _ => forceS s (.at_ (.ops q all (o :: rest) :: K))
          | .call { callee := .value (.func f), args, .. } => forceL (args.toList.map s.ev) fun xs => forceS s fun s => .call q f xs o.dst (.ops q all rest :: K) s
          | .call { callee := .value (.tmp t), args, .. } =>
            match nth s.slots t with
            | .fn f caps => forceL (args.toList.map s.ev ++ caps) fun xs => forceS s fun s => .call q f xs o.dst (.ops q all rest :: K) s
            | _ => forceS s (.at_ (.ops q all (o :: rest) :: K))
          | op =>
            match step T wr s op with
            | .stop => forceS s (.at_ (.ops q all (o :: rest) :: K))
            | .ok ps x => needs ps (cont s o.dst x (runS T wr n (.ops q all rest :: K)))
            | .new cells => newBx s cells fun s' => cont s' o.dst (.box s.next 0) (runS T wr n (.ops q all rest :: K))
            | .own ps c => needs ps (ownK s c fun s' => cont s' o.dst (.own s.next) (runS T wr n (.ops q all rest :: K)))
            | .mem bx => memBx s bx fun s => cont s o.dst .any (runS T wr n (.ops q all rest :: K))
        | some (j, true) =>
          match guardSlot all j with
          | some d => match nth s.slots d with
            | .c (.val (.bool b)) => .ite b
                (cont s (some d) (.v (.bool true)) (runS T wr n (.ops q all ({ o with guard := none } :: rest) :: K)))
                (cont s (some d) (.v (.bool false)) fun s => cont s o.dst (skipAV all o.dst) (runS T wr n (.ops q all rest :: K)))
            | .tup [] => cont s o.dst (skipAV all o.dst) (runS T wr n (.ops q all rest :: K))
            | _ => forceS s (.at_ (.ops q all (o :: rest) :: K))
          | none => forceS s (.at_ (.ops q all (o :: rest) :: K))
        | some (j, false) =>
          match guardSlot all j with
          | some d => match nth s.slots d with
            | .c (.val (.bool b)) => .ite b
                (cont s (some d) (.v (.bool true)) fun s => cont s o.dst (skipAV all o.dst) (runS T wr n (.ops q all rest :: K)))
                (cont s (some d) (.v (.bool false)) (runS T wr n (.ops q all ({ o with guard := none } :: rest) :: K)))
            | .tup [] => cont s o.dst (skipAV all o.dst) (runS T wr n (.ops q all rest :: K))
            | _ => forceS s (.at_ (.ops q all (o :: rest) :: K))
          | none => forceS s (.at_ (.ops q all (o :: rest) :: K))


theorem runS_eq (T : List (TypeId × TI)) (wr : Bool) : ∀ n, runS T wr n = run T wr n
  | 0 => by funext K s; simp only [runS, run, force_eq, forceS_eq]
  | n + 1 => by
    funext K s
    simp only [runS, run, runS_eq T wr n, force_eq, forceS_eq]
    rfl

def run0S (T : List (TypeId × TI)) (wr : Bool) (n : Nat) (K : List KI) (s : AS) : Out := forceS s (runS T wr n K)
theorem run0S_eq (T : List (TypeId × TI)) (wr : Bool) (n : Nat) (K : List KI) (s : AS) : run0S T wr n K s = run0 T wr n K s := by
  unfold run0S run0
  rw [forceS_eq, force_eq, runS_eq]

theorem goS (hT : TblOk P T) (wr : Bool) {B : Base} {Q : Exit → Act → World → Prop} {K : List KI} {s : AS} (h : vcW P B Q (run0S T wr 100000 K s)) : GW P B Q K s :=
  go hT wr (by rw [← run0S_eq]; exact h)

theorem goFS (n : Nat) (hT : TblOk P T) (wr : Bool) {B : Base} {Q : Exit → Act → World → Prop} {K : List KI} {s : AS} (h : vcW P B Q (run0S T wr n K s)) : GW P B Q K s :=
  goF n hT wr (by rw [← run0S_eq]; exact h)

/-- As packT, ahead of a return. -/
theorem packR (P : Program) {α : Type} [Inhabited α] {B : Base} {Q : Exit → Act → World → Prop} {s : AS} (i kb : Nat) {bx : Bx} {b o n cap : Nat} (off es : Nat) (e : α → List Cell) (l : List α) (pre post : List AV) (hb : getBx s.boxes kb = some bx) (hc : bx.cells = pre ++ tAV e l ++ post) (hpre : pre.length = off * es)
    (he : ∀ x, (e x).length = es) (hf : Go.Sx.FlatRows l.length fun i => e (l.getD i default)) (hcap : cap ≤ maxLen) (hpost : l.length ≤ cap ∧ (cap - l.length) * es ≤ post.length) (hl : getLink s.links kb = some (ptrV b)) (hi : nth s.slots i = .c (.val (slV b o n cap))) (ho : o = off * es) (hn : n = l.length)
    (h : RW B Q { s with boxes := remB kb s.boxes, own := ⟨s.next, slC es e l⟩ :: s.own, next := s.next + 1, slots := setNth s.slots i (.own s.next) }) : RW B Q s :=
  rwOf P (s' := { s with boxes := remB kb s.boxes, own := ⟨s.next, slC es e l⟩ :: s.own, next := s.next + 1, slots := setNth s.slots i (.own s.next) }) (fun _ g => packT i kb off es e l pre post hb hc hpre he hf hcap hpost hl hi ho hn g) h

end Go.Sx

/- A region that draws its order, op by op: what looks at no world comes first, a read that is free next, else each operation that may come. -/
set_option maxRecDepth 100000
namespace Go.Sx
open Go
open Go.RowKit (Below)
variable {P : Program} {T : List (TypeId × TI)} {ops : Array Oper}

theorem opM_one {i : Nat} {o : Oper} {Q : Act → World → Prop} {a : Act} {w : World} (ho : ops[i]? = some o) (h : wpMix P ops Q [o] a w) : opM P ops i Q a w := by
  unfold opM
  simp only [ho]
  unfold wpMix at h
  split
  · rename_i hw
    rw [if_pos hw] at h
    rcases h with ⟨v, h1, h2⟩ | ⟨_, hd⟩
    · unfold doneM
      rw [h1 w (Kept0.refl w)]
      exact ⟨fun _ => Kept0.refl w, h2⟩
    · exact hd
  · rename_i hw
    rw [if_neg hw] at h
    exact h

/-- Each operation that may come next. -/
def allBW (P : Program) (B : Base) (N : Act → World → Prop) (ops : Array Oper) (fuel : Nat) (listed : Array Bool) (s : AS) : List Nat → Prop
  | [] => True
  | i :: r => (match ops[i]? with
    | some o => GW P B QF [.ops true ops [o], .loop (fun a w => anyM P ops N fuel (listed.setIfInBounds i true) a w)] s
    | none => False) ∧ allBW P B N ops fuel listed s r

theorem allBW_mem {B : Base} {N : Act → World → Prop} {fuel : Nat} {listed : Array Bool} {s : AS} {l : List Nat} (h : allBW P B N ops fuel listed s l) {i : Nat} (hi : i ∈ l) :
    ∃ o, ops[i]? = some o ∧ GW P B QF [.ops true ops [o], .loop (fun a w => anyM P ops N fuel (listed.setIfInBounds i true) a w)] s := by
  induction l with
  | nil => simp at hi
  | cons j r ih =>
    obtain ⟨h1, h2⟩ := h
    rcases List.mem_cons.1 hi with rfl | hi
    · split at h1
      · rename_i o ho; exact ⟨o, ho, h1⟩
      · exact h1.elim
    · exact ih h2 hi

theorem splitB {B : Base} {N : Act → World → Prop} {fuel : Nat} {listed : Array Bool} {s : AS} (l : List Nat) (hr : (eqL (Region.ready .any ops listed) l && !l.isEmpty) = true) (h : allBW P B N ops fuel listed s l) : BW P B N ops (fuel + 1) listed s := by
  simp only [Bool.and_eq_true, Bool.not_eq_true'] at hr
  have hr1 := eqL_eq hr.1
  refine ⟨fun E a w hs => ⟨fun h0 => ?_, fun i hi => ?_⟩⟩
  · rw [hr1] at h0
    rw [h0] at hr
    simp at hr
  · rw [hr1] at hi
    obtain ⟨o, ho, hg⟩ := allBW_mem h hi
    exact opM_one ho (hg.out E a w hs)

theorem loopB {B : Base} {N : Act → World → Prop} {fuel : Nat} {listed : Array Bool} {s : AS} (h : BW P B N ops fuel listed s) : GW P B QF [.loop (fun a w => anyM P ops N fuel listed a w)] s :=
  ⟨fun E a w hs => h.out E a w hs⟩

theorem doneB {B : Base} {Q : Exit → Act → World → Prop} {K : List KI} {s : AS} {listed : Array Bool} (hr : (Region.ready .any ops listed).isEmpty = true) (h : GW P B Q K s) : BW P B (fun a w => post P Q K .normal a w) ops 0 listed s :=
  ⟨fun E a w hs => ⟨by simpa using hr, h.out E a w hs⟩⟩

/-- Operations that look at no world, whatever the state says of them. -/
def offOp : Op → Bool
  | .move _ => true
  | .assign _ => true
  | .extract _ _ => true
  | _ => false

theorem off_run {o : Oper} (h : offOp o.op = true) (ρ : Operand → Value) {w w' : World} {v : Value} (hr : (execOp ρ o).run P w = .ok (.value v) w) : (execOp ρ o).run P w' = .ok (.value v) w' := by
  by_cases hb : blind o.op = true
  · exact blind_run hb ρ hr
  obtain ⟨dst, op, ty, pos, after, guard⟩ := o
  cases op <;> simp [offOp] at h <;> simp [blind] at hb
  rename_i x i
  simp only [execOp, Instr.extract] at hr ⊢
  generalize ρ x = u at hr ⊢
  cases u <;> simp_all
  split at hr <;> simp_all

/-- An operation that looks at no world is taken first. -/
theorem offF {B : Base} {N : Act → World → Prop} {fuel : Nat} {listed : Array Bool} {s s' : AS} (i : Nat) {o : Oper} (hi : ops[i]? = some o)
    (hb : (offOp o.op && Region.noSelect ops && (Region.ready .any ops listed).contains i && freeP ops listed i o) = true)
    (ht : GW P B QF [.ops true ops [o], .loop (fun a w => ∃ E, s'.is B E a w)] s) (h : BW P B N ops fuel (listed.setIfInBounds i true) s') : BW P B N ops (fuel + 1) listed s := by
  simp only [Bool.and_eq_true, List.contains_iff_mem] at hb
  obtain ⟨⟨⟨h0, h1⟩, h2⟩, h3⟩ := hb
  refine ⟨fun E a w hs => ?_⟩
  have hg : wpMix P ops (fun a w => ∃ E, s'.is B E a w) [o] a w := ht.out E a w hs
  unfold wpMix at hg
  by_cases hw : Region.wanted o (yielded ops a.tmps) = true
  · rw [if_pos hw] at hg
    rcases hg with ⟨v, hv, hn⟩ | ⟨hk, _⟩
    · obtain ⟨E', hs'⟩ := hn
      exact anyM_firstA hi (Region.noSelect_spec h1) fuel listed a w h3 h2 (.inl ⟨hw, fun w' => off_run h0 a.eval (hv w (Kept0.refl w))⟩) (h.out E' _ w hs')
    · exfalso
      apply hk
      cases ho : o.op <;> rw [ho] at h0 <;> first | rfl | simp [offOp] at h0
  · rw [if_neg hw] at hg
    obtain ⟨E', hs'⟩ := hg
    exact anyM_firstA hi (Region.noSelect_spec h1) fuel listed a w h3 h2 (.inr ⟨by simpa using hw, rfl⟩) (h.out E' _ w hs')
end Go.Sx
