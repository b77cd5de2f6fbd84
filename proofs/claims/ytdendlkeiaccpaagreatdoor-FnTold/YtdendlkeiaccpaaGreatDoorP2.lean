/- Part 2 of the proof that each of the laws FnTold returns true for every input. No conditions. -/
import Derived.Test.YtdendlkeiaccpaaGreatDoorP1
import GoSem.ClaimChange
import Derived.DataReads

set_option linter.unusedSimpArgs false
set_option linter.unusedVariables false
namespace Go.Sx
open Go.RowKit (Below)
variable {P : Program} {T : List (TypeId × TI)}
inductive Cap where
 |one (c:Ac)
 |ptr (cs:List Ac)
inductive Fz where
 |one (c:Ac)
 |agg (cs:List Ac)
 |ptr (cs:List Ac)
 |fn (f:FuncId) (caps:List Cap)
def Ll (w:World) (A:Nat→Prop) (cs:List Ac) (v:Value):Prop:=
 ∃b o cap,v= .pointer (some ⟨b,o,none⟩)∧L5 w A (.sl 1 cs.length fun _=>cs) (.slice (some ⟨b,o,none⟩) 1 cap)
def A8u (w:World) (A:Nat→Prop):Cap→Value→Prop
 | .one c,v=>L5 w A c v
 | .ptr cs,v=>Ll w A cs v
def Lk (w:World) (A:Nat→Prop):Fz→Value→Prop
 | .one c,v=>L5 w A c v
 | .agg cs,v=>∃vs:List Value,v= .agg vs.toArray∧vs.length=cs.length∧∀i c,cs[i]? =some c→L5 w A c (vs.getD i undef)
 | .ptr cs,v=>Ll w A cs v
 | .fn f caps,v=>∃vs:List Value,v= .func (.func f) #[] vs.toArray∧vs.length=caps.length∧∀i c,caps[i]? =some c→A8u w A c (vs.getD i undef)
def Jt (w:World) (x:Fz) (v:Value) (fp:List Nat):Prop:=
 match x with
 | .one c=>C5 w c v fp
 | .agg cs=>∃(vs:List Value) (fps:Nat→List Nat),v= .agg vs.toArray∧vs.length=cs.length∧(∀i c,cs[i]? =some c→C5 w c (vs.getD i undef) (fps i))∧fp=(List.range cs.length).flatMap fps
 | .ptr _=>False
 | .fn _ _=>False
def Ii (rs:List Value):Value:=
 match rs with
 | [v]=>v
 |rs=> .tuple rs.toArray
structure Kg (w w':World) (outs:List Fz) (e:Ending):Prop where
 below:Below w.heap.size w w'
 res:∃(rs:List Value) (fps:Nat→List Nat),e= .returned (Ii rs)∧rs.length=outs.length∧(∀i y,outs[i]? =some y→Jt w' y (rs.getD i undef) (fps i))∧
  (∀i,i<outs.length→(fps i).Nodup∧∀b∈fps i,w.heap.size≤b)∧∀i j,i<outs.length→j<outs.length→i≠j→∀b∈fps i,b∉fps j
def Bo (P:Program) (f:FuncId) (ins outs:List Fz):Prop:=
 J2 P f∧∀(w:World) (vs:List Value),vs.length=ins.length→(∀i x,ins[i]? =some x→Lk w (fun _=>False) x (vs.getD i undef))→
  Calls P f vs.toArray w fun e w'=>Kg w w' outs e
def Tr (own:List Ow) (x:AV):Option Ac:=
 match x with
 | .c c=>some c
 | .own k=>Bs own k
 |_=>none
def X4 (own:List Ow) (l:List AV):Option (List Ac):=
 match l with
 | []=>some []
 |x::r=>match Tr own x with
  |some c=>match X4 own r with
   |some cs=>some (c::cs)
   |none=>none
  |none=>none
def A5x (s:AS) (x:AV):Option (List Ac):=
 match x with
 | .box k off=>match Nat.beq off 0,Ew s.boxes k with
  |true,some b=>X4 s.own b.cells
  |_,_=>none
 | .el _ _ row i off=>match Nat.beq off 0 with
  |true=>some (row i.toNat)
  |false=>none
 |_=>none
def A45 (s:AS) (x:AV):Option Cap:=
 match Tr s.own x with
 |some c=>some (.one c)
 |none=>match A5x s x with
  |some cs=>some (.ptr cs)
  |none=>none
def Ym (s:AS) (l:List AV):Option (List Cap):=
 match l with
 | []=>some []
 |x::r=>match A45 s x with
  |some c=>match Ym s r with
   |some cs=>some (c::cs)
   |none=>none
  |none=>none
def A41 (s:AS) (x:AV):Option Fz:=
 match x with
 | .agg xs=>match X4 s.own xs with
  |some cs=>some (.agg cs)
  |none=>none
 | .fn f xs=>match Ym s xs with
  |some cs=>some (.fn f cs)
  |none=>none
 |x=>match Tr s.own x with
  |some c=>some (.one c)
  |none=>match A5x s x with
   |some cs=>some (.ptr cs)
   |none=>none
def Jc (s:AS) (l:List AV):Option (List Fz):=
 match l with
 | []=>some []
 |x::r=>match A41 s x with
  |some c=>match Jc s r with
   |some cs=>some (c::cs)
   |none=>none
  |none=>none
theorem L5.wide {w:World}{A:Nat→Prop}{c:Ac}{v:Value}(h:L5 w A c v):L5 w (fun _=>False) c v:=
 h.move (fun _ _ _=>rfl) (fun _ _ h=>h.elim)
theorem N2 {B:Ax}{E:Cv}{s:AS}{a:Act}{w:World}(h:s.is B E a w){x:AV}{c:Ac}(hx:Tr s.own x=some c){v:Value}(hd:Cm E w (s.avoid E) s.next x v):L5 w (fun _=>False) c v:=by
 unfold Tr at hx
 split at hx
 ·obtain rfl:=Option.some.inj hx
  cases hd with
  |c hr=>exact hr.wide
 ·cases hd with
  |own hk=>exact (h.own _ (C2 hx)).2.1.rep (fun _ _ h=>h)
 simp at hx
theorem Re {own:List Ow}{l:List AV}{cs:List Ac}(h:X4 own l=some cs):cs.length=l.length∧∀(i:Nat) (c:Ac),cs[i]? =some c→∃x:AV,l[i]? =some x∧Tr own x=some c:=by
 induction l generalizing cs with
 |nil=>obtain rfl:=Option.some.inj h;simp
 |cons x r ih=>
  unfold X4 at h
  split at h
  ·rename_i c hc
   split at h
   ·rename_i cs' hcs
    obtain rfl:=Option.some.inj h
    obtain ⟨h1,h2⟩:=ih hcs
    refine ⟨by simp [h1],fun i d hd=>?_⟩
    cases i with
    |zero=>simp only [List.getElem?_cons_zero,Option.some.injEq] at hd;subst hd;exact ⟨x,by simp,hc⟩
    |succ i=>simpa using h2 i d (by simpa using hd)
   simp at h
  simp at h
theorem Jw {s:AS}{l:List AV}{cs:List Fz}(h:Jc s l=some cs):cs.length=l.length∧∀(i:Nat) (c:Fz),cs[i]? =some c→∃x:AV,l[i]? =some x∧A41 s x=some c:=by
 induction l generalizing cs with
 |nil=>obtain rfl:=Option.some.inj h;simp
 |cons x r ih=>
  unfold Jc at h
  split at h
  ·rename_i c hc
   split at h
   ·rename_i cs' hcs
    obtain rfl:=Option.some.inj h
    obtain ⟨h1,h2⟩:=ih hcs
    refine ⟨by simp [h1],fun i d hd=>?_⟩
    cases i with
    |zero=>simp only [List.getElem?_cons_zero,Option.some.injEq] at hd;subst hd;exact ⟨x,by simp,hc⟩
    |succ i=>simpa using h2 i d (by simpa using hd)
   simp at h
  simp at h
theorem Xy {B:Ax}{E:Cv}{s:AS}{a:Act}{w:World}(h:s.is B E a w){x:AV}{cs:List Ac}(hx:A5x s x=some cs){v:Value}(hd:Cm E w (s.avoid E) s.next x v):Ll w (fun _=>False) cs v:=by
 unfold A5x at hx
 split at hx
 ·rename_i k off
  split at hx
  ·rename_i b hoff hb
   obtain rfl:=Nat.eq_of_beq_eq_true hoff
   obtain ⟨hm,rfl⟩:=E7 hb
   obtain ⟨_,vs,ty,h1,h2,h3⟩:=h.boxes b hm
   obtain ⟨g1,g2⟩:=Re hx
   cases hd with
   |box _ hk=>
    refine ⟨_,_,1,rfl,.sl 1 cs.length _ (E.β b.key) 0 1 (fun i j=>vs.getD (i * cs.length+j) undef) (fun _ h=>h) (Nat.le_refl _) (by simp only [maxLen];omega) (fun _ _=>rfl) (fun i j hi hj=>?_) (fun i j c hi hc=>?_)⟩
    ·obtain rfl:i=0:=by omega
     have hj':0+0 * cs.length+j<vs.size:=by omega
     rw [cell_of_row w _ _ vs ty (0,0) h1]
     simp [Array.getD,show j<vs.size by omega]
    obtain rfl:i=0:=by omega
    obtain ⟨y,hy,hyc⟩:=g2 j c hc
    have:=N2 h hyc (h3 j y hy)
    simpa using this
  simp at hx
 ·rename_i n es row i off
  split at hx
  ·rename_i hoff
   obtain rfl:=Nat.eq_of_beq_eq_true hoff
   obtain rfl:=Option.some.inj hx
   cases hd with
   |el _ b o cap hs h0 hi=>
    obtain ⟨j,rfl⟩:=Int.eq_ofNat_of_zero_le h0
    simp only [Int.toNat_natCast,Int.ofNat_lt] at *
    cases hs with
    |emp=>omega
    |sl _ _ _ _ _ _ u hA hn hc hl hu hr=>
     refine ⟨b,o+j * es+0,1,rfl,.sl 1 (row j).length _ b (o+j * es+0) 1 (fun _ m=>u j m) (fun _ h=>h) (Nat.le_refl _) (by simp only [maxLen];omega) (fun _ _=>rfl) (fun i m hi' hm=>?_) (fun i m c hi' hc'=>?_)⟩
     ·obtain rfl:i=0:=by omega
      have:=hu j m hi (by rw [←hl j hi];exact hm)
      rw [←this]
      congr 2
      omega
     exact (hr j m c hi hc').wide
  simp at hx
 simp at hx
theorem A6p {B:Ax}{E:Cv}{s:AS}{a:Act}{w:World}(h:s.is B E a w){x:AV}{c:Cap}(hx:A45 s x=some c){v:Value}(hd:Cm E w (s.avoid E) s.next x v):A8u w (fun _=>False) c v:=by
 unfold A45 at hx
 split at hx
 ·rename_i c' hc
  obtain rfl:=Option.some.inj hx
  exact N2 h hc hd
 split at hx
 ·rename_i cs hcs
  obtain rfl:=Option.some.inj hx
  exact Xy h hcs hd
 simp at hx
theorem A3a {s:AS}{l:List AV}{cs:List Cap}(h:Ym s l=some cs):cs.length=l.length∧∀(i:Nat) (c:Cap),cs[i]? =some c→∃x:AV,l[i]? =some x∧A45 s x=some c:=by
 induction l generalizing cs with
 |nil=>obtain rfl:=Option.some.inj h;simp
 |cons x r ih=>
  unfold Ym at h
  split at h
  ·rename_i c hc
   split at h
   ·rename_i cs' hcs
    obtain rfl:=Option.some.inj h
    obtain ⟨h1,h2⟩:=ih hcs
    refine ⟨by simp [h1],fun i d hd=>?_⟩
    cases i with
    |zero=>simp only [List.getElem?_cons_zero,Option.some.injEq] at hd;subst hd;exact ⟨x,by simp,hc⟩
    |succ i=>simpa using h2 i d (by simpa using hd)
   simp at h
  simp at h
theorem L8 {B:Ax}{E:Cv}{s:AS}{a:Act}{w:World}(h:s.is B E a w){x:AV}{c:Fz}(hx:A41 s x=some c){v:Value}(hd:Cm E w (s.avoid E) s.next x v):Lk w (fun _=>False) c v:=by
 unfold A41 at hx
 split at hx
 ·split at hx
  ·rename_i xs cs hcs
   obtain rfl:=Option.some.inj hx
   obtain ⟨h1,h2⟩:=Re hcs
   cases hd with
   |agg vs hl hv=>
    refine ⟨vs,rfl,by omega,fun i c hc=>?_⟩
    obtain ⟨y,hy,hyc⟩:=h2 i c hc
    exact N2 h hyc (hv i y hy)
  simp at hx
 ·split at hx
  ·rename_i f xs cs hcs
   obtain rfl:=Option.some.inj hx
   obtain ⟨h1,h2⟩:=A3a hcs
   cases hd with
   |fn vs hl hv=>
    refine ⟨vs,rfl,by omega,fun i c hc=>?_⟩
    obtain ⟨y,hy,hyc⟩:=h2 i c hc
    exact A6p h hyc (hv i y hy)
  simp at hx
 split at hx
 ·rename_i c hc
  obtain rfl:=Option.some.inj hx
  exact N2 h hc hd
 split at hx
 ·rename_i cs hcs
  obtain rfl:=Option.some.inj hx
  exact Xy h hcs hd
 simp at hx
end Go.Sx
namespace Go.Sx
open Go.RowKit (Below)
variable {P : Program} {T : List (TypeId × TI)}
def B6f:Cap→AV
 | .one c=> .c c
 | .ptr cs=> .el 1 cs.length (fun _=>cs) 0 0
def Kj:Fz→AV
 | .one c=> .c c
 | .agg cs=> .agg (cs.map AV.ofCell)
 | .ptr cs=> .el 1 cs.length (fun _=>cs) 0 0
 | .fn f caps=> .fn f (caps.map B6f)
def Y3 (outs:List Fz):AV:=
 match outs with
 | [o]=>Kj o
 |outs=> .tup (outs.map Kj)
def Yi (c:Ac) (s:AS):AV×AS:=
 match c with
 | .val _=>(.c c,s)
 | .sl _ _ _=>(.own s.next,s.addOwn c)
def Ey (cs:List Ac) (s:AS):List AV×AS:=
 match cs with
 | []=>([],s)
 |c::r=>match Yi c s with
  |(x,s1)=>match Ey r s1 with
   |(xs,s2)=>(x::xs,s2)
def Ln (x:Fz) (s:AS):AV×AS:=
 match x with
 | .one c=>Yi c s
 | .agg cs=>match Ey cs s with
  |(xs,s')=>(.agg xs,s')
 | .ptr _=>(.agg [],s)
 | .fn _ _=>(.agg [],s)
def D3 (l:List Fz) (s:AS):List AV×AS:=
 match l with
 | []=>([],s)
 |c::r=>match Ln c s with
  |(x,s1)=>match D3 r s1 with
   |(xs,s2)=>(x::xs,s2)
def H0 (outs:List Fz) (s:AS):AV×AS:=
 match outs with
 | [o]=>Ln o s
 |outs=>match D3 outs s with
  |(xs,s')=>(.tup xs,s')
structure A4t (B:Ax) (A:Nat→Prop) (a:Act) (w:World) (s s':AS) (E E':Cv) (fp:List Nat):Prop where
 isA:s'.isA B E' A a w
 keep:∀k,k<s.next→E'.β k=E.β k∧E'.ov k=E.ov k
 next:s.next≤s'.next
 avoid:∀b,s'.avoid E' b→s.avoid E b∨b∈fp
theorem A4y {B : Ax} {E : Cv} {A : Nat → Prop} {a : Act} {w : World} {s : AS} (h : s.isA B E A a w) {c : Ac} {v : Value} {fp : List Nat} (ho : C5 w c v fp) (hn : fp.Nodup)
    (hA : ∀ b ∈ fp, A b ∧ ¬ s.avoid E b ∧ B.fresh b) : ∃ E', A4t B A a w s (Yi c s).2 E E' fp ∧ Cm E' w A (Yi c s).2.next (Yi c s).1 v := by
  cases ho with
  | val _ hv => exact ⟨E, ⟨h, fun _ _ => ⟨rfl, rfl⟩, Nat.le_refl _, fun b hb => .inl hb⟩, .c (.val v hv)⟩
  | nil es row =>
    obtain ⟨h1, h2⟩ := h.addOwn (.nil es row) hn hA
    exact ⟨_, ⟨h1, fun k hk => by have : k ≠ s.next := by omega
                                  exact Cv.withOwn_keep _ _ _ _ this, Nat.le_succ _, fun b hb => by
      rcases hb with ⟨x, hx, rfl⟩ | ⟨y, hy, hb⟩
      · refine .inl (.inl ⟨x, hx, ?_⟩)
        have h1 := (h.boxes x hx).1
        have : x.key ≠ s.next := by omega
        exact (Cv.withOwn_keep _ _ _ _ this).1.symm
      · rcases List.mem_cons.1 hy with rfl | hy
        · right; simp [Cv.withOwn] at hb
        · have : y.key ≠ s.next := by have := (h.own y hy).1; omega
          exact .inl (.inr ⟨y, hy, by simpa [Cv.withOwn, this] using hb⟩)⟩, h2⟩
  | emp es row b0 o0 =>
    obtain ⟨h1, h2⟩ := h.addOwn (.emp es row b0 o0) hn hA
    exact ⟨_, ⟨h1, fun k hk => by have : k ≠ s.next := by omega
                                  exact Cv.withOwn_keep _ _ _ _ this, Nat.le_succ _, fun b hb => by
      rcases hb with ⟨x, hx, rfl⟩ | ⟨y, hy, hb⟩
      · refine .inl (.inl ⟨x, hx, ?_⟩)
        have h1 := (h.boxes x hx).1
        have : x.key ≠ s.next := by omega
        exact (Cv.withOwn_keep _ _ _ _ this).1.symm
      · rcases List.mem_cons.1 hy with rfl | hy
        · right; simp [Cv.withOwn] at hb
        · have : y.key ≠ s.next := by have := (h.own y hy).1; omega
          exact .inl (.inr ⟨y, hy, by simpa [Cv.withOwn, this] using hb⟩)⟩, h2⟩
  | sl n es row b off cap ty cells fps hn' hc hb hs hl hr =>
    obtain ⟨h1, h2⟩ := h.addOwn (.sl n es row b off cap ty cells fps hn' hc hb hs hl hr) hn hA
    exact ⟨_, ⟨h1, fun k hk => by have : k ≠ s.next := by omega
                                  exact Cv.withOwn_keep _ _ _ _ this, Nat.le_succ _, fun b hb => by
      rcases hb with ⟨x, hx, rfl⟩ | ⟨y, hy, hb⟩
      · refine .inl (.inl ⟨x, hx, ?_⟩)
        have h1 := (h.boxes x hx).1
        have : x.key ≠ s.next := by omega
        exact (Cv.withOwn_keep _ _ _ _ this).1.symm
      · rcases List.mem_cons.1 hy with rfl | hy
        · right; simpa [Cv.withOwn] using hb
        · have : y.key ≠ s.next := by have := (h.own y hy).1; omega
          exact .inl (.inr ⟨y, hy, by simpa [Cv.withOwn, this] using hb⟩)⟩, h2⟩
theorem To {B:Ax}{A:Nat→Prop}{a:Act}{w:World}:∀(cs:List Ac) (vs:List Value) (fps:Nat→List Nat) (s:AS) (E:Cv),s.isA B E A a w→vs.length=cs.length→
  (∀i c,cs[i]? =some c→C5 w c (vs.getD i undef) (fps i))→((List.range cs.length).flatMap fps).Nodup→
  (∀b∈(List.range cs.length).flatMap fps,A b∧¬ s.avoid E b∧B.fresh b)→
  ∃E',A4t B A a w s (Ey cs s).2 E E' ((List.range cs.length).flatMap fps)∧(Ey cs s).1.length=cs.length∧
   ∀i x,(Ey cs s).1[i]? =some x→Cm E' w A (Ey cs s).2.next x (vs.getD i undef):=by
 intro cs
 induction cs with
 |nil=>intro vs fps s E h _ _ _ _;exact ⟨E,⟨h,fun _ _=>⟨rfl,rfl⟩,Nat.le_refl _,fun b hb=> .inl hb⟩,rfl,by simp [Ey]⟩
 |cons c cs ih=>
  intro vs fps s E h hl hr hn hA
  match vs,hl with
  |v::vs,hl=>
   have hfl:(List.range (c::cs).length).flatMap fps=fps 0++(List.range cs.length).flatMap (fun i=>fps (i+1)):=by
    simp [List.range_succ_eq_map,List.flatMap_map,List.flatMap_cons]
   rw [hfl] at hn hA ⊢
   obtain ⟨n1,n2,n3⟩:=List.nodup_append.1 hn
   obtain ⟨E1,A1,D1⟩:=A4y h (by simpa using hr 0 c rfl) n1 (fun b hb=>hA b (List.mem_append_left _ hb))
   obtain ⟨E2,A2,L2,D2⟩:=ih vs (fun i=>fps (i+1)) (Yi c s).2 E1 A1.isA (by simpa using hl) (fun i d hd=>by simpa using hr (i+1) d (by simpa using hd)) n2 (fun b hb=>by
    obtain ⟨g1,g2,g3⟩:=hA b (List.mem_append_right _ hb)
    refine ⟨g1,fun hav=>?_,g3⟩
    rcases A1.avoid b hav with h|h
    ·exact g2 h
    exact n3 b h b hb rfl)
   refine ⟨E2,⟨A2.isA,fun k hk=>?_,Nat.le_trans A1.next A2.next,fun b hb=>?_⟩,by simp [Ey,L2],fun i x hx=>?_⟩
   ·have h1:=A1.keep k hk
    have h2:=A2.keep k (Nat.lt_of_lt_of_le hk A1.next)
    exact ⟨h2.1.trans h1.1,h2.2.trans h1.2⟩
   ·rcases A2.avoid b hb with h|h
    ·rcases A1.avoid b h with h|h
     ·exact .inl h
     exact .inr (List.mem_append_left _ h)
    exact .inr (List.mem_append_right _ h)
   cases i with
   |zero=>
    obtain rfl:(Yi c s).1=x:=by simpa [Ey] using hx
    simpa [Ey] using D1.move A2.next A2.keep (fun _ _ _=>rfl) (fun _ _ hb=>hb)
   |succ i=>simpa [Ey] using D2 i x (by simpa [Ey] using hx)
theorem A6h {B:Ax}{A:Nat→Prop}{a:Act}{w:World}(y:Fz)(v:Value)(fp:List Nat)(s:AS)(E:Cv)(h:s.isA B E A a w)(ho:Jt w y v fp)(hn:fp.Nodup)
  (hA:∀b∈fp,A b∧¬ s.avoid E b∧B.fresh b):∃E',A4t B A a w s (Ln y s).2 E E' fp∧Cm E' w A (Ln y s).2.next (Ln y s).1 v:=by
 cases y with
 |one c=>exact A4y h ho hn hA
 |agg cs=>
  obtain ⟨vs,fps,rfl,hl,hr,rfl⟩:=ho
  obtain ⟨E',h1,h2,h3⟩:=To cs vs fps s E h hl hr hn hA
  exact ⟨E',h1,.agg vs (by rw [h2];exact hl) h3⟩
 |ptr cs=>exact ho.elim
 |fn f caps=>exact ho.elim
theorem Ju {B:Ax}{A:Nat→Prop}{a:Act}{w:World}:∀(l:List Fz) (vs:List Value) (fps:Nat→List Nat) (s:AS) (E:Cv),s.isA B E A a w→vs.length=l.length→
  (∀i y,l[i]? =some y→Jt w y (vs.getD i undef) (fps i))→(∀i,i<l.length→(fps i).Nodup)→(∀i j,i<l.length→j<l.length→i≠j→∀b∈fps i,b∉fps j)→
  (∀i,i<l.length→∀b∈fps i,A b∧¬ s.avoid E b∧B.fresh b)→
  ∃E',A4t B A a w s (D3 l s).2 E E' ((List.range l.length).flatMap fps)∧(D3 l s).1.length=l.length∧
   ∀i x,(D3 l s).1[i]? =some x→Cm E' w A (D3 l s).2.next x (vs.getD i undef):=by
 intro l
 induction l with
 |nil=>intro vs fps s E h _ _ _ _ _;exact ⟨E,⟨h,fun _ _=>⟨rfl,rfl⟩,Nat.le_refl _,fun b hb=> .inl hb⟩,rfl,by simp [D3]⟩
 |cons c cs ih=>
  intro vs fps s E h hl hr hn hd hA
  match vs,hl with
  |v::vs,hl=>
   have hfl:(List.range (c::cs).length).flatMap fps=fps 0++(List.range cs.length).flatMap (fun i=>fps (i+1)):=by
    simp [List.range_succ_eq_map,List.flatMap_map,List.flatMap_cons]
   rw [hfl]
   obtain ⟨E1,A1,D1⟩:=A6h c v (fps 0) s E h (by simpa using hr 0 c rfl) (hn 0 Bw) (hA 0 Bw)
   obtain ⟨E2,A2,L2,D2⟩:=ih vs (fun i=>fps (i+1)) (Ln c s).2 E1 A1.isA (by simpa using hl) (fun i d hd=>by simpa using hr (i+1) d (by simpa using hd)) (fun i hi=>hn (i+1) (by simpa using hi))
    (fun i j hi hj hne=>hd (i+1) (j+1) (by simpa using hi) (by simpa using hj) Ab) (fun i hi b hb=>by
    obtain ⟨g1,g2,g3⟩:=hA (i+1) (by simpa using hi) b hb
    refine ⟨g1,fun hav=>?_,g3⟩
    rcases A1.avoid b hav with h|h
    ·exact g2 h
    exact hd 0 (i+1) Bw (by simpa using hi) Ab b h hb)
   refine ⟨E2,⟨A2.isA,fun k hk=>?_,Nat.le_trans A1.next A2.next,fun b hb=>?_⟩,by simp [D3,L2],fun i x hx=>?_⟩
   ·have h1:=A1.keep k hk
    have h2:=A2.keep k (Nat.lt_of_lt_of_le hk A1.next)
    exact ⟨h2.1.trans h1.1,h2.2.trans h1.2⟩
   ·rcases A2.avoid b hb with h|h
    ·rcases A1.avoid b h with h|h
     ·exact .inl h
     exact .inr (List.mem_append_left _ h)
    exact .inr (List.mem_append_right _ h)
   cases i with
   |zero=>
    obtain rfl:(Ln c s).1=x:=by simpa [D3] using hx
    simpa [D3] using D1.move A2.next A2.keep (fun _ _ _=>rfl) (fun _ _ hb=>hb)
   |succ i=>simpa [D3] using D2 i x (by simpa [D3] using hx)
theorem Hx {E:Cv}{A:Nat→Prop}{N:Nat}{w:World}(l:List Fz)(xs:List AV)(rs:List Value)(hl:rs.length=l.length)(hx:xs.length=l.length)
  (hd:∀i x,xs[i]? =some x→Cm E w A N x (rs.getD i undef)):
  Cm E w A N (match xs with| [x]=>x|xs=> .tup xs) (Ii rs):=by
 match xs,rs,hx,hl with
 | [],[],_,_=>exact .tup [] rfl Bw
 | [x],[v],_,_=>exact hd 0 x rfl
 |x::y::xs,u::v::rs,hx,hl=>exact .tup (u::v::rs) (by simp at hx hl ⊢;omega) hd
 | [],_::_,hx,hl=>simp at hx hl;omega
 | [_],[],hx,hl=>simp at hx hl;omega
 | [_],_::_::_,hx,hl=>simp at hx hl;omega
 |_::_::_,[],hx,hl=>simp at hx hl;omega
 |_::_::_,[_],hx,hl=>simp at hx hl;omega
theorem Rc (outs:List Fz)(s:AS):H0 outs s=((match (D3 outs s).1 with| [x]=>x|xs=> .tup xs),(D3 outs s).2):=by
 match outs with
 | []=>rfl
 | [o]=>simp [H0,D3]
 |o1::o2::r=>simp [H0,D3]
theorem A87 {B:Ax}{Q:Exit→Act→World→Prop}{q:Bool}{f:FuncId}{xs:List AV}{dst:Option Tmp}{K:List KI}{s:AS}{ins outs:List Fz}(hf:Bo P f ins outs)(hx:Jc s xs=some ins)
  (h:G P B Q K ((H0 outs s).2.put dst (H0 outs s).1)):Wy P B Q q f xs dst K s:=by
 refine ⟨hf.1,fun E a w hs vs hl hv=>?_⟩
 obtain ⟨h1,h2⟩:=Jw hx
 refine (hf.2 w vs Ab (fun i x hi=>?_)).mono (fun e w' hg=>?_)
 ·obtain ⟨y,hy,hc⟩:=h2 i x hi
  exact L8 hs hc (hv i y hy)
 obtain ⟨hb,rs,fps,rfl,hrl,hro,hfr,hdis⟩:=hg
 have hA:=hs.call hb
 obtain ⟨E',hAd,hL,hD⟩:=Ju outs rs fps s E hA hrl hro (fun i hi=>(hfr i hi).1) hdis (fun i hi b hb'=>by
  have hge:=(hfr i hi).2 b hb'
  refine ⟨.inr hge,fun hav=>?_,.inl (Nat.le_trans hs.base.size hge)⟩
  have:=hs.avoid_lt hav
  omega)
 have hres:=Hx outs (D3 outs s).1 rs hrl hL hD
 rw [Rc] at h
 exact ⟨_,rfl,fun _=> .of_below hb,h E' _ w' ((hAd.isA.put dst hres).is)⟩
theorem B2r {B:Ax}{Q:Exit→Act→World→Prop}{q:Bool}{f:FuncId}{xs:List AV}{dst:Option Tmp}{K:List KI}{s:AS}{ins outs:List Fz}(hf:Bo P f ins outs)(hx:Jc s xs=some ins)
  (h:G P B Q K (s.put dst (Y3 outs))):Wy P B Q q f xs dst K s:=by
 refine ⟨hf.1,fun E a w hs vs hl hv=>?_⟩
 obtain ⟨h1,h2⟩:=Jw hx
 refine (hf.2 w vs Ab (fun i x hi=>?_)).mono (fun e w' hg=>?_)
 ·obtain ⟨y,hy,hc⟩:=h2 i x hi
  exact L8 hs hc (hv i y hy)
 obtain ⟨hb,rs,fps,rfl,hrl,hro,hfr,hdis⟩:=hg
 have hI:=(hs.call hb).is
 have hno:∀i,i<outs.length→∀b∈fps i,¬ s.avoid E b:=fun i hi b hb' hav=>by
  have:=hs.avoid_lt hav
  have:=(hfr i hi).2 b hb'
  omega
 have hone:∀i y,outs[i]? =some y→Cm E w' (s.avoid E) s.next (Kj y) (rs.getD i undef):=by
  intro i y hy
  have hi:i<outs.length:=(List.getElem?_eq_some_iff.1 hy).1
  have ho:=hro i y hy
  cases y with
  |one c=>exact .c (C5.rep ho (hno i hi))
  |agg cs=>
   obtain ⟨us,gps,hu,hul,hur,hfp⟩:=ho
   rw [hu]
   refine .agg us (by simp [hul]) (fun j x hj=>?_)
   simp only [List.getElem?_map,Option.map_eq_some_iff] at hj
   obtain ⟨c,hc,rfl⟩:=hj
   have hj:j<cs.length:=(List.getElem?_eq_some_iff.1 hc).1
   exact .c ((hur j c hc).rep (fun b hb'=>hno i hi b (by rw [hfp];exact Dc hj hb')))
  |ptr cs=>exact ho.elim
  |fn f caps=>exact ho.elim
 have hres:Cm E w' (s.avoid E) s.next (Y3 outs) (Ii rs):=by
  have:=Hx (E:=E) (A:=s.avoid E) (N:=s.next) (w:=w') outs (outs.map Kj) rs hrl Bw (fun i x hi=>by
   simp only [List.getElem?_map,Option.map_eq_some_iff] at hi
   obtain ⟨y,hy,rfl⟩:=hi
   exact hone i y hy)
  match outs,this with
  | [],this=>exact this
  | [o],this=>exact this
  |o1::o2::r,this=>exact this
 exact ⟨_,rfl,fun _=> .of_below hb,h E _ w' (hI.put dst hres)⟩
theorem Ll.den {E:Cv}{w:World}{A A':Nat→Prop}{N:Nat}{cs:List Ac}{v:Value}(h:Ll w A cs v)(hA:∀b,A' b→A b):Cm E w A' N (.el 1 cs.length (fun _=>cs) 0 0) v:=by
 obtain ⟨b,o,cap,rfl,hr⟩:=h
 have:=Cm.el (E:=E) (N:=N) (i:=0) 0 b o cap (hr.move (A':=A') (fun _ _ _=>rfl) (fun b _ hb=>hA b hb)) Aw Aw
 simpa using this
def F6 (n:Nat) (ins:List Fz):AS:= {next:=0,slots:=ins.map Kj++List.replicate (n-ins.length) .any,boxes:=[],own:=[]}
theorem enter {f:FuncId}{fn:Func}{c:Code}{ins outs:List Fz}(hf:P.funcs[f]? =some fn)(hb:fn.body=some c)(hn:(fn.name== "runtime.NumGoroutine")=false)
  (h:∀W,G P ⟨W,fun _=>False⟩ (bodyPost P fn fun e w'=>Kg W w' outs e) [.code c] (F6 fn.ntmps ins)):Bo P f ins outs:=by
 refine ⟨⟨fn,hf,hn,by simp [hb]⟩,fun w vs hl hv=>calls_of_wp hf hb ?_⟩
 refine h w ⟨fun _=> .slice none 0 0,fun _=>[]⟩ _ w ?_
 have nav:∀b,¬ (F6 fn.ntmps ins).avoid ⟨fun _=> .slice none 0 0,fun _=>[]⟩ b:=by
  rintro b (⟨x,hx,_⟩|⟨y,hy,_⟩)
  ·simp [F6] at hx
  simp [F6] at hy
 have nb:∀x,x∉(F6 fn.ntmps ins).boxes:=by simp [F6]
 have no:∀x,x∉(F6 fn.ntmps ins).own:=by simp [F6]
 refine ⟨rfl,by simp [F6],by simp [F6,hl],fun i x hx=>?_,fun x hx=>absurd hx (nb x),fun x hx=>absurd hx (nb x),by simp [F6],fun y hy=>absurd hy (no y),by simp [F6],fun y hy=>absurd hy (no y),fun x hx=>absurd hx (nb x),fun _ _=>rfl,
  ⟨rfl,rfl,rfl,Nat.le_refl _,fun _ _ _=>rfl⟩,fun b hb=>absurd hb (nav b)⟩
 simp only [F6] at hx
 by_cases hi:i<ins.length
 ·rw [List.getElem?_append_left (by simpa using hi)] at hx
  simp only [List.getElem?_map,Option.map_eq_some_iff] at hx
  obtain ⟨y,hy,rfl⟩:=hx
  have hr:=hv i y hy
  have hiv:i<vs.length:=by omega
  have e:(vs.toArray++Array.replicate (fn.ntmps-vs.toArray.size) undef).getD i undef=vs.getD i undef:=by
   simp [Array.getD,List.getD,hiv,show i<vs.length+(fn.ntmps-vs.length) by omega]
  rw [e]
  cases y with
  |one c=>exact .c (hr.move (fun _ _ _=>rfl) (fun b _ hb=>absurd hb (nav b)))
  |agg cs=>
   obtain ⟨us,hu,hul,hur⟩:=hr
   rw [hu]
   refine .agg us (by simp [hul]) (fun j x hj=>?_)
   simp only [List.getElem?_map,Option.map_eq_some_iff] at hj
   obtain ⟨c,hc,rfl⟩:=hj
   exact .c ((hur j c hc).move (fun _ _ _=>rfl) (fun b _ hb=>absurd hb (nav b)))
  |ptr cs=>exact hr.den (fun b hb=>absurd hb (nav b))
  |fn f caps=>
   obtain ⟨us,hu,hul,hur⟩:=hr
   rw [hu]
   refine .fn us (by simp [hul]) (fun j x hj=>?_)
   simp only [List.getElem?_map,Option.map_eq_some_iff] at hj
   obtain ⟨c,hc,rfl⟩:=hj
   have hr:=hur j c hc
   cases c with
   |one c=>exact .c (L5.move hr (fun _ _ _=>rfl) (fun b _ hb=>absurd hb (nav b)))
   |ptr cs=>exact Ll.den hr (fun b hb=>absurd hb (nav b))
 rw [List.getElem?_append_right (by simp;omega)] at hx
 obtain rfl:AV.any=x:=by
  have:=List.mem_of_getElem? hx
  simpa using (List.eq_of_mem_replicate this).symm
 exact .any _
end Go.Sx
namespace Go.Sx
open Go.RowKit (Below)
variable {P : Program} {T : List (TypeId × TI)}
def Nk (T:List (TypeId×TI)) (rs:List ResultVar) (s:AS):Option (List AV):=
 match rs with
 | []=>some []
 | .tmp t::r=>match Nk T r s with
  |some xs=>some (Gh s.slots t::xs)
  |none=>none
 | .cell t ty::r=>
  match find T ty,Gh s.slots t with
  |some i,.box k off=>
   match Ew s.boxes k with
   |some b=>match Nat.ble (off+i.size) b.cells.length,Nk T r s with
    |true,some xs=>some (Iq i b.cells off::xs)
    |_,_=>none
   |none=>none
  |_,_=>none
def A10 (own:List Ow) (x:AV) (out:Ac):Prop:=
 match x with
 | .own k=>match Bs own k with
  |some c=>c=out
  |none=>False
 | .c (.val (.slice none n c))=>out= .val (.slice none n c)∨(n=0∧c=0∧∃es row,out= .sl 0 es row)
 | .c (.val v)=>out= .val v
 |_=>False
def Hf (x:AV):List Nat:=
 match x with
 | .own k=>[k]
 |_=>[]
def Uw (own:List Ow) (xs:List AV) (outs:List Ac):Prop:=
 match xs,outs with
 | [],[]=>True
 |x::xs,o::outs=>A10 own x o∧Uw own xs outs
 |_,_=>False
def B05 (own:List Ow) (x:AV) (out:Fz):Prop:=
 match out with
 | .one c=>A10 own x c
 | .agg cs=>match x with
  | .agg xs=>Uw own xs cs
  |_=>False
 | .ptr _=>False
 | .fn _ _=>False
def Nd (own:List Ow) (xs:List AV) (outs:List Fz):Prop:=
 match xs,outs with
 | [],[]=>True
 |x::xs,o::outs=>B05 own x o∧Nd own xs outs
 |_,_=>False
def Dz (x:AV):List Nat:=
 match x with
 | .agg xs=>xs.flatMap Hf
 |x=>Hf x
def Fu (l:List Nat):Bool:=
 match l with
 | []=>true
 |x::r=>!(r.any (Nat.beq x))&&Fu r
theorem Dq {l:List Nat}(h:Fu l=true):l.Nodup:=by
 induction l with
 |nil=>simp
 |cons x r ih=>
  simp only [Fu,Bool.and_eq_true,Bool.not_eq_true',List.any_eq_false] at h
  exact List.nodup_cons.2 ⟨fun hm=>h.1 x hm Bw,ih h.2⟩
theorem C3 {α β:Type}{f:α→List β}{l:List α}:(l.flatMap f).Nodup↔(∀x∈l,(f x).Nodup)∧l.Pairwise fun a b=>∀z∈f a,z∉f b:=by
 induction l with
 |nil=>simp
 |cons x l ih=>
  simp only [List.flatMap_cons,List.nodup_append,ih,List.mem_cons,forall_eq_or_imp,List.pairwise_cons,List.mem_flatMap]
  constructor
  ·rintro ⟨h1,⟨h2,h3⟩,h4⟩
   exact ⟨⟨h1,h2⟩,fun y hy z hz hz'=>h4 z hz z ⟨y,hy,hz'⟩ rfl,h3⟩
  rintro ⟨⟨h1,h2⟩,h3,h4⟩
  exact ⟨h1,⟨h2,h4⟩,fun z hz z' ⟨y,hy,hz'⟩ e=>h3 y hy z hz (e▸hz')⟩
theorem Zj {B:Ax}{E:Cv}{s:AS}{a:Act}{w:World}(h:s.is B E a w){x:AV}{o:Ac}(ho:A10 s.own x o){v:Value}(hd:Cm E w (s.avoid E) s.next x v):
  C5 w o v ((Hf x).flatMap E.fp)∧∀k∈Hf x,∃y∈s.own,y.key=k:=by
 unfold A10 at ho
 split at ho
 ·rename_i k
  split at ho
  ·rename_i c hc
   subst ho
   have hm:=C2 hc
   cases hd with
   |own hk=>
    refine ⟨by simpa [Hf] using (h.own _ hm).2.1,fun j hj=>?_⟩
    simp only [Hf,List.mem_singleton] at hj
    subst hj
    exact ⟨_,hm,rfl⟩
  exact ho.elim
 ·rename_i n c
  have e:=Bc hd
  subst e
  rcases ho with rfl|⟨rfl,rfl,es,row,rfl⟩
  ·exact ⟨.val _ rfl,by simp [Hf]⟩
  exact ⟨.nil es row,by simp [Hf]⟩
 ·rename_i v' _
  subst ho
  have e:=Bc hd
  subst e
  refine ⟨.val _ ?_,by simp [Hf]⟩
  cases hd with
  |c hr=>exact hr.one
 exact ho.elim
theorem A7u {own:List Ow}{xs:List AV}{outs:List Ac}(h:Uw own xs outs):xs.length=outs.length∧∀(i:Nat) (o:Ac),outs[i]? =some o→∃x:AV,xs[i]? =some x∧A10 own x o:=by
 induction xs generalizing outs with
 |nil=>cases outs<;>simp_all [Uw]
 |cons x xs ih=>
  cases outs with
  |nil=>simp [Uw] at h
  |cons o outs=>
   obtain ⟨h1,h2⟩:=ih h.2
   refine ⟨by simp [h1],fun i c hc=>?_⟩
   cases i with
   |zero=>simp only [List.getElem?_cons_zero,Option.some.injEq] at hc;subst hc;exact ⟨x,by simp,h.1⟩
   |succ i=>simpa using h2 i c (by simpa using hc)
theorem Ld {own:List Ow}{xs:List AV}{outs:List Fz}(h:Nd own xs outs):xs.length=outs.length∧∀(i:Nat) (o:Fz),outs[i]? =some o→∃x:AV,xs[i]? =some x∧B05 own x o:=by
 induction xs generalizing outs with
 |nil=>cases outs<;>simp_all [Nd]
 |cons x xs ih=>
  cases outs with
  |nil=>simp [Nd] at h
  |cons o outs=>
   obtain ⟨h1,h2⟩:=ih h.2
   refine ⟨by simp [h1],fun i c hc=>?_⟩
   cases i with
   |zero=>simp only [List.getElem?_cons_zero,Option.some.injEq] at hc;subst hc;exact ⟨x,by simp,h.1⟩
   |succ i=>simpa using h2 i c (by simpa using hc)
theorem A9w {xs:List AV}(fp:Nat→List Nat):(xs.flatMap Hf).flatMap fp=(List.range xs.length).flatMap fun i=>(Hf (Gh xs i)).flatMap fp:=by
 induction xs with
 |nil=>simp
 |cons x xs ih=>
  simp only [List.flatMap_cons,List.flatMap_append,ih,List.length_cons,List.range_succ_eq_map,List.flatMap_map]
  rfl
theorem Hr {B:Ax}{E:Cv}{s:AS}{a:Act}{w:World}(h:s.is B E a w){x:AV}{o:Fz}(ho:B05 s.own x o){v:Value}(hd:Cm E w (s.avoid E) s.next x v):
  Jt w o v ((Dz x).flatMap E.fp)∧∀k∈Dz x,∃y∈s.own,y.key=k:=by
 cases o with
 |one c=>
  have hk:Dz x=Hf x:=by cases x<;>first|rfl|simp [B05,A10] at ho
  rw [hk]
  exact Zj h ho hd
 |agg cs=>
  cases x<;>simp only [B05] at ho
  rename_i xs
  obtain ⟨h1,h2⟩:=A7u ho
  cases hd with
  |agg vs hl hv=>
   refine ⟨⟨vs,fun i=>(Hf (Gh xs i)).flatMap E.fp,rfl,by omega,fun i c hc=>?_,?_⟩,fun k hk=>?_⟩
   ·obtain ⟨y,hy,hyo⟩:=h2 i c hc
    have:=(Zj h hyo (hv i y hy)).1
    have e:Gh xs i=y:=by rw [Cl,hy];rfl
    simp only [e]
    exact this
   ·rw [←h1];exact A9w E.fp
   obtain ⟨y,hy,hyk⟩:=List.mem_flatMap.1 hk
   obtain ⟨i,hi⟩:=List.mem_iff_getElem?.1 hy
   have hil:i<cs.length:=by rw [←h1];exact (List.getElem?_eq_some_iff.1 hi).1
   obtain ⟨y',hy',hyo⟩:=h2 i _ (List.getElem?_eq_getElem hil)
   obtain rfl:y'=y:=by rw [hi] at hy';exact (Option.some.inj hy').symm
   exact (Zj h hyo (hv i _ hi)).2 k hyk
 |ptr cs=>exact ho.elim
 |fn f caps=>exact ho.elim
def B4a (tmps:Array Value) (r:ResultVar):Sem Value:=
 match r with
 | .tmp t=>pure (tmps.getD t undef)
 | .cell a t=>do loadVar t (←asAddr (tmps.getD a undef))
theorem M5 (fn:Func)(tmps:Array Value):results fn tmps=(do let vs ←fn.results.mapM (B4a tmps);pure (if h:vs.size=1 then vs[0] else .tuple vs)):=by
 unfold results
 congr 1
theorem Qv (hT:C7 P T){B:Ax}{E:Cv}{s:AS}{a:Act}{w:World}(h:s.is B E a w):∀(rs:List ResultVar) (xs:List AV),Nk T rs s=some xs→
  ∃vs:List Value,(rs.mapM (B4a a.tmps)).run P w= .ok vs w∧vs.length=xs.length∧xs.length=rs.length∧∀i x,xs[i]? =some x→Cm E w (s.avoid E) s.next x (vs.getD i undef):=by
 intro rs
 induction rs with
 |nil=>intro xs hx;obtain rfl:=Option.some.inj hx;exact ⟨[],rfl,rfl,rfl,by simp⟩
 |cons r rs ih=>
  intro xs hx
  cases r with
  |tmp t=>
   unfold Nk at hx
   split at hx
   ·rename_i ys hys
    obtain rfl:=Option.some.inj hx
    obtain ⟨vs,h1,h2,h3,h4⟩:=ih ys hys
    refine ⟨a.tmps.getD t undef::vs,by simp only [List.mapM_cons,B4a,Sem.run_bind,Sem.run_pure,Result.andThen_ok,h1],by simp [h2],by simp [h3],fun i x hi=>?_⟩
    cases i with
    |zero=>
     simp only [List.getElem?_cons_zero,Option.some.injEq] at hi
     subst hi
     exact h.ev (.tmp t)
    |succ i=>simpa using h4 i x (by simpa using hi)
   simp at hx
  |cell t ty=>
   unfold Nk at hx
   split at hx
   ·rename_i i k off hi hn
    split at hx
    ·rename_i b hb
     split at hx
     ·rename_i ys hle hys
      obtain rfl:=Option.some.inj hx
      obtain ⟨vs,h1,h2,h3,h4⟩:=ih ys hys
      obtain ⟨v,g1,g2⟩:=h.load (hT ty i hi) hb (Nat.le_of_ble_eq_true hle)
      have hev:=h.ev (.tmp t)
      simp only [AS.ev,hn,Act.eval] at hev
      generalize hv:a.tmps.getD t undef=u at hev
      cases hev with
      |box _ hk=>
       refine ⟨v::vs,?_,by simp [h2],by simp [h3],fun j x hj=>?_⟩
       ·have g1:=g1 w (Dy.refl w)
        simp only [Instr.loadAt,Instr.sureAddr,Sem.run_bind,Sem.run_pure,Result.andThen_ok] at g1
        simp only [List.mapM_cons,B4a,Sem.run_bind,hv,asAddr,Sem.run_pure,Result.andThen_ok,g1,h1]
       cases j with
       |zero=>
        simp only [List.getElem?_cons_zero,Option.some.injEq] at hj
        subst hj
        exact g2
       |succ j=>simpa using h4 j x (by simpa using hj)
     simp at hx
    simp at hx
   simp at hx
theorem O2 (vs:List Value):(if h:vs.toArray.size=1 then vs.toArray[0] else .tuple vs.toArray)=Ii vs:=by
 match vs with
 | []=>rfl
 | [v]=>rfl
 |u::v::r=>simp [Ii]
theorem B5x (hT:C7 P T){W:World}{fn:Func}{outs:List Fz}{s:AS}{xs:List AV}(hx:Nk T fn.results.toList s=some xs)(hk:Fu (xs.flatMap Dz)=true)(ho:Nd s.own xs outs):
  B2i ⟨W,fun _=>False⟩ (bodyPost P fn fun e w'=>Kg W w' outs e) s:=by
 intro E a w h
 obtain ⟨vs,h1,h2,h3,h4⟩:=Qv hT h fn.results.toList xs hx
 obtain ⟨g1,g2⟩:=Ld ho
 refine ⟨h.defers,Ii vs,?_,?_,vs,fun i=>(Dz (Gh xs i)).flatMap E.fp,rfl,by omega,fun i y hy=>?_,fun i hi=>?_,fun i j hi hj hne b hb hb'=>?_⟩
 ·rw [M5,Array.mapM_eq_mapM_toList]
  simp only [map_eq_pure_bind,Sem.run_bind,h1,Result.andThen_ok,Sem.run_pure]
  exact congrArg (fun v=>Result.ok v w) (O2 vs)
 ·have hB:=h.base
  exact ⟨hB.os,hB.tape,hB.output,hB.size,fun k hk=>hB.block k hk (fun h=>h)⟩
 ·obtain ⟨x,hx',hxo⟩:=g2 i y hy
  have:=(Hr h hxo (h4 i x hx')).1
  have e:Gh xs i=x:=by rw [Cl,hx'];rfl
  simp only [e]
  exact this
 ·have hi':i<xs.length:=by omega
  have hnd:=Dq hk
  have hxi:=List.getElem?_eq_getElem hi'
  obtain ⟨x,hx',hxo⟩:=g2 i _ (List.getElem?_eq_getElem hi)
  have hkeys:=(Hr h hxo (h4 i x hx')).2
  show ((Dz (Gh xs i)).flatMap E.fp).Nodup∧∀b∈(Dz (Gh xs i)).flatMap E.fp,W.heap.size≤b
  rw [show Gh xs i=x by rw [Cl,hx'];rfl]
  constructor
  ·have hsub:(Dz x).Nodup:=(C3.1 hnd).1 x (List.mem_of_getElem? hx')
   refine C3.2 ⟨fun k hk'=>?_,?_⟩
   ·obtain ⟨y,hy,rfl⟩:=hkeys k hk'
    exact (h.own y hy).2.2
   refine List.Pairwise.imp_of_mem ?_ hsub
   intro k j hk' hj' hne b hb hb'
   obtain ⟨y,hy,rfl⟩:=hkeys k hk'
   obtain ⟨z,hz,rfl⟩:=hkeys j hj'
   exact h.sep y hy z hz hne b hb hb'
  intro b hb
  obtain ⟨k,hk',hb⟩:=List.mem_flatMap.1 hb
  obtain ⟨y,hy,rfl⟩:=hkeys k hk'
  rcases h.fresh b (.inr ⟨y,hy,hb⟩) with h|h
  ·exact h
  exact h.elim
 have hi':i<xs.length:=by omega
 have hj':j<xs.length:=by omega
 have hnd:=Dq hk
 obtain ⟨x,hx',hxo⟩:=g2 i _ (List.getElem?_eq_getElem hi)
 obtain ⟨z,hz',hzo⟩:=g2 j _ (List.getElem?_eq_getElem hj)
 change b∈(Dz (Gh xs i)).flatMap E.fp at hb
 change b∈(Dz (Gh xs j)).flatMap E.fp at hb'
 rw [show Gh xs i=x by rw [Cl,hx'];rfl] at hb
 rw [show Gh xs j=z by rw [Cl,hz'];rfl] at hb'
 obtain ⟨k,hk1,hb⟩:=List.mem_flatMap.1 hb
 obtain ⟨l,hl1,hb'⟩:=List.mem_flatMap.1 hb'
 obtain ⟨y1,hy1,rfl⟩:=(Hr h hxo (h4 i x hx')).2 k hk1
 obtain ⟨y2,hy2,rfl⟩:=(Hr h hzo (h4 j z hz')).2 l hl1
 by_cases e:y1.key=y2.key
 ·have hpw:=(C3.1 hnd).2
  have e1:xs[i]=x:=by rw [List.getElem?_eq_getElem hi'] at hx';exact Option.some.inj hx'
  have e2:xs[j]=z:=by rw [List.getElem?_eq_getElem hj'] at hz';exact Option.some.inj hz'
  rcases Nat.lt_or_gt_of_ne hne with hlt|hlt
  ·have:=List.pairwise_iff_getElem.1 hpw i j hi' hj' hlt
   rw [e1,e2] at this
   exact this _ hk1 (e▸hl1)
  have:=List.pairwise_iff_getElem.1 hpw j i hj' hi' hlt
  rw [e1,e2] at this
  exact this _ hl1 (e▸hk1)
 exact h.sep y1 hy1 y2 hy2 e b hb hb'
def low0 (n:Nat) (x:AV):Bool:=
 match x with
 | .any=>true
 | .c _=>true
 | .own k=>Nat.blt k n
 | .box k _=>Nat.blt k n
 | .el _ _ _ _ _=>true
 | .oel k _ _ _=>Nat.blt k n
 |_=>false
def Yk (f:AV→Bool) (l:List AV):Bool:=
 match l with
 | []=>true
 |x::r=>f x&&Yk f r
def low1 (n:Nat) (x:AV):Bool:=
 match x with
 | .agg xs=>Yk (low0 n) xs
 | .fn _ xs=>Yk (low0 n) xs
 |x=>low0 n x
def low2 (n:Nat) (x:AV):Bool:=
 match x with
 | .tup xs=>Yk (low1 n) xs
 |x=>low1 n x
def B3h (n:Nat) (l:List Bx):Bool:=
 match l with
 | []=>true
 |b::r=>Nat.blt b.key n&&Yk (low2 n) b.cells&&B3h n r
def B3j (n:Nat) (l:List Ow):Bool:=
 match l with
 | []=>true
 |b::r=>Nat.blt b.key n&&B3j n r
theorem J4 {f:AV→Bool}{l:List AV}(h:Yk f l=true){x:AV}(hx:x∈l):f x=true:=by
 induction l with
 |nil=>simp at hx
 |cons y r ih=>
  simp only [Yk,Bool.and_eq_true] at h
  rcases List.mem_cons.1 hx with rfl|hx
  ·exact h.1
  exact ih h.2 hx
theorem Cm.low0 {E:Cv}{w:World}{A:Nat→Prop}{N M:Nat}{x:AV}{v:Value}(h:Cm E w A N x v)(hb:low0 M x=true):Cm E w A M x v:=by
 cases h with
 |any v=>exact .any v
 |c h=>exact .c h
 |own hk=>exact .own (Fp (by simpa [Sx.low0] using hb))
 |box off hk=>exact .box off (Fp (by simpa [Sx.low0] using hb))
 |el off b o cap hs h0 hi=>exact .el off b o cap hs h0 hi
 |oel off b o n cap hk hv h0 hi=>exact .oel off b o n cap (Fp (by simpa [Sx.low0] using hb)) hv h0 hi
 |_=>simp [Sx.low0] at hb
theorem Cm.low1 {E:Cv}{w:World}{A:Nat→Prop}{N M:Nat}{x:AV}{v:Value}(h:Cm E w A N x v)(hb:low1 M x=true):Cm E w A M x v:=by
 cases h with
 |agg vs hl h=>exact .agg vs hl (fun i x hx=>(h i x hx).low0 (J4 (by simpa [Sx.low1] using hb) (List.mem_of_getElem? hx)))
 |fn vs hl h=>exact .fn vs hl (fun i x hx=>(h i x hx).low0 (J4 (by simpa [Sx.low1] using hb) (List.mem_of_getElem? hx)))
 |tup vs hl h=>simp [Sx.low1,Sx.low0] at hb
 |any v=>exact .any v
 |c h=>exact .c h
 |own hk=>exact (Cm.own hk).low0 hb
 |box off hk=>exact (Cm.box off hk).low0 hb
 |el off b o cap hs h0 hi=>exact .el off b o cap hs h0 hi
 |oel off b o n cap hk hv h0 hi=>exact (Cm.oel off b o n cap hk hv h0 hi).low0 hb
theorem Cm.low2 {E:Cv}{w:World}{A:Nat→Prop}{N M:Nat}{x:AV}{v:Value}(h:Cm E w A N x v)(hb:low2 M x=true):Cm E w A M x v:=by
 cases h with
 |tup vs hl h=>exact .tup vs hl (fun i x hx=>(h i x hx).low1 (J4 (by simpa [Sx.low2] using hb) (List.mem_of_getElem? hx)))
 |agg vs hl h=>exact (Cm.agg vs hl h).low1 hb
 |fn vs hl h=>exact (Cm.fn vs hl h).low1 hb
 |any v=>exact .any v
 |c h=>exact .c h
 |own hk=>exact (Cm.own hk).low1 hb
 |box off hk=>exact (Cm.box off hk).low1 hb
 |el off b o cap hs h0 hi=>exact .el off b o cap hs h0 hi
 |oel off b o n cap hk hv h0 hi=>exact (Cm.oel off b o n cap hk hv h0 hi).low1 hb
theorem B0l {n:Nat}{l:List Bx}(h:B3h n l=true){b:Bx}(hb:b∈l):b.key<n∧Yk (low2 n) b.cells=true:=by
 induction l with
 |nil=>simp at hb
 |cons x r ih=>
  unfold B3h at h
  simp only [Bool.and_eq_true] at h
  rcases List.mem_cons.1 hb with rfl|hb
  ·exact ⟨Fp h.1.1,h.1.2⟩
  exact ih h.2 hb
theorem B0n {n:Nat}{l:List Ow}(h:B3j n l=true){b:Ow}(hb:b∈l):b.key<n:=by
 induction l with
 |nil=>simp at hb
 |cons x r ih=>
  unfold B3j at h
  simp only [Bool.and_eq_true] at h
  rcases List.mem_cons.1 hb with rfl|hb
  ·exact Fp h.1
  exact ih h.2 hb
def Inv {J:Type} (B:Ax) (hd:J→AS) (φ:J→Prop) (μ:J→Nat) (m:Nat) (a:Act) (w:World):Prop:=∃j,φ j∧μ j<m∧∃E,(hd j).is B E a w
theorem U0 (p:Nat→Prop)(h:∃n,p n):∃m,p m∧∀k,p k→m≤k:=by
 obtain ⟨n,hn⟩:=h
 induction n using Nat.strongRecOn with
 |ind n ih=>
  by_cases e:∃k,k<n∧p k
  ·obtain ⟨k,hk,hp⟩:=e
   exact ih k hk hp
  exact ⟨n,hn,fun k hk=>Nat.le_of_not_lt (fun hlt=>e ⟨k,hlt,hk⟩)⟩
theorem A7k {J:Type}{B:Ax}{Q:Exit→Act→World→Prop}{c:Code}{K:List KI}{s:AS}(hd:J→AS)(φ:J→Prop)(μ:J→Nat)(j0:J)(h0:φ j0)(init:∀E a w,s.is B E a w→∃E',(hd j0).is B E' a w)
  (body:∀j,φ j→G P B Q (.code c:: .loop (Inv B hd φ μ (μ j))::K) (hd j)):G P B Q (.code (.loop c)::K) s:=by
 intro E a w hs
 let S:Act→World→Nat→Prop:=fun a w m=>∃j,φ j∧μ j=m∧∃E,(hd j).is B E a w
 obtain ⟨E',h'⟩:=init E a w hs
 refine wp_loop (fun a w=>∃m,S a w m) (fun a w=>Classical.epsilon fun m=>S a w m∧∀k,S a w k→m≤k) ⟨μ j0,j0,h0,rfl,E',h'⟩ ?_
 intro a w hI
 obtain ⟨⟨j,hj,hm,E,hE⟩,hmin⟩:=Classical.epsilon_spec (U0 _ hI)
 have hb:=body j hj E a w hE
 refine Code.wp_mono (fun e a' w' hq=>?_) hb
 cases e with
 |normal=>
  obtain ⟨j',hj',hlt,E',hE'⟩:=(hq:Inv B hd φ μ (μ j) a' w')
  have hS:S a' w' (μ j'):=⟨j',hj',rfl,E',hE'⟩
  refine ⟨⟨_,hS⟩,?_⟩
  obtain ⟨_,hmin'⟩:=Classical.epsilon_spec (U0 _ ⟨_,hS⟩)
  have:=hmin' _ hS
  have e2:=hm
  show (Classical.epsilon fun m=>S a' w' m∧∀k,S a' w' k→m≤k)<(Classical.epsilon fun m=>S a w m∧∀k,S a w k→m≤k)
  rw [←e2]
  exact Nat.lt_of_le_of_lt this hlt
 |exit id=>exact hq
 |goto l=>exact hq
 |ret=>exact hq
 |panic c=>exact hq
 |outgrown=>exact hq
theorem C7.nil:C7 P []:=fun t i h=>by simp [find] at h
theorem C7.cons {t:TypeId}{i:TI}{T:List (TypeId×TI)}(h:TI.of P t=some i)(hT:C7 P T):C7 P ((t,i)::T):=by
 intro u j hj
 unfold find at hj
 split at hj
 ·rename_i e
  obtain rfl:=Nat.eq_of_beq_eq_true e
  obtain rfl:=Option.some.inj hj
  exact h
 exact hT u j hj
end Go.Sx
namespace Go.Sx
open Go.RowKit (Below)
variable {P : Program} {T : List (TypeId × TI)}
structure A6e (X:Nat→Prop) (w w':World):Prop where
 os:w'.os=w.os
 tape:w'.tape=w.tape
 output:w'.output=w.output
 size:w.heap.size≤w'.heap.size
 block:∀k,k<w.heap.size→¬ X k→w'.heap[k]? =w.heap[k]?
structure Src (w:World) (v:Value) (n es:Nat) (row:Nat→List Ac) (news:List Value) (fps:Nat→List Nat):Prop where
 len:news.length=n * es
 rows:∀i,i<n→(row i).length=es
 shape:(v= .slice none 0 0∧n=0)∨(∃a,v= .slice (some a) 0 0∧n=0)∨(∃b o c,v= .slice (some ⟨b,o,none⟩) n c∧∀j,j<n * es→w.cell? ⟨b,o+j,none⟩=some (news.getD j undef))∨
  ∃s:ByteArray,v= .string s∧es=1∧n=s.size∧news=s.data.toList.map fun b=> .int .u8 b.toNat
 rep:∀i j c,i<n→(row i)[j]? =some c→C5 w c (news.getD (i * es+j) undef) (fps (i * es+j))
theorem Src.lenOf {w:World}{v:Value}{n es:Nat}{row:Nat→List Ac}{news:List Value}{fps:Nat→List Nat}(h:Src w v n es row news fps)(w':World):(Builtin.lenOf v).run P w'= .ok n w':=by
 rcases h.shape with ⟨rfl,rfl⟩|⟨a,rfl,rfl⟩|⟨b,o,c,rfl,_⟩|⟨s,rfl,_,rfl,_⟩<;>rfl
theorem Src.first {w:World}{v:Value}{n es:Nat}{row:Nat→List Ac}{news:List Value}{fps:Nat→List Nat}(h:Src w v n es row news fps){w':World}(hw:∀a,w'.cell? a=w.cell? a):
  (Builtin.firstCells es n v).run P w'= .ok news.toArray w':=by
 rcases h.shape with ⟨rfl,rfl⟩|⟨a,rfl,rfl⟩|⟨b,o,c,rfl,hc⟩|⟨s,rfl,rfl,rfl,rfl⟩
 ·have:news=[]:=List.eq_nil_of_length_eq_zero (by simpa using h.len)
  subst this
  rfl
 ·have:news=[]:=List.eq_nil_of_length_eq_zero (by simpa using h.len)
  subst this
  simp [Builtin.firstCells,loadCells,loadCellsFrom]
 ·refine run_firstCells_some (P:=P) w' es n ⟨b,o,none⟩ n c news h.len (fun j v hv=>?_)
  have hj:j<n * es:=by rw [←h.len];exact (List.getElem?_eq_some_iff.1 hv).1
  rw [Gi,hw,hc j hj]
  simp [List.getD,hv]
 have e:s.extract 0 s.size=s:=by
  apply ByteArray.ext
  simp
 simp only [Builtin.firstCells,e,Sem.run_pure]
 congr 1
 obtain ⟨⟨l⟩⟩:=s
 simp
theorem Src.one {w:World}{v:Value}{n es:Nat}{row:Nat→List Ac}{news:List Value}{fps:Nat→List Nat}(h:Src w v n es row news fps):∀u∈news,u.oneCell'=true:=by
 intro u hu
 obtain ⟨j,hj⟩:=List.mem_iff_getElem?.1 hu
 have hjl:j<n * es:=by rw [←h.len];exact (List.getElem?_eq_some_iff.1 hj).1
 have he:0<es:=Nat.pos_of_ne_zero (fun h=>by subst h;simp at hjl)
 have hi:j / es<n:=Nat.div_lt_of_lt_mul (by rw [Nat.mul_comm];exact hjl)
 have hm:j % es<(row (j / es)).length:=by rw [h.rows _ hi];exact Nat.mod_lt _ he
 have:=(h.rep (j / es) (j % es) _ hi (List.getElem?_eq_getElem hm)).one
 rw [show j / es * es+j % es=j by rw [Nat.mul_comm,Nat.div_add_mod]] at this
 simpa [List.getD,hj] using this
theorem Kb (z:Array Value)(n:Nat):(Builtin.zeroCells z n).size=n * z.size:=by simp [Builtin.zeroCells]
structure A0j (w w':World) (fp fp2:List Nat) (c:Ac) (v:Value) (fp':List Nat):Prop where
 own:C5 w' c v fp'
 nodup:fp'.Nodup
 sub:∀b∈fp',b∈fp∨b∈fp2∨w.heap.size≤b
 kept:A6e (fun b=>b∈fp) w w'
theorem A63 (w:World)(a:Addr):w.drew.cell? a=w.cell? a:=rfl
def A8p (n1 n2:Nat) (row1 row2 row:Nat→List Ac):Prop:=(∀i,i<n1→row i=row1 i)∧∀i,i<n2→row (n1+i)=row2 i
theorem A1a (l m:List Value)(j:Nat)(d:Value):(l++m).getD j d=if j<l.length then l.getD j d else m.getD (j-l.length) d:=by
 simp only [List.getD]
 split
 ·rw [List.getElem?_append_left (by assumption)]
 rw [List.getElem?_append_right Ab]
theorem Oe {α β:Type}{l:List α}{f g:α→List β}(h:∀x∈l,f x=g x):l.flatMap f=l.flatMap g:=by
 induction l with
 |nil=>rfl
 |cons x l ih=>simp only [List.flatMap_cons,h x Bw,ih (fun y hy=>h y (by simp [hy]))]
theorem A5t {w:World}{n1 n2 es:Nat}{row1 row2 row:Nat→List Ac}{olds news:List Value}{fps1 fps2:Nat→List Nat}(l1:olds.length=n1 * es)(_l2:news.length=n2 * es)
  (r1:∀i,i<n1→(row1 i).length=es)(r2:∀i,i<n2→(row2 i).length=es)(hj:A8p n1 n2 row1 row2 row)
  (h1:∀i j c,i<n1→(row1 i)[j]? =some c→C5 w c (olds.getD (i * es+j) undef) (fps1 (i * es+j)))
  (h2:∀i j c,i<n2→(row2 i)[j]? =some c→C5 w c (news.getD (i * es+j) undef) (fps2 (i * es+j)))
  (hn1:((List.range (n1 * es)).flatMap fps1).Nodup)(hn2:((List.range (n2 * es)).flatMap fps2).Nodup)(hd:∀b∈(List.range (n1 * es)).flatMap fps1,b∉(List.range (n2 * es)).flatMap fps2)
  (b off cap:Nat)(ty:TypeId)(cells:Array Value)(hb:w.heap[b]? =some (.cells cells ty (0,0)))(hcap:n1+n2≤cap)(hm:cap≤maxLen)(hsz:(off+cap) * es≤cells.size)
  (hcells:∀k,k<(n1+n2) * es→cells.getD (off * es+k) undef=(olds++news).getD k undef)
  (hb1:b∉(List.range (n1 * es)).flatMap fps1)(hb2:b∉(List.range (n2 * es)).flatMap fps2):
  ∃fp',C5 w (.sl (n1+n2) es row) (.slice (some ⟨b,off * es,none⟩) (n1+n2) cap) fp'∧fp'.Nodup∧∀x∈fp',x=b∨x∈(List.range (n1 * es)).flatMap fps1∨x∈(List.range (n2 * es)).flatMap fps2:=by
 have flat:(List.range ((n1+n2) * es)).flatMap (fun k=>if k<n1 * es then fps1 k else fps2 (k-n1 * es))=(List.range (n1 * es)).flatMap fps1++(List.range (n2 * es)).flatMap fps2:=by
  rw [Nat.add_mul,List.range_add,List.flatMap_append,List.flatMap_map]
  congr 1
  ·refine Oe (fun k hk=>?_)
   rw [if_pos (List.mem_range.1 hk)]
  refine Oe (fun k _=>?_)
  rw [if_neg Ab,Nat.add_sub_cancel_left]
 refine ⟨b::(List.range ((n1+n2) * es)).flatMap (fun k=>if k<n1 * es then fps1 k else fps2 (k-n1 * es)),.sl (n1+n2) es row b off cap ty cells _ hcap hm hb hsz (fun i hi=>?_) (fun i j c hi hc=>?_),?_,fun x hx=>?_⟩
 ·by_cases h:i<n1
  ·rw [hj.1 i h];exact r1 i h
  obtain ⟨m,rfl⟩:∃m,i=n1+m:=⟨i-n1,by omega⟩
  rw [hj.2 m Ab];exact r2 m Ab
 ·have hjl:j<es:=by
   have:=(List.getElem?_eq_some_iff.1 hc).1
   by_cases h:i<n1
   ·rw [hj.1 i h,r1 i h] at this;exact this
   obtain ⟨m,rfl⟩:∃m,i=n1+m:=⟨i-n1,by omega⟩
   rw [hj.2 m Ab,r2 m Ab] at this;exact this
  have hk:=Et hi hjl
  rw [show (off+i) * es+j=off * es+(i * es+j) by rw [Nat.add_mul,Nat.add_assoc],hcells _ hk,A1a,l1]
  by_cases h:i<n1
  ·have:=Et h hjl
   rw [if_pos this,if_pos this]
   exact h1 i j c h (by rw [←hj.1 i h];exact hc)
  obtain ⟨m,rfl⟩:∃m,i=n1+m:=⟨i-n1,by omega⟩
  have e:(n1+m) * es+j=n1 * es+(m * es+j):=by rw [Nat.add_mul,Nat.add_assoc]
  rw [e,if_neg Ab,if_neg Ab,Nat.add_sub_cancel_left]
  exact h2 m j c Ab (by rw [←hj.2 m Ab];exact hc)
 ·rw [flat,List.nodup_cons,List.nodup_append]
  refine ⟨fun h=>?_,hn1,hn2,fun x hx y hy e=>hd x hx (e▸hy)⟩
  rcases List.mem_append.1 h with h|h
  ·exact hb1 h
  exact hb2 h
 rw [flat] at hx
 rcases List.mem_cons.1 hx with h|h
 ·exact .inl h
 exact .inr (List.mem_append.1 h)
theorem Ve {t t2 e e2 ty:TypeId}{ie:TI}(hu:P.underlying t=some (.slice e))(hu2:P.underlying t2=some (.slice e2)∨P.underlying t2=some .string)(he:TI.of P e=some ie){w:World}{n1 n2:Nat}{row1 row2 row:Nat→List Ac}{v1 v2:Value}{fp1:List Nat}{news:List Value}{fps2:Nat→List Nat}
  (h1:C5 w (.sl n1 ie.size row1) v1 fp1)(hnd:fp1.Nodup)(h2:Src w v2 n2 ie.size row2 news fps2)(hn2:((List.range (n2 * ie.size)).flatMap fps2).Nodup)
  (hdis:∀b∈fp1,b∉(List.range (n2 * ie.size)).flatMap fps2)(hlt2:∀b∈(List.range (n2 * ie.size)).flatMap fps2,b<w.heap.size)(hj:A8p n1 n2 row1 row2 row)(_hpos:0<ie.size)
  (h63:n1+n2≤maxLen)(hbytes:(n1+n2) * ie.bytes≤140737488355328):
  ∃v' w' fp',(Builtin.append_ #[t,t2] ty #[v1,v2]).run P w= .ok v' w'∧A0j w w' fp1 ((List.range (n2 * ie.size)).flatMap fps2) (.sl (n1+n2) ie.size row) v' fp':=by
 obtain ⟨f,d,z,S⟩:=TI.of_spec he
 have hzs:z.cells.size=ie.size:=by have:=S.zlen;rw [←S.cells] at this;simpa using this
 have hsmall:n1+n2≤9223372036854775807:=by simp only [maxLen] at h63;omega
 have lenv1:∀w',(Builtin.lenOf v1).run P w'= .ok n1 w':=by intro w';cases h1<;>rfl
 have grow:∀(old:Nat) (olds:List Value) (fps1:Nat→List Nat),old<n1+n2→olds.length=n1 * ie.size→
   (∀i,i<n1→(row1 i).length=ie.size)→(∀i j c,i<n1→(row1 i)[j]? =some c→C5 w c (olds.getD (i * ie.size+j) undef) (fps1 (i * ie.size+j)))→
   ((List.range (n1 * ie.size)).flatMap fps1).Nodup→(∀b∈(List.range (n1 * ie.size)).flatMap fps1,b∈fp1)→
   ∃fp',A0j w (w.drew.alloc (.cells (olds.toArray++news.toArray++Builtin.zeroCells z.cells (grownCap w (n1+n2) old e-(n1+n2))) e)) fp1 ((List.range (n2 * ie.size)).flatMap fps2) (.sl (n1+n2) ie.size row)
    (.slice (some ⟨w.heap.size,0,none⟩) (n1+n2) (grownCap w (n1+n2) old e)) fp':=by
  intro old olds fps1 hold l1 r1 g1 nd1 sub1
  have hge:=grownCap_ge w (n1+n2) old e
  have hcm:=grownCap_le_maxLen w (n1+n2) old e h63
  generalize grownCap w (n1+n2) old e=cap at *
  have hlt1:∀b∈(List.range (n1 * ie.size)).flatMap fps1,b<w.heap.size:=fun b hb=>h1.lt b (sub1 b hb)
  have hk:∀b,b<w.heap.size→(w.drew.alloc (.cells (olds.toArray++news.toArray++Builtin.zeroCells z.cells (cap-(n1+n2))) e)).heap[b]? =w.heap[b]? :=fun b hb=>F5 w.drew _ b hb
  have hsz:(olds.toArray++news.toArray++Builtin.zeroCells z.cells (cap-(n1+n2))).size=cap * ie.size:=by
   simp only [Array.size_append,List.size_toArray,Kb,hzs,l1,h2.len,←Nat.add_mul]
   congr 1
   omega
  obtain ⟨fp',k1,k2,k3⟩:=A5t (w:=w.drew.alloc (.cells (olds.toArray++news.toArray++Builtin.zeroCells z.cells (cap-(n1+n2))) e)) (row:=row) l1 h2.len r1 h2.rows hj
   (fun i j c hi hc=>(g1 i j c hi hc).move (fun b hb=>hk b ((g1 i j c hi hc).lt b hb)))
   (fun i j c hi hc=>(h2.rep i j c hi hc).move (fun b hb=>hk b ((h2.rep i j c hi hc).lt b hb)))
   nd1 hn2 (fun b hb=>hdis b (sub1 b hb)) w.heap.size 0 cap e _ (heap_alloc_new w.drew _) hge hcm (by rw [hsz];simp) (fun k hk'=>by
    rw [←Br]
    simp only [Array.toList_append,Nat.zero_mul,Nat.zero_add]
    rw [A1a,if_pos (by simp [l1,h2.len,←Nat.add_mul];exact hk')])
   (fun h=>Nat.lt_irrefl _ (hlt1 _ h)) (fun h=>Nat.lt_irrefl _ (hlt2 _ h))
  simp only [Nat.zero_mul] at k1
  refine ⟨fp',k1,k2,fun b hb=>?_,⟨rfl,rfl,rfl,by simp,fun k hk' _=>hk k hk'⟩⟩
  rcases k3 b hb with rfl|h|h
  ·exact .inr (.inr (Nat.le_refl _))
  ·exact .inl (sub1 b h)
  exact .inr (.inl h)
 have hfits:∀old,old<n1+n2→Builtin.nextslicecap (n1+n2) old * f.bytes≤281474976710656:=fun old ho=>by rw [S.bytes];exact growslice_fits ho hbytes
 generalize hc1:Ac.sl n1 ie.size row1=c1 at h1
 cases h1 with
 |val x h=>simp at hc1
 |nil es row'=>
  simp only [Ac.sl.injEq] at hc1
  obtain ⟨rfl,rfl,rfl⟩:=hc1
  by_cases h0:n2=0
  ·subst h0
   have hnews:news=[]:=List.eq_nil_of_length_eq_zero (by simpa using h2.len)
   refine ⟨.slice none 0 0,w,[],?_,⟨.nil _ _,by simp,by simp,⟨rfl,rfl,rfl,Nat.le_refl _,fun _ _ _=>rfl⟩⟩⟩
   have hl:=h2.lenOf (P:=P) w
   have hf:=h2.first (P:=P) (w':=w) (fun _=>rfl)
   rcases hu2 with hu2|hu2<;>simp [Builtin.append_,run_underlying hu,run_underlying hu2,Bq he,hl,hf,hnews]
  obtain ⟨fp',k⟩:=grow 0 [] (fun _=>[]) Ab Bw (fun i hi=>by omega) (fun i j c hi=>by omega) Bw Bw
  have hl:=h2.lenOf (P:=P) w
  have hf:=h2.first (P:=P) (w':=w.drew) (fun _=>rfl)
  refine ⟨_,_,fp',?_,k⟩
  have hz':=hfits 0 Ab
  have h63':¬ (9223372036854775807<(n2:Int)):=by omega
  simp only [Nat.zero_add] at hz' ⊢
  have h48':¬ (281474976710656<Builtin.nextslicecap n2 0 * f.bytes):=by omega
  rcases hu2 with hu2|hu2<;>simp [Builtin.append_,run_underlying hu,run_underlying hu2,Bq he,hl,h0,h63',typeInfo,S.hf,h48',Question.forced,run_firstCells_none,hf,zeroValue,S.hz,newRow,grownCap]
 |emp es row' b0 o0=>
  simp only [Ac.sl.injEq] at hc1
  obtain ⟨rfl,rfl,rfl⟩:=hc1
  by_cases h0:n2=0
  ·subst h0
   have hnews:news=[]:=List.eq_nil_of_length_eq_zero (by simpa using h2.len)
   refine ⟨.slice (some ⟨b0,o0,none⟩) 0 0,w,[],?_,⟨.emp _ _ b0 o0,by simp,by simp,⟨rfl,rfl,rfl,Nat.le_refl _,fun _ _ _=>rfl⟩⟩⟩
   have hl:=h2.lenOf (P:=P) w
   have hf:=h2.first (P:=P) (w':=w) (fun _=>rfl)
   rcases hu2 with hu2|hu2<;>simp [Builtin.append_,run_underlying hu,run_underlying hu2,Bq he,hl,hf,hnews,storeCells]
  obtain ⟨fp',k⟩:=grow 0 [] (fun _=>[]) Ab Bw (fun i hi=>by omega) (fun i j c hi=>by omega) Bw Bw
  have hl:=h2.lenOf (P:=P) w
  have hf:=h2.first (P:=P) (w':=w.drew) (fun _=>rfl)
  have hfo:=run_firstCells_some (P:=P) w.drew ie.size 0 ⟨b0,o0,none⟩ 0 0 [] Bw (fun j v hv=>by simp at hv)
  refine ⟨_,_,fp',?_,k⟩
  have hz':=hfits 0 Ab
  have h63':¬ (9223372036854775807<(n2:Int)):=by omega
  simp only [Nat.zero_add] at hz' ⊢
  have h48':¬ (281474976710656<Builtin.nextslicecap n2 0 * f.bytes):=by omega
  rcases hu2 with hu2|hu2<;>simp [Builtin.append_,run_underlying hu,run_underlying hu2,Bq he,hl,h0,h63',typeInfo,S.hf,h48',Question.forced,hfo,hf,zeroValue,S.hz,newRow,grownCap]
 |sl n es row' b off cap ty' cells fps hn hc hb hs hll hr=>
  simp only [Ac.sl.injEq] at hc1
  obtain ⟨rfl,rfl,rfl⟩:=hc1
  obtain ⟨hb0,hnd1⟩:=List.nodup_cons.1 hnd
  have Sb:∀k,k<n1 * ie.size→cells.getD (off * ie.size+k) undef=(((List.range (n1 * ie.size)).map fun k=>cells.getD (off * ie.size+k) undef)).getD k undef:=fun k hk=>by simp [List.getD,hk]
  have hreal:∀i j c,i<n1→(row1 i)[j]? =some c→C5 w c ((((List.range (n1 * ie.size)).map fun k=>cells.getD (off * ie.size+k) undef)).getD (i * ie.size+j) undef) (fps (i * ie.size+j)):=by
   intro i j c hi hcj
   have hjl:j<ie.size:=by have:=(List.getElem?_eq_some_iff.1 hcj).1;rw [hll i hi] at this;exact this
   rw [←Sb _ (Et hi hjl)]
   have:=hr i j c hi hcj
   rwa [show (off+i) * ie.size+j=off * ie.size+(i * ie.size+j) by rw [Nat.add_mul,Nat.add_assoc]] at this
  have hl:=h2.lenOf (P:=P) w
  by_cases hroom:n1+n2≤cap
  ·
   have hf:=h2.first (P:=P) (w':=w) (fun _=>rfl)
   have hfit:(off+n1) * ie.size+news.length≤cells.size:=by
    rw [h2.len,←Nat.add_mul]
    exact Nat.le_trans (Nat.mul_le_mul_right _ Ab) hs
   have hst:=run_storeCells_at P b ((off+n1) * ie.size) ty' news 0 cells w hb (by simpa using hfit) h2.one
   simp only [Nat.add_zero] at hst
   have hk:∀x,x≠b→(w.setRow b (cells.toList.take ((off+n1) * ie.size)++news++cells.toList.drop ((off+n1) * ie.size+news.length)).toArray).heap[x]? =w.heap[x]? :=fun x hx=>Ef w b x _ hx
   have hb2:b∉(List.range (n2 * ie.size)).flatMap fps2:=hdis b Bw
   obtain ⟨fp',k1,k2,k3⟩:=A5t (w:=w.setRow b (cells.toList.take ((off+n1) * ie.size)++news++cells.toList.drop ((off+n1) * ie.size+news.length)).toArray) (row:=row)
    (olds:=(List.range (n1 * ie.size)).map fun k=>cells.getD (off * ie.size+k) undef) Bw h2.len hll h2.rows hj
    (fun i j c hi hcj=>(hreal i j c hi hcj).move (fun x hx=>hk x (fun e=>by
     have hjl:j<ie.size:=by have:=(List.getElem?_eq_some_iff.1 hcj).1;rw [hll i hi] at this;exact this
     exact hb0 (e▸Dc (Et hi hjl) hx))))
    (fun i j c hi hcj=>(h2.rep i j c hi hcj).move (fun x hx=>hk x (fun e=>by
     have hjl:j<ie.size:=by have:=(List.getElem?_eq_some_iff.1 hcj).1;rw [h2.rows i hi] at this;exact this
     exact hb2 (e▸Dc (Et hi hjl) hx))))
    hnd1 hn2 (fun x hx=>hdis x (List.mem_cons_of_mem _ hx)) b off cap ty' _ (setRow_heap w b cells _ ty' (0,0) hb) hroom hc (by
     simp only [List.size_toArray,List.length_append,List.length_take,List.length_drop,Array.length_toList]
     omega)
    (fun k hk'=>by
     rw [←Br]
     simp only [List.getD]
     have e1:(List.take ((off+n1) * ie.size) cells.toList).length=(off+n1) * ie.size:=by simp;omega
     have e2:(off+n1) * ie.size=off * ie.size+n1 * ie.size:=Nat.add_mul _ _ _
     by_cases hkn:k<n1 * ie.size
     ·rw [List.append_assoc,List.getElem?_append_left (by rw [e1];omega),List.getElem?_append_left (by simp;exact hkn)]
      have:off * ie.size+k<cells.size:=by omega
      simp [hkn,show off * ie.size+k<(off+n1) * ie.size by omega,Array.getD,this]
     rw [List.append_assoc,List.getElem?_append_right (by rw [e1];omega),e1,List.getElem?_append_left (by rw [h2.len];rw [Nat.add_mul] at hk';omega),
      List.getElem?_append_right (by simp;omega)]
     simp only [List.length_map,List.length_range]
     rw [show off * ie.size+k-(off+n1) * ie.size=k-n1 * ie.size by omega])
    hb0 hb2
   refine ⟨_,_,fp',?_,k1,k2,fun x hx=>?_,⟨rfl,rfl,rfl,by simp,fun k _ hk'=>hk k (fun e=>hk' (by simp [e]))⟩⟩
   ·have hadd:((⟨b,off * ie.size,none⟩:Addr).add (n1 * ie.size))=⟨b,(off+n1) * ie.size,none⟩:=by rw [Gi,Nat.add_mul]
    rcases hu2 with hu2|hu2<;>simp [Builtin.append_,run_underlying hu,run_underlying hu2,Bq he,hl,hroom,hf,hadd,hst]
   rcases k3 x hx with rfl|h|h
   ·exact .inl Bw
   ·exact .inl (List.mem_cons_of_mem _ h)
   exact .inr (.inl h)
  obtain ⟨fp',k⟩:=grow cap ((List.range (n1 * ie.size)).map fun k=>cells.getD (off * ie.size+k) undef) fps Ab Bw hll hreal hnd1 (fun x hx=>List.mem_cons_of_mem _ hx)
  have hf:=h2.first (P:=P) (w':=w.drew) (fun _=>rfl)
  have hfo:=run_firstCells_some (P:=P) w.drew ie.size n1 ⟨b,off * ie.size,none⟩ n1 cap ((List.range (n1 * ie.size)).map fun k=>cells.getD (off * ie.size+k) undef) Bw (fun j v hv=>by
   have hjl:j<n1 * ie.size:=by simpa using (List.getElem?_eq_some_iff.1 hv).1
   have hlt:off * ie.size+j<cells.size:=by
    have:=Nat.mul_le_mul_right ie.size (show off+n1≤off+cap by omega)
    rw [Nat.add_mul] at this
    omega
   rw [Gi,A63,cell_of_row w b _ cells ty' (0,0) hb]
   simp only [List.getElem?_map,hjl,Option.map_some,Option.some.injEq,List.getElem?_range] at hv
   rw [←hv]
   simp [Array.getD,hlt])
  refine ⟨_,_,fp',?_,k⟩
  have h63':¬ (9223372036854775807<((n1:Int)+(n2:Int))):=by omega
  have hz':=hfits cap Ab
  have h48':¬ (281474976710656<Builtin.nextslicecap (n1+n2) cap * f.bytes):=by omega
  rcases hu2 with hu2|hu2<;>simp [Builtin.append_,run_underlying hu,run_underlying hu2,Bq he,hl,hroom,h63',typeInfo,S.hf,h48',Question.forced,hfo,hf,zeroValue,S.hz,newRow,grownCap]
  all_goals (congr 2;apply Array.ext';simp [List.append_assoc])
end Go.Sx
namespace Go.Sx
open Go.RowKit (Below)
variable {P : Program} {T : List (TypeId × TI)}
def R8 (k:Nat) (l:List Nat):Bool:=
 match l with
 | []=>false
 |x::r=>Nat.beq x k||R8 k r
theorem Ff {k:Nat}{l:List Nat}:R8 k l=true↔k∈l:=by
 induction l with
 |nil=>simp [R8]
 |cons x r ih=>
  simp only [R8,Bool.or_eq_true,ih,List.mem_cons]
  constructor
  ·rintro (h|h)
   ·exact .inl (Nat.eq_of_beq_eq_true h).symm
   exact .inr h
  rintro (rfl|h)
  ·exact .inl Bw
  exact .inr h
def Bk (ks:List Nat) (l:List Ow):List Ow:=
 match l with
 | []=>[]
 |o::r=>match R8 o.key ks with
  |true=>Bk ks r
  |false=>o::Bk ks r
theorem C4 {ks:List Nat}{l:List Ow}{o:Ow}:o∈Bk ks l↔o∈l∧o.key∉ks:=by
 induction l with
 |nil=>simp [Bk]
 |cons x r ih=>
  unfold Bk
  split
  ·rename_i h
   have:=Ff.1 h
   rw [ih,List.mem_cons]
   exact ⟨fun h=>⟨.inr h.1,h.2⟩,fun h=>⟨h.1.resolve_left (fun e=>h.2 (e▸this)),h.2⟩⟩
  rename_i h
  have:x.key∉ks:=fun hm=>by rw [Ff.2 hm] at h;simp at h
  rw [List.mem_cons,ih,List.mem_cons]
  exact ⟨fun h=>by rcases h with rfl|h;exact ⟨.inl rfl,this⟩;exact ⟨.inr h.1,h.2⟩,fun h=>h.1.imp id (fun h'=>⟨h',h.2⟩)⟩
theorem Sm {ks:List Nat}{l:List Ow}(h:(l.map (·.key)).Nodup):((Bk ks l).map (·.key)).Nodup:=by
 induction l with
 |nil=>simp [Bk]
 |cons x r ih=>
  simp only [List.map_cons,List.nodup_cons] at h
  unfold Bk
  split
  ·exact ih h.2
  simp only [List.map_cons,List.nodup_cons]
  refine ⟨fun hm=>h.1 ?_,ih h.2⟩
  obtain ⟨o,ho,e⟩:=List.mem_map.1 hm
  exact List.mem_map.2 ⟨o,(C4.1 ho).1,e⟩
theorem AS.is.drop {s:AS}{B:Ax}{E:Cv}{a:Act}{w:World}(h:s.is B E a w)(ks:List Nat):({s with own:=Bk ks s.own}:AS).isA B E (s.avoid E) a w:=by
 have av:∀b,({s with own:=Bk ks s.own}:AS).avoid E b→s.avoid E b:=by
  rintro b (h|⟨y,hy,hb⟩)
  ·exact .inl h
  exact .inr ⟨y,(C4.1 hy).1,hb⟩
 exact ⟨h.defers,h.links,h.size,h.slots,h.boxes,h.boxes2,h.keys,fun y hy=>h.own y (C4.1 hy).1,Sm h.ownkeys,
  fun y hy z hz=>h.sep y (C4.1 hy).1 z (C4.1 hz).1,fun x hx y hy=>h.sepB x hx y (C4.1 hy).1,h.one,h.base,fun b hb=>h.fresh b (av b hb),av⟩
theorem AS.isA.kept {s:AS}{B:Ax}{E:Cv}{A X:Nat→Prop}{a:Act}{w w':World}(h:s.isA B E A a w)(hk:A6e X w w')(hX:∀b,X b→A b∧¬ s.avoid E b∧B.fresh b):
  s.isA B E (fun b=>A b∨w.heap.size≤b) a w':=by
 have mv:∀x v,Cm E w A s.next x v→Cm E w' (fun b=>A b∨w.heap.size≤b) s.next x v:=fun x v hx=>
  hx.move (Nat.le_refl _) (fun _ _=>⟨rfl,rfl⟩) (fun b hA hl=>hk.block b hl (fun hx=>hA (hX b hx).1)) (fun b hl hA=>by
   rcases hA with h|h
   ·exact h
   omega)
 refine ⟨h.defers,h.links,h.size,fun i x hx=>mv _ _ (h.slots i x hx),fun x hx=>?_,h.boxes2,h.keys,fun y hy=>?_,h.ownkeys,h.sep,h.sepB,h.one,?_,h.fresh,fun b hb=> .inl (h.sub b hb)⟩
 ·obtain ⟨h1,vs,ty,h2,h3,h4⟩:=h.boxes x hx
  refine ⟨h1,vs,ty,?_,h3,fun i y hy=>mv _ _ (h4 i y hy)⟩
  rw [hk.block _ (Array.getElem?_eq_some_iff.1 h2).1 (fun hX'=>(hX _ hX').2.1 (.inl ⟨x,hx,rfl⟩))]
  exact h2
 ·obtain ⟨h1,h2,h3⟩:=h.own y hy
  exact ⟨h1,h2.move (fun b hb=>hk.block b (h2.lt b hb) (fun hX'=>(hX b hX').2.1 (.inr ⟨y,hy,hb⟩))),h3⟩
 have hB:=h.base
 refine ⟨hk.os.trans hB.os,hk.tape.trans hB.tape,hk.output.trans hB.output,Nat.le_trans hB.size hk.size,fun k hl hm=>?_⟩
 rw [hk.block k (Nat.lt_of_lt_of_le hl hB.size) (fun hX'=>by
  rcases (hX k hX').2.2 with h|h
  ·omega
  exact hm h)]
 exact hB.block k hl hm
def A47 (own:List Ow) (x:AV) (es:Nat):Option (Nat×(Nat→List Ac)×List Nat):=
 match x with
 | .own k=>match Bs own k with
  |some (.sl n e row)=>match Nat.beq e es with
   |true=>some (n,row,[k])
   |false=>none
  |_=>none
 | .c (.val (.slice none 0 0))=>some (0,fun _=>[],[])
 |_=>none
def A58 (own:List Ow) (x:AV) (es:Nat):Option (Nat×(Nat→List Ac)×List Nat):=
 match x with
 | .own k=>match Bs own k with
  |some (.sl n e row)=>match Nat.beq e es with
   |true=>some (n,row,[k])
   |false=>none
  |_=>none
 | .c (.val (.slice none 0 0))=>some (0,fun _=>[],[])
 | .c (.sl n e row)=>match Nat.beq e es with
  |true=>some (n,row,[])
  |false=>none
 | .c (.val (.string b))=>match Nat.beq es 1 with
  |true=>some (b.size,fun i=>[.val (.int .u8 (b.data.getD i 0).toNat)],[])
  |false=>none
 |_=>none
def Pt (n1 n2 es:Nat) (row1 row2:Nat→List Ac) (c:Ac):Prop:=∃row,c= .sl (n1+n2) es row∧A8p n1 n2 row1 row2 row
def E4 (n:Nat) (row:Nat→List Ac):Prop:=∀i,i<n→∀c∈row i,∃x,c= .val x
theorem A64 {B:Ax}{E:Cv}{s:AS}{a:Act}{w:World}(h:s.is B E a w){x:AV}{v:Value}(hd:Cm E w (s.avoid E) s.next x v){n es:Nat}{row:Nat→List Ac}{ks:List Nat}
  (hx:A47 s.own x es=some (n,row,ks)):∃row' fp,C5 w (.sl n es row') v fp∧(∀i,i<n→row' i=row i)∧fp.Nodup∧fp=ks.flatMap E.fp∧∀k∈ks,∃y∈s.own,y.key=k:=by
 unfold A47 at hx
 split at hx
 ·rename_i k
  split at hx
  ·rename_i n' e' row' hg
   split at hx
   ·rename_i he
    obtain rfl:=Nat.eq_of_beq_eq_true he
    simp only [Option.some.injEq,Prod.mk.injEq] at hx
    obtain ⟨rfl,rfl,rfl⟩:=hx
    have hm:=C2 hg
    cases hd with
    |own hk=>
     obtain ⟨_,h2,h3⟩:=h.own _ hm
     exact ⟨_,_,h2,fun _ _=>rfl,h3,by simp,fun j hj=>by simp at hj;subst hj;exact ⟨_,hm,rfl⟩⟩
   simp at hx
  simp at hx
 ·simp only [Option.some.injEq,Prod.mk.injEq] at hx
  obtain ⟨rfl,rfl,rfl⟩:=hx
  have e:=Bc hd
  subst e
  exact ⟨_,[],.nil es _,fun _ _=>rfl,by simp,by simp,by simp⟩
 simp at hx
theorem H7 {α:Type}(l:List α):l.flatMap (fun _=>([]:List Nat))=[]:=by
 induction l with
 |nil=>rfl
 |cons x l ih=>simp
theorem A77 {B:Ax}{E:Cv}{s:AS}{a:Act}{w:World}(h:s.is B E a w){x:AV}{v:Value}(hd:Cm E w (s.avoid E) s.next x v){n es:Nat}{row:Nat→List Ac}{ks:List Nat}
  (hx:A58 s.own x es=some (n,row,ks))(hf:ks=[]→E4 n row):∃news fps,Src w v n es row news fps∧((List.range (n * es)).flatMap fps).Nodup∧(∀b∈(List.range (n * es)).flatMap fps,b∈ks.flatMap E.fp)∧
   ∀k∈ks,∃y∈s.own,y.key=k:=by
 have nilc:∀(row:Nat→List Ac),Src w (.slice none 0 0) 0 es row [] (fun _=>[]):=fun row=>⟨by simp,fun i hi=>by omega,.inl ⟨rfl,rfl⟩,fun i j c hi=>by omega⟩
 unfold A58 at hx
 split at hx
 ·rename_i k
  split at hx
  ·rename_i n' e' row' hg
   split at hx
   ·rename_i he
    obtain rfl:=Nat.eq_of_beq_eq_true he
    simp only [Option.some.injEq,Prod.mk.injEq] at hx
    obtain ⟨rfl,rfl,rfl⟩:=hx
    have hm:=C2 hg
    cases hd with
    |own hk=>
     obtain ⟨_,h2,h3⟩:=h.own _ hm
     have keys:∀j∈[k],∃y∈s.own,y.key=j:=fun j hj=>by simp at hj;subst hj;exact ⟨_,hm,rfl⟩
     simp only at h2 h3
     generalize hv:E.ov k=v,hfp:E.fp k=fp at h2
     rw [hfp] at h3
     cases h2 with
     |nil=>exact ⟨[],fun _=>[],nilc _,by simp,by simp,keys⟩
     |emp _ _ b0 o0=>exact ⟨[],fun _=>[],⟨by simp,fun i hi=>by omega,.inr (.inr (.inl ⟨b0,o0,0,rfl,fun j hj=>by simp at hj⟩)),fun i j c hi=>by omega⟩,by simp,by simp,keys⟩
     |sl _ _ _ b off cap ty cells fps hn hc hb hs hl hr=>
      obtain ⟨h4,h5⟩:=List.nodup_cons.1 h3
      refine ⟨(List.range (n' * e')).map fun k=>cells.getD (off * e'+k) undef,fps,⟨by simp,hl,.inr (.inr (.inl ⟨b,off * e',cap,rfl,fun j hj=>?_⟩)),fun i j c hi hcj=>?_⟩,h5,fun x hx=>?_,keys⟩
      ·have hlt:off * e'+j<cells.size:=by
        have:=Nat.mul_le_mul_right e' (show off+n'≤off+cap by omega)
        rw [Nat.add_mul] at this
        omega
       rw [cell_of_row w b _ cells ty (0,0) hb]
       simp [List.getD,hj,Array.getD,hlt]
      ·have hjl:j<e':=by have:=(List.getElem?_eq_some_iff.1 hcj).1;rw [hl i hi] at this;exact this
       have:=hr i j c hi hcj
       rw [show (off+i) * e'+j=off * e'+(i * e'+j) by rw [Nat.add_mul,Nat.add_assoc]] at this
       simpa [List.getD,Et hi hjl] using this
      simp [hfp,hx]
   simp at hx
  simp at hx
 ·simp only [Option.some.injEq,Prod.mk.injEq] at hx
  obtain ⟨rfl,rfl,rfl⟩:=hx
  have e:=Bc hd
  subst e
  exact ⟨[],fun _=>[],nilc _,by simp,by simp,by simp⟩
 ·rename_i n' e' row'
  split at hx
  ·rename_i he
   obtain rfl:=Nat.eq_of_beq_eq_true he
   simp only [Option.some.injEq,Prod.mk.injEq] at hx
   obtain ⟨rfl,rfl,rfl⟩:=hx
   have hf:=hf rfl
   cases hd with
   |c hr=>
    cases hr with
    |nil=>exact ⟨[],fun _=>[],nilc _,by simp,by simp,by simp⟩
    |emp _ _ a=>exact ⟨[],fun _=>[],⟨by simp,fun i hi=>by omega,.inr (.inl ⟨a,rfl,rfl⟩),fun i j c hi=>by omega⟩,by simp,by simp,by simp⟩
    |sl _ _ _ b off cap u hA hn hc hl hu hr=>
     refine ⟨(List.range (n' * e')).map fun k=>u (k / e') (k % e'),fun _=>[],⟨by simp,hl,.inr (.inr (.inl ⟨b,off,cap,rfl,fun j hj=>?_⟩)),fun i j c hi hcj=>?_⟩,by rw [H7];exact List.nodup_nil,by rw [H7];simp,by simp⟩
     ·have he:0<e':=Nat.pos_of_ne_zero (fun h=>by subst h;simp at hj)
      have hi:j / e'<n':=Nat.div_lt_of_lt_mul (by rw [Nat.mul_comm];exact hj)
      have:=hu (j / e') (j % e') hi (Nat.mod_lt _ he)
      rw [show off+j / e' * e'+j % e'=off+j by rw [Nat.add_assoc,Nat.mul_comm (j / e'),Nat.div_add_mod]] at this
      simp [List.getD,hj,this]
     have hjl:j<e':=by have:=(List.getElem?_eq_some_iff.1 hcj).1;rw [hl i hi] at this;exact this
     have he:0<e':=by omega
     have h1:(i * e'+j) / e'=i:=by rw [Nat.mul_comm,Nat.mul_add_div he,Nat.div_eq_of_lt hjl];omega
     have h2:(i * e'+j) % e'=j:=by rw [Nat.mul_comm,Nat.mul_add_mod];exact Nat.mod_eq_of_lt hjl
     obtain ⟨x,rfl⟩:=hf i hi c (List.mem_of_getElem? hcj)
     have hone:=(hr i j _ hi hcj).one
     have hval:u i j=x:=by have:=hr i j _ hi hcj;cases this;rfl
     simp only [List.getD,List.getElem?_map,List.getElem?_range,Et hi hjl,Option.map_some,Option.getD_some,h1,h2]
     rw [hval] at hone ⊢
     exact .val x hone
  simp at hx
 ·rename_i b
  split at hx
  ·rename_i he
   obtain rfl:=Nat.eq_of_beq_eq_true he
   simp only [Option.some.injEq,Prod.mk.injEq] at hx
   obtain ⟨rfl,rfl,rfl⟩:=hx
   have e:=Bc hd
   subst e
   refine ⟨b.data.toList.map fun b=> .int .u8 b.toNat,fun _=>[],⟨by rw [List.length_map,Nat.mul_one];exact Array.length_toList,fun _ _=>rfl,.inr (.inr (.inr ⟨b,rfl,rfl,rfl,rfl⟩)),fun i j c hi hcj=>?_⟩,by rw [H7];exact List.nodup_nil,by rw [H7];simp,by simp⟩
   obtain rfl:j=0:=by
    have:=(List.getElem?_eq_some_iff.1 hcj).1
    simpa using this
   simp only [List.getElem?_cons_zero,Option.some.injEq] at hcj
   subst hcj
   have hi':i<b.data.size:=hi
   have e:(b.data.toList.map fun b=>Value.int .u8 b.toNat).getD (i * 1+0) undef= .int .u8 (b.data.getD i 0).toNat:=by
    rw [Nat.mul_one,Nat.add_zero,List.getD,List.getElem?_map,Array.getElem?_toList,Array.getElem?_eq_getElem hi',Array.getD_eq_getD_getElem?,Array.getElem?_eq_getElem hi']
    rfl
   rw [e]
   exact .val _ rfl
  simp at hx
 simp at hx
theorem A82 (hT:C7 P T){B:Ax}{Q:Exit→Act→World→Prop}{q:Bool}{all:Array Oper}{o:Oper}{rest:List Oper}{K:List KI}{s:AS}{x y:Operand}{t t' e e2:TypeId}{i j:TI}
  (hg:o.guard=none)(ho:o.op= .call {callee:= .builtin .append,args:= #[x,y],argTypes:= #[t,t']})(htt:P.underlying t'=some (.slice e2)∨P.underlying t'=some .string)
  (hi:find T t=some i)(he:i.elem=some e)(hj:find T e=some j)(hp:Nat.blt 0 j.size=true)
  {n1 n2:Nat}{row1 row2:Nat→List Ac}{ks1 ks2:List Nat}(hd:A47 s.own (s.ev x) j.size=some (n1,row1,ks1))(hs:A58 s.own (s.ev y) j.size=some (n2,row2,ks2))
  (hk:Fu (ks1++ks2)=true)(c:Ac)(hc:Pt n1 n2 j.size row1 row2 c)(hf:ks2=[]→E4 n2 row2)
  (hb:n1+n2≤549755813888∧Nat.ble j.bytes 256=true)
  (h:G P B Q (.ops q all rest::K) (({s with own:=⟨s.next,c⟩::Bk (ks1++ks2) s.own,next:=s.next+1}:AS).put o.dst (.own s.next))):G P B Q (.ops q all (o::rest)::K) s:=by
 refine Gj hg (by rw [ho];simp [Dj]) (fun E a w hs'=>?_)
 obtain ⟨row1',fp,h1,h2,h3,h4,h5⟩:=A64 hs' (hs'.ev x) hd
 obtain ⟨news,fps2,g1,g2,g3,g4⟩:=A77 hs' (hs'.ev y) hs hf
 obtain ⟨row,rfl,hJ⟩:=hc
 have hnd:=Dq hk
 obtain ⟨hnd1,hnd2,hnd3⟩:=List.nodup_append.1 hnd
 have hdis:∀b∈fp,b∉(List.range (n2 * j.size)).flatMap fps2:=by
  intro b hb hb'
  rw [h4] at hb
  obtain ⟨k,hk1,hb1⟩:=List.mem_flatMap.1 hb
  obtain ⟨l,hl1,hb2⟩:=List.mem_flatMap.1 (g3 b hb')
  obtain ⟨y1,hy1,rfl⟩:=h5 k hk1
  obtain ⟨y2,hy2,rfl⟩:=g4 l hl1
  exact hs'.sep y1 hy1 y2 hy2 (hnd3 _ hk1 _ hl1) b hb1 hb2
 have hlt2:∀b∈(List.range (n2 * j.size)).flatMap fps2,b<w.heap.size:=by
  intro b hb
  obtain ⟨l,hl1,hb2⟩:=List.mem_flatMap.1 (g3 b hb)
  obtain ⟨y2,hy2,rfl⟩:=g4 l hl1
  exact (hs'.own y2 hy2).2.1.lt b hb2
 obtain ⟨hb1,hb2⟩:=hb
 have hb2:=Nat.le_of_ble_eq_true hb2
 obtain ⟨v',w',fp',hrun,hA⟩:=Ve (P:=P) (ty:=o.type) (row:=row) (Ch (hT t i hi) he) htt (hT e j hj) h1 h3 g1 g2 hdis hlt2 ⟨fun i hi=>(hJ.1 i hi).trans (h2 i hi).symm,hJ.2⟩ (Fp hp)
  (by simp only [maxLen];omega) (Nat.le_trans (Nat.mul_le_mul hb1 hb2) Ab)
 have hI:=hs'.drop (ks1++ks2)
 have key:∀b,(b∈fp∨b∈(List.range (n2 * j.size)).flatMap fps2)→s.avoid E b∧¬ ({s with own:=Bk (ks1++ks2) s.own}:AS).avoid E b:=by
  intro b hb
  have:∃k∈ks1++ks2,∃y∈s.own,y.key=k∧b∈E.fp k:=by
   rcases hb with hb|hb
   ·rw [h4] at hb
    obtain ⟨k,hk1,hb1⟩:=List.mem_flatMap.1 hb
    obtain ⟨y1,hy1,e⟩:=h5 k hk1
    exact ⟨k,List.mem_append_left _ hk1,y1,hy1,e,hb1⟩
   obtain ⟨l,hl1,hb2⟩:=List.mem_flatMap.1 (g3 b hb)
   obtain ⟨y2,hy2,e⟩:=g4 l hl1
   exact ⟨l,List.mem_append_right _ hl1,y2,hy2,e,hb2⟩
  obtain ⟨k,hk1,y,hy,rfl,hb⟩:=this
  refine ⟨.inr ⟨y,hy,hb⟩,?_⟩
  rintro (⟨z,hz,rfl⟩|⟨z,hz,hb'⟩)
  ·exact hs'.sepB z hz y hy hb
  obtain ⟨hz1,hz2⟩:=C4.1 hz
  exact hs'.sep y hy z hz1 (fun e=>hz2 (e▸hk1)) b hb hb'
 have hI2:=hI.kept hA.kept (fun b hb=>⟨(key b (.inl hb)).1,(key b (.inl hb)).2,hs'.fresh b (key b (.inl hb)).1⟩)
 obtain ⟨k1,k2⟩:=hI2.addOwn hA.own hA.nodup (fun b hb=>by
  rcases hA.sub b hb with h|h|h
  ·exact ⟨.inl (key b (.inl h)).1,(key b (.inl h)).2,hs'.fresh b (key b (.inl h)).1⟩
  ·exact ⟨.inl (key b (.inr h)).1,(key b (.inr h)).2,hs'.fresh b (key b (.inr h)).1⟩
  refine ⟨.inr h,fun hav=>?_,.inl (Nat.le_trans hs'.base.size h)⟩
  have:=hs'.avoid_lt (hI.sub b hav)
  omega)
 have hput:=(k1.put o.dst k2).is
 refine ⟨v',w',.inl ?_,fun hk=>(by rw [ho] at hk;simp [Dj] at hk),h _ _ _ hput⟩
 obtain ⟨dst,op',ty,pos,after,guard⟩:=o
 simp only at ho
 subst ho
 simp only at hrun
 simp [execOp,resolve,invoke,builtin,hrun]
end Go.Sx
namespace Go.Sx
open Go.RowKit (Below)
variable {P : Program} {T : List (TypeId × TI)}
def Cv.setFp (E:Cv) (n:Nat) (fp:List Nat):Cv:= {E with fp:=fun k=>if k=n then fp else E.fp k}
theorem AS.isA.addAt {s:AS}{B:Ax}{E:Cv}{A:Nat→Prop}{a:Act}{w:World}(h:s.isA B E A a w){k:Nat}(hk:k<s.next)(hn:∀y∈s.own,y.key≠k){c:Ac}{fp:List Nat}
  (ho:C5 w c (E.ov k) fp)(hnd:fp.Nodup)(hA:∀b∈fp,A b∧¬ s.avoid E b∧B.fresh b):({s with own:=⟨k,c⟩::s.own}:AS).isA B (E.setFp k fp) A a w:=by
 have kfp:∀y∈s.own,(E.setFp k fp).fp y.key=E.fp y.key:=fun y hy=>by simp [Cv.setFp,hn y hy]
 have kfn:(E.setFp k fp).fp k=fp:=by simp [Cv.setFp]
 have av:∀b,({s with own:=⟨k,c⟩::s.own}:AS).avoid (E.setFp k fp) b→b∈fp∨s.avoid E b:=by
  rintro b (⟨x,hx,rfl⟩|⟨y,hy,hb⟩)
  ·exact .inr (.inl ⟨x,hx,rfl⟩)
  rcases List.mem_cons.1 hy with rfl|hy
  ·rw [kfn] at hb;exact .inl hb
  rw [kfp y hy] at hb;exact .inr (.inr ⟨y,hy,hb⟩)
 have mv:∀x v',Cm E w A s.next x v'→Cm (E.setFp k fp) w A s.next x v':=fun x v' hx=>hx.move (Nat.le_refl _) (fun _ _=>⟨rfl,rfl⟩) (fun _ _ _=>rfl) (fun _ _ hb=>hb)
 refine ⟨h.defers,h.links,h.size,fun i x hx=>mv _ _ (h.slots i x hx),fun x hx=>?_,h.boxes2,h.keys,fun y hy=>?_,?_,?_,?_,h.one,h.base,fun b hb=>?_,fun b hb=>?_⟩
 ·obtain ⟨h1,vs,ty,h2,h3,h4⟩:=h.boxes x hx
  exact ⟨h1,vs,ty,h2,h3,fun i y hy=>mv _ _ (h4 i y hy)⟩
 ·rcases List.mem_cons.1 hy with rfl|hy
  ·exact ⟨hk,by rw [kfn];exact ho,by rw [kfn];exact hnd⟩
  obtain ⟨h1,h2,h3⟩:=h.own y hy
  rw [kfp y hy]
  exact ⟨h1,h2,h3⟩
 ·simp only [List.map_cons,List.nodup_cons]
  refine ⟨fun hm=>?_,h.ownkeys⟩
  obtain ⟨y,hy,e⟩:=List.mem_map.1 hm
  exact hn y hy e
 ·intro y hy z hz hne b hb hb'
  rcases List.mem_cons.1 hy with rfl|hy<;>rcases List.mem_cons.1 hz with rfl|hz
  ·exact hne rfl
  ·rw [kfn] at hb
   rw [kfp z hz] at hb'
   exact (hA b hb).2.1 (.inr ⟨z,hz,hb'⟩)
  ·rw [kfp y hy] at hb
   rw [kfn] at hb'
   exact (hA b hb').2.1 (.inr ⟨y,hy,hb⟩)
  rw [kfp y hy] at hb
  rw [kfp z hz] at hb'
  exact h.sep y hy z hz hne b hb hb'
 ·intro x hx y hy hb
  rcases List.mem_cons.1 hy with rfl|hy
  ·rw [kfn] at hb
   exact (hA _ hb).2.1 (.inl ⟨x,hx,rfl⟩)
  rw [kfp y hy] at hb
  exact h.sepB x hx y hy hb
 ·rcases av b hb with hb|hb
  ·exact (hA b hb).2.2
  exact h.fresh b hb
 rcases av b hb with hb|hb
 ·exact (hA b hb).1
 exact h.sub b hb
def Mq (own:List Ow) (l:List AV):Option (List Ac×List Nat):=
 match l with
 | []=>some ([],[])
 | .c (.val v)::r=>match Mq own r with
  |some (cs,ks)=>some (.val v::cs,ks)
  |none=>none
 | .own k::r=>match Bs own k,Mq own r with
  |some c,some (cs,ks)=>some (c::cs,k::ks)
  |_,_=>none
 |_=>none
def D4 (l:List Ac) (off:Nat) (xs:List Ac):List Ac:=l.take off++xs++l.drop (off+xs.length)
def O8 (n es:Nat) (row:Nat→List Ac) (j off:Nat) (cs:List Ac) (c:Ac):Prop:=
 ∃row',c= .sl n es row'∧(∀i,i<n→i≠j→row' i=row i)∧row' j=D4 (row j) off cs
theorem Uy {B:Ax}{E:Cv}{s:AS}{a:Act}{w:World}(h:s.is B E a w):∀{l:List AV} {cs:List Ac} {ks:List Nat},Mq s.own l=some (cs,ks)→ks.Nodup→∀{vs:List Value},vs.length=l.length→
  (∀i x,l[i]? =some x→Cm E w (s.avoid E) s.next x (vs.getD i undef))→
  cs.length=l.length∧(∀k∈ks,∃y∈s.own,y.key=k)∧∃gps:Nat→List Nat,(∀i c,cs[i]? =some c→C5 w c (vs.getD i undef) (gps i))∧((List.range cs.length).flatMap gps).Nodup∧
   ∀b∈(List.range cs.length).flatMap gps,b∈ks.flatMap E.fp:=by
 intro l
 induction l with
 |nil=>
  intro cs ks hc _ vs _ _
  simp only [Mq,Option.some.injEq,Prod.mk.injEq] at hc
  obtain ⟨rfl,rfl⟩:=hc
  exact ⟨rfl,by simp,fun _=>[],by simp,by simp,by simp⟩
 |cons x l ih=>
  intro cs ks hc hnd vs hl hv
  match vs,hl with
  |v::vs,hl=>
   have rest:∀{cs' ks'},Mq s.own l=some (cs',ks')→ks'.Nodup→_:=fun h1 h2=>ih h1 h2 (vs:=vs) (by simpa using hl) (fun i y hy=>by simpa using hv (i+1) y (by simpa using hy))
   have glue:∀(c:Ac) (cs':List Ac) (gps:Nat→List Nat) (g0:List Nat),(List.range (c::cs').length).flatMap (fun i=>match i with| 0=>g0|i+1=>gps i)=g0++(List.range cs'.length).flatMap gps:=by
    intro c cs' gps g0
    simp [List.range_succ_eq_map,List.flatMap_cons,List.flatMap_map]
   unfold Mq at hc
   split at hc
   ·rename_i heq;simp at heq
   ·rename_i v' r heq
    simp only [List.cons.injEq] at heq
    obtain ⟨rfl,rfl⟩:=heq
    split at hc
    ·rename_i cs' ks' hr
     simp only [Option.some.injEq,Prod.mk.injEq] at hc
     obtain ⟨rfl,rfl⟩:=hc
     obtain ⟨h1,h2,gps,h3,h4,h5⟩:=rest hr hnd
     have hd:=hv 0 _ rfl
     simp only [List.getD_cons_zero] at hd
     refine ⟨by simp [h1],h2,fun i=>match i with| 0=>[]|i+1=>gps i,fun i c hi=>?_,?_,?_⟩
     ·cases i with
      |zero=>
       simp only [List.getElem?_cons_zero,Option.some.injEq] at hi
       subst hi
       have e:=Bc hd
       subst e
       cases hd with
       |c hr'=>exact .val _ hr'.one
      |succ i=>simpa using h3 i c (by simpa using hi)
     ·rw [glue];simpa using h4
     rw [glue];simpa using h5
    simp at hc
   ·rename_i k r heq
    simp only [List.cons.injEq] at heq
    obtain ⟨rfl,rfl⟩:=heq
    split at hc
    ·rename_i c' cs' ks' hg hr
     simp only [Option.some.injEq,Prod.mk.injEq] at hc
     obtain ⟨rfl,rfl⟩:=hc
     obtain ⟨n1,n2⟩:=List.nodup_cons.1 hnd
     obtain ⟨h1,h2,gps,h3,h4,h5⟩:=rest hr n2
     have hm:=C2 hg
     obtain ⟨_,o2,o3⟩:=h.own _ hm
     have hd:=hv 0 _ rfl
     simp only [List.getD_cons_zero] at hd
     refine ⟨by simp [h1],fun j hj=>?_,fun i=>match i with| 0=>E.fp k|i+1=>gps i,fun i c hi=>?_,?_,?_⟩
     ·rcases List.mem_cons.1 hj with rfl|hj
      ·exact ⟨_,hm,rfl⟩
      exact h2 j hj
     ·cases i with
      |zero=>
       simp only [List.getElem?_cons_zero,Option.some.injEq] at hi
       subst hi
       generalize v=u at hd
       cases hd with
       |own hk=>simpa using o2
      |succ i=>simpa using h3 i c (by simpa using hi)
     ·rw [glue]
      refine List.nodup_append.2 ⟨o3,h4,fun x hx y hy e=>?_⟩
      subst e
      obtain ⟨k2,hk2,hx2⟩:=List.mem_flatMap.1 (h5 x hy)
      obtain ⟨y2,hy2,rfl⟩:=h2 k2 hk2
      exact h.sep _ hm y2 hy2 (fun e=>n1 (by simp only at e;rw [e];exact hk2)) x hx hx2
     rw [glue]
     intro b hb
     rcases List.mem_append.1 hb with hb|hb
     ·exact List.mem_flatMap.2 ⟨k,by simp,hb⟩
     obtain ⟨k2,hk2,hb2⟩:=List.mem_flatMap.1 (h5 b hb)
     exact List.mem_flatMap.2 ⟨k2,by simp [hk2],hb2⟩
    simp at hc
   simp at hc
theorem A7x {w:World}{n es:Nat}{row:Nat→List Ac}{b off cap:Nat}{ty:TypeId}{cells:Array Value}{fps:Nat→List Nat}(hn:n≤cap)(hc:cap≤maxLen)
  (hb:w.heap[b]? =some (.cells cells ty (0,0)))(hs:(off+cap) * es≤cells.size)(hl:∀i,i<n→(row i).length=es)
  (hr:∀i j c,i<n→(row i)[j]? =some c→C5 w c (cells.getD ((off+i) * es+j) undef) (fps (i * es+j)))
  (hnd:(b::(List.range (n * es)).flatMap fps).Nodup)
  {j o:Nat}(hj:j<n){cs:List Ac}{vs:List Value}{gps:Nat→List Nat}(ho:o+cs.length≤es)(hv:vs.length=cs.length)
  (hg:∀i c,cs[i]? =some c→C5 w c (vs.getD i undef) (gps i))(hgn:((List.range cs.length).flatMap gps).Nodup)(hgd:∀x∈(List.range cs.length).flatMap gps,x∉b::(List.range (n * es)).flatMap fps)
  {c':Ac}(hu:O8 n es row j o cs c'):
  ∃fp',C5 (w.setRow b (cells.toList.take ((off+j) * es+o)++vs++cells.toList.drop ((off+j) * es+o+vs.length)).toArray) c' (.slice (some ⟨b,off * es,none⟩) n cap) fp'∧fp'.Nodup∧
   ∀x∈fp',x∈b::(List.range (n * es)).flatMap fps∨x∈(List.range cs.length).flatMap gps:=by
 obtain ⟨row',rfl,hu1,hu2⟩:=hu
 obtain ⟨hb0,hnd1⟩:=List.nodup_cons.1 hnd
 have hk:∀x,x≠b→(w.setRow b (cells.toList.take ((off+j) * es+o)++vs++cells.toList.drop ((off+j) * es+o+vs.length)).toArray).heap[x]? =w.heap[x]? :=fun x hx=>Ef w b x _ hx
 have hjes:j * es+es≤n * es:=by rw [←Nat.succ_mul];exact Nat.mul_le_mul_right _ hj
 have hfit:(off+j) * es+o+cs.length≤cells.size:=by
  have h1:(off+j) * es+es≤(off+cap) * es:=by rw [←Nat.succ_mul];exact Nat.mul_le_mul_right _ Ab
  omega
 let F:Nat→List Nat:=fun k=>if j * es+o≤k∧k<j * es+o+cs.length then gps (k-(j * es+o)) else fps k
 have hlen':∀i,i<n→(row' i).length=es:=by
  intro i hi
  by_cases e:i=j
  ·subst e
   rw [hu2]
   simp [D4,hl i hi]
   omega
  rw [hu1 i hi e];exact hl i hi
 have hget:∀k,k<cells.size→(cells.toList.take ((off+j) * es+o)++vs++cells.toList.drop ((off+j) * es+o+vs.length)).toArray.getD k undef=
   if (off+j) * es+o≤k∧k<(off+j) * es+o+cs.length then vs.getD (k-((off+j) * es+o)) undef else cells.getD k undef:=by
  intro k hk'
  rw [←Br,←Br]
  simp only [List.getD]
  have e1:(List.take ((off+j) * es+o) cells.toList).length=(off+j) * es+o:=by simp;omega
  by_cases h1:k<(off+j) * es+o
  ·rw [if_neg Ab,List.append_assoc,List.getElem?_append_left Ab]
   simp [h1]
  by_cases h2:k<(off+j) * es+o+cs.length
  ·rw [if_pos ⟨by omega,h2⟩,List.append_assoc,List.getElem?_append_right Ab,e1,List.getElem?_append_left Ab]
  rw [if_neg Ab,List.getElem?_append_right (by simp only [List.length_append];omega)]
  simp only [List.length_append,e1,List.getElem?_drop]
  rw [show (off+j) * es+o+vs.length+(k-((off+j) * es+o+vs.length))=k by omega]
 refine ⟨b::(List.range (n * es)).flatMap F,.sl n es row' b off cap ty _ F hn hc (setRow_heap w b cells _ ty (0,0) hb) (by simp;omega) hlen' (fun i m c hi hcm=>?_),?_,fun x hx=>?_⟩
 ·have hml:m<es:=by have:=(List.getElem?_eq_some_iff.1 hcm).1;rw [hlen' i hi] at this;exact this
  have hkl:(off+i) * es+m<cells.size:=by
   have:=Et (show off+i<off+cap by omega) hml
   omega
  rw [hget _ hkl]
  by_cases e:i=j
  ·subst e
   rw [hu2] at hcm
   have hl1:(List.take o (row i)).length=o:=by simp [hl i hi];omega
   by_cases h1:o≤m∧m<o+cs.length
   ·rw [if_pos Ab]
    have hF:F (i * es+m)=gps (m-o):=by
     simp only [F]
     rw [if_pos Ab]
     congr 1;omega
    rw [hF,show (off+i) * es+m-((off+i) * es+o)=m-o by omega]
    simp only [D4] at hcm
    rw [List.append_assoc,List.getElem?_append_right Ab,hl1,List.getElem?_append_left Ab] at hcm
    exact (hg _ c hcm).move (fun x hx=>hk x (fun e=>hgd x (Dc (by have:=(List.getElem?_eq_some_iff.1 hcm).1;exact this) hx) (by simp [e])))
   rw [if_neg Ab]
   have hF:F (i * es+m)=fps (i * es+m):=by
    simp only [F]
    rw [if_neg Ab]
   rw [hF]
   have hold:(row i)[m]? =some c:=by
    simp only [D4] at hcm
    by_cases h2:m<o
    ·rw [List.append_assoc,List.getElem?_append_left Ab,List.getElem?_take,if_pos h2] at hcm
     exact hcm
    rw [List.getElem?_append_right (by simp only [List.length_append];omega)] at hcm
    simp only [List.length_append,hl1,List.getElem?_drop] at hcm
    rwa [show o+cs.length+(m-(o+cs.length))=m by omega] at hcm
   exact (hr i m c hi hold).move (fun x hx=>hk x (fun e=>hb0 (e▸Dc (Et hi hml) hx)))
  have hne:¬ ((off+j) * es+o≤(off+i) * es+m∧(off+i) * es+m<(off+j) * es+o+cs.length):=by
   rintro ⟨h1,h2⟩
   rcases Nat.lt_or_gt_of_ne e with h|h
   ·have:(off+i) * es+es≤(off+j) * es:=by rw [←Nat.succ_mul];exact Nat.mul_le_mul_right _ Ab
    omega
   have:(off+j) * es+es≤(off+i) * es:=by rw [←Nat.succ_mul];exact Nat.mul_le_mul_right _ Ab
   omega
  have hne2:¬ (j * es+o≤i * es+m∧i * es+m<j * es+o+cs.length):=by
   rintro ⟨h1,h2⟩
   rcases Nat.lt_or_gt_of_ne e with h|h
   ·have:i * es+es≤j * es:=by rw [←Nat.succ_mul];exact Nat.mul_le_mul_right _ Ab
    omega
   have:j * es+es≤i * es:=by rw [←Nat.succ_mul];exact Nat.mul_le_mul_right _ Ab
   omega
  rw [if_neg hne]
  have hF:F (i * es+m)=fps (i * es+m):=by simp only [F];rw [if_neg hne2]
  rw [hF]
  exact (hr i m c hi (by rw [←hu1 i hi e];exact hcm)).move (fun x hx=>hk x (fun e=>hb0 (e▸Dc (Et hi hml) hx)))
 ·have hFm:∀k,k<n * es→∀x∈F k,(x∈(List.range (n * es)).flatMap fps∧F k=fps k)∨(x∈(List.range cs.length).flatMap gps∧j * es+o≤k∧k<j * es+o+cs.length):=by
   intro k hk' x hx
   simp only [F] at hx ⊢
   by_cases h:j * es+o≤k∧k<j * es+o+cs.length
   ·rw [if_pos h] at hx
    exact .inr ⟨Dc Ab hx,h⟩
   rw [if_neg h] at hx ⊢
   exact .inl ⟨Dc hk' hx,rfl⟩
  rw [List.nodup_cons]
  refine ⟨fun hm=>?_,C3.2 ⟨fun k hk'=>?_,?_⟩⟩
  ·obtain ⟨k,hk',hx⟩:=List.mem_flatMap.1 hm
   rcases hFm k (List.mem_range.1 hk') b hx with ⟨h,_⟩|⟨h,_⟩
   ·exact hb0 h
   exact hgd b h Bw
  ·have hk':=List.mem_range.1 hk'
   simp only [F]
   split
   ·exact (C3.1 hgn).1 _ (List.mem_range.2 Ab)
   exact (C3.1 hnd1).1 _ (List.mem_range.2 hk')
  have p1:=(C3.1 hnd1).2
  have p2:=(C3.1 hgn).2
  rw [List.pairwise_iff_getElem] at p1 p2 ⊢
  intro k l hk0 hl0 hlt x hx hx'
  have hk':k<n * es:=by simpa using hk0
  have hl':l<n * es:=by simpa using hl0
  simp only [List.length_range,List.getElem_range] at hx hx' p1 p2
  rcases hFm k hk' x hx with ⟨h1,e1⟩|⟨h1,a1,a2⟩<;>rcases hFm l hl' x hx' with ⟨h2,e2⟩|⟨h2,b1,b2⟩
  ·rw [e1] at hx
   rw [e2] at hx'
   exact p1 k l hk' hl' hlt x hx hx'
  ·exact hgd x h2 (List.mem_cons_of_mem _ h1)
  ·exact hgd x h1 (List.mem_cons_of_mem _ h2)
  have f1:F k=gps (k-(j * es+o)):=by simp only [F];rw [if_pos ⟨a1,a2⟩]
  have f2:F l=gps (l-(j * es+o)):=by simp only [F];rw [if_pos ⟨b1,b2⟩]
  rw [f1] at hx
  rw [f2] at hx'
  exact p2 (k-(j * es+o)) (l-(j * es+o)) Ab Ab Ab x hx hx'
 rcases List.mem_cons.1 hx with rfl|hx
 ·exact .inl Bw
 obtain ⟨k,hk',hx⟩:=List.mem_flatMap.1 hx
 simp only [F] at hx
 split at hx
 ·exact .inr (Dc Ab hx)
 exact .inl (List.mem_cons_of_mem _ (Dc (List.mem_range.1 hk') hx))
theorem A4o (hT:C7 P T){B:Ax}{Q:Exit→Act→World→Prop}{q:Bool}{all:Array Oper}{o:Oper}{rest:List Oper}{K:List KI}{s:AS}{x y:Operand}{t:TypeId}{i:TI}
  (hg:o.guard=none)(ho:o.op= .store t x y)(hi:find T t=some i){k es off n:Nat}{j:Int}{row:Nat→List Ac}{cs:List Ac}{ks:List Nat}
  (hx:s.ev x= .oel k es j off)(hk:Bs s.own k=some (.sl n es row))(hc:Mq s.own (s.ev y).cellsOf=some (cs,ks))(hkd:Fu (k::ks)=true)
  (hsz:(Nat.beq cs.length i.size&&Nat.ble (off+i.size) es)=true)(c':Ac)(hu:O8 n es row j.toNat off cs c')
  (h:G P B Q (.ops q all rest::K) (({s with own:=⟨k,c'⟩::Bk (k::ks) s.own}:AS).put o.dst .any)):G P B Q (.ops q all (o::rest)::K) s:=by
 refine Gj hg (by rw [ho];simp [Dj]) (fun E a w hs=>?_)
 simp only [Bool.and_eq_true] at hsz
 have hsz1:=Nat.eq_of_beq_eq_true hsz.1
 have hsz2:=Nat.le_of_ble_eq_true hsz.2
 have hnd:=Dq hkd
 obtain ⟨nk,nks⟩:=List.nodup_cons.1 hnd
 have hm:=C2 hk
 obtain ⟨hklt,o2,o3⟩:=hs.own _ hm
 simp only at o2 o3 hklt
 have hev:=hs.ev x
 rw [hx] at hev
 generalize hv:a.eval x=v at hev
 have hval:(a.eval y).cells.size=(s.ev y).cellsOf.length∧(∀m z,(s.ev y).cellsOf[m]? =some z→Cm E w (s.avoid E) s.next z ((a.eval y).cells.getD m undef))∧∀z∈(a.eval y).cells.toList,z.oneCell'=true:=by
  refine Kl (hs.ev y) ?_ hs.one
  have:∀(l:List AV) cs ks,Mq s.own l=some (cs,ks)→Hq l=true:=by
   intro l
   induction l with
   |nil=>intros;rfl
   |cons z l ih=>
    intro cs ks hc
    unfold Mq at hc
    split at hc
    ·rename_i heq;simp at heq
    ·rename_i v' r heq
     simp only [List.cons.injEq] at heq
     obtain ⟨rfl,rfl⟩:=heq
     split at hc
     ·rename_i hr;simpa [Hq,AV.cellLike] using ih _ _ hr
     simp at hc
    ·rename_i k' r heq
     simp only [List.cons.injEq] at heq
     obtain ⟨rfl,rfl⟩:=heq
     split at hc
     ·rename_i hr;simpa [Hq,AV.cellLike] using ih _ _ hr
     simp at hc
    simp at hc
  exact this _ _ _ hc
 obtain ⟨c1,c2,c3⟩:=hval
 obtain ⟨q1,q2,gps,q3,q4,q5⟩:=Uy hs hc nks (vs:=(a.eval y).cells.toList) (by simpa using c1) (fun m z hz=>by rw [Br];exact c2 m z hz)
 cases hev with
 |oel _ b o' n' cap hkl hov h0 hj=>
  rw [hov] at o2
  generalize hfp:E.fp k=fp at o2 o3
  obtain ⟨jn,rfl⟩:=Int.eq_ofNat_of_zero_le h0
  simp only [Int.toNat_natCast,Int.ofNat_lt] at *
  cases o2 with
  |emp=>exact absurd hj (Nat.not_lt_zero _)
  |sl _ _ _ _ offb _ ty cells fps hn hcp hb hcs hl hr=>
   have hrun0:=run_storeCells_at P b ((offb+jn) * es+off) ty (a.eval y).cells.toList 0 cells w hb (by
    have h1:(offb+jn) * es+es≤(offb+cap) * es:=by rw [←Nat.succ_mul];exact Nat.mul_le_mul_right _ Ab
    simp only [Nat.add_zero,Array.length_toList]
    omega) c3
   simp only [Nat.add_zero] at hrun0
   have hgd:∀z∈(List.range cs.length).flatMap gps,z∉b::(List.range (n * es)).flatMap fps:=by
    intro z hz hz'
    obtain ⟨k2,hk2,hz2⟩:=List.mem_flatMap.1 (q5 z hz)
    obtain ⟨y2,hy2,rfl⟩:=q2 k2 hk2
    rw [←hfp] at hz'
    exact hs.sep _ hm y2 hy2 (fun e=>nk (by simp only at e;rw [e];exact hk2)) z hz' hz2
   obtain ⟨fp',w1,w2,w3⟩:=A7x hn hcp hb hcs hl hr o3 hj (o:=off) (cs:=cs) (vs:=(a.eval y).cells.toList) Ab (by rw [Array.length_toList,c1,q1]) q3 q4 hgd hu
   have hI:=hs.drop (k::ks)
   have key:∀z,(z∈b::(List.range (n * es)).flatMap fps∨z∈(List.range cs.length).flatMap gps)→s.avoid E z∧¬ ({s with own:=Bk (k::ks) s.own}:AS).avoid E z:=by
    intro z hz
    have:∃k'∈k::ks,∃y∈s.own,y.key=k'∧z∈E.fp k':=by
     rcases hz with hz|hz
     ·exact ⟨k,by simp,_,hm,rfl,by rw [hfp];exact hz⟩
     obtain ⟨k2,hk2,hz2⟩:=List.mem_flatMap.1 (q5 z hz)
     obtain ⟨y2,hy2,e⟩:=q2 k2 hk2
     exact ⟨k2,List.mem_cons_of_mem _ hk2,y2,hy2,e,hz2⟩
    obtain ⟨k',hk1,y',hy,rfl,hz⟩:=this
    refine ⟨.inr ⟨y',hy,hz⟩,?_⟩
    rintro (⟨u,hu',rfl⟩|⟨u,hu',hz'⟩)
    ·exact hs.sepB u hu' y' hy hz
    obtain ⟨hz1,hz2⟩:=C4.1 hu'
    exact hs.sep y' hy u hz1 (fun e=>hz2 (e▸hk1)) z hz hz'
   have hkept:A6e (fun z=>z=b) w (w.setRow b (cells.toList.take ((offb+jn) * es+off)++(a.eval y).cells.toList++cells.toList.drop ((offb+jn) * es+off+(a.eval y).cells.toList.length)).toArray):=
    ⟨rfl,rfl,rfl,by simp,fun z _ hz=>Ef w b z _ hz⟩
   have hI2:=hI.kept hkept (fun z hz=>by
    subst hz
    exact ⟨(key z (.inl Bw)).1,(key z (.inl Bw)).2,hs.fresh z (key z (.inl Bw)).1⟩)
   have hI3:=hI2.addAt (k:=k) hklt (fun y' hy=>fun e=>(C4.1 hy).2 (by rw [e];simp)) (fp:=fp') (by rw [hov];exact w1) w2 (fun z hz=>by
    have:=w3 z hz
    exact ⟨.inl (key z this).1,(key z this).2,hs.fresh z (key z this).1⟩)
   refine ⟨undef,w.setRow b (cells.toList.take ((offb+jn) * es+off)++(a.eval y).cells.toList++cells.toList.drop ((offb+jn) * es+off+(a.eval y).cells.toList.length)).toArray,.inr ⟨?_,rfl⟩,fun hk=>(by rw [ho] at hk;simp [Dj] at hk),h _ _ _ (hI3.put o.dst (.any undef)).is⟩
   obtain ⟨dst,op',ty',pos,after,guard⟩:=o
   simp only at ho
   subst ho
   have hrun:(Instr.storeAt t (.pointer (some ⟨b,offb * es+jn * es+off,none⟩)) (a.eval y)).run P w= .ok () (w.setRow b (cells.toList.take ((offb+jn) * es+off)++(a.eval y).cells.toList++cells.toList.drop ((offb+jn) * es+off+(a.eval y).cells.toList.length)).toArray):=by
    rw [show offb * es+jn * es+off=(offb+jn) * es+off by rw [Nat.add_mul]]
    simp [Instr.storeAt,Instr.sureAddr,storeVar,Bq (hT t i hi),c1,←q1,hsz1,hrun0]
   simp only [execOp,hv,Sem.run_bind,hrun,Result.andThen_ok]
   rfl
end Go.Sx
namespace Go.Sx
open Go.RowKit (Below)
variable {P : Program} {T : List (TypeId × TI)}
inductive GW (P:Program) (B:Ax) (Q:Exit→Act→World→Prop) (K:List KI) (s:AS):Prop
 |mk (h:G P B Q K s):GW P B Q K s
inductive CW (P:Program) (B:Ax) (Q:Exit→Act→World→Prop) (q:Bool) (f:FuncId) (xs:List AV) (dst:Option Tmp) (K:List KI) (s:AS):Prop
 |mk (h:Wy P B Q q f xs dst K s):CW P B Q q f xs dst K s
inductive RW (B:Ax) (Q:Exit→Act→World→Prop) (s:AS):Prop
 |mk (h:B2i B Q s):RW B Q s
def Wv (P:Program) (B:Ax) (Q:Exit→Act→World→Prop):Out→Prop
 | .at_ K s=>GW P B Q K s
 | .call q f xs dst K s=>CW P B Q q f xs dst K s
 | .ret s=>RW B Q s
 | .ite b t e=>(b=true→Wv P B Q t)∧(b=false→Wv P B Q e)
 | .need p o=>p∧Wv P B Q o
theorem A4q {B:Ax}{Q:Exit→Act→World→Prop}(o:Out)(h:Wv P B Q o):vc P B Q o:=by
 induction o with
 |at_ K s=>exact h.rec id
 |call q f xs dst K s=>exact h.rec id
 |ret s=>exact h.rec id
 |ite b t e iht ihe=>exact ⟨fun hb=>iht (h.1 hb),fun hb=>ihe (h.2 hb)⟩
 |need p o ih=>exact ⟨h.1,ih h.2⟩
theorem go (hT:C7 P T)(wr:Bool){B:Ax}{Q:Exit→Act→World→Prop}{K:List KI}{s:AS}(h:Wv P B Q (M6 T wr 100000 K s)):GW P B Q K s:=
 ⟨B1q hT wr 100000 K s (A4q _ h)⟩
theorem Bh (hT:C7 P T)(wr:Bool){f:FuncId}{fn:Func}{c:Code}{ins outs:List Fz}(hf:P.funcs[f]? =some fn)(hb:fn.body=some c)(hn:(fn.name== "runtime.NumGoroutine")=false)
  (h:∀W,Wv P ⟨W,fun _=>False⟩ (bodyPost P fn fun e w'=>Kg W w' outs e) (M6 T wr 100000 [.code c] (F6 fn.ntmps ins))):Bo P f ins outs:=
 enter hf hb hn fun W=>(go hT wr (h W)).rec id
theorem Cq {B:Ax}{Q:Exit→Act→World→Prop}{q:Bool}{f:FuncId}{xs:List AV}{dst:Option Tmp}{K:List KI}{s:AS}{ins outs:List Fz}(hf:Bo P f ins outs)(hx:Jc s xs=some ins)
  (h:GW P B Q K ((H0 outs s).2.put dst (H0 outs s).1)):CW P B Q q f xs dst K s:=⟨A87 hf hx (h.rec id)⟩
theorem B5 {B:Ax}{Q:Exit→Act→World→Prop}{q:Bool}{f:FuncId}{xs:List AV}{dst:Option Tmp}{K:List KI}{s:AS}{ins outs:List Fz}(hf:Bo P f ins outs)(hx:Jc s xs=some ins)
  (h:GW P B Q K (s.put dst (Y3 outs))):CW P B Q q f xs dst K s:=⟨B2r hf hx (h.rec id)⟩
theorem B6h (hm:P.follows .mixedOrders=true){B:Ax}{Q:Exit→Act→World→Prop}{id:Nat}{ops:Array Oper}{K:List KI}{s:AS}(ord:List Nat)(hB:B0t ops ord=true)
  (h:GW P B Q (.ops true ops (Zd ops ord)::K) s):GW P B Q (.code (.region id ops true)::K) s:=⟨A61 hm ord hB (h.rec fun h=>h)⟩
theorem B3 (hT:C7 P T){W:World}{fn:Func}{outs:List Fz}{s:AS}{xs:List AV}(hx:Nk T fn.results.toList s=some xs)(hk:Fu (xs.flatMap Dz)=true)(ho:Nd s.own xs outs):
  RW ⟨W,fun _=>False⟩ (bodyPost P fn fun e w'=>Kg W w' outs e) s:=⟨B5x hT hx hk ho⟩
theorem B1 (hT:C7 P T){B:Ax}{Q:Exit→Act→World→Prop}{q:Bool}{all:Array Oper}{o:Oper}{rest:List Oper}{K:List KI}{s:AS}{x y:Operand}{t t' e:TypeId}{i j:TI}
  (hg:o.guard=none)(ho:o.op= .call {callee:= .builtin .append,args:= #[x,y],argTypes:= #[t,t']})(htt:t=t')
  (hi:find T t=some i)(he:i.elem=some e)(hj:find T e=some j)(hp:Nat.blt 0 j.size=true)
  {n1 n2:Nat}{row1 row2:Nat→List Ac}{ks1 ks2:List Nat}(hd:A47 s.own (s.ev x) j.size=some (n1,row1,ks1))(hs:A58 s.own (s.ev y) j.size=some (n2,row2,ks2))
  (hk:Fu (ks1++ks2)=true)(hb':Nat.ble j.bytes 256=true)(c:Ac)(hc:Pt n1 n2 j.size row1 row2 c)(hf:ks2=[]→E4 n2 row2)
  (hb:n1+n2≤549755813888)
  (h:GW P B Q (.ops q all rest::K) (({s with own:=⟨s.next,c⟩::Bk (ks1++ks2) s.own,next:=s.next+1}:AS).put o.dst (.own s.next))):GW P B Q (.ops q all (o::rest)::K) s:=
 ⟨A82 hT hg ho (.inl (Ch (htt▸hT t i hi) he)) hi he hj hp hd hs hk c hc hf ⟨hb,hb'⟩ (h.rec id)⟩
theorem Ao (hT:C7 P T){B:Ax}{Q:Exit→Act→World→Prop}{q:Bool}{all:Array Oper}{o:Oper}{rest:List Oper}{K:List KI}{s:AS}{x y:Operand}{t:TypeId}{i:TI}
  (hg:o.guard=none)(ho:o.op= .store t x y)(hi:find T t=some i){k es off n:Nat}{j:Int}{row:Nat→List Ac}{cs:List Ac}{ks:List Nat}
  (hx:s.ev x= .oel k es j off)(hk:Bs s.own k=some (.sl n es row))(hc:Mq s.own (s.ev y).cellsOf=some (cs,ks))(hkd:Fu (k::ks)=true)
  (hsz:(Nat.beq cs.length i.size&&Nat.ble (off+i.size) es)=true)(c':Ac)(hu:O8 n es row j.toNat off cs c')
  (h:GW P B Q (.ops q all rest::K) (({s with own:=⟨k,c'⟩::Bk (k::ks) s.own}:AS).put o.dst .any)):GW P B Q (.ops q all (o::rest)::K) s:=
 ⟨A4o hT hg ho hi hx hk hc hkd hsz c' hu (h.rec id)⟩
def Kd (f:List (Nat×Nat)) (k:Nat):Nat:=
 match f with
 | []=>k
 |(a,b)::r=>match Nat.beq a k with
  |true=>b
  |false=>Kd r k
def ren0 (f:List (Nat×Nat)) (x:AV):AV:=
 match x with
 | .own k=> .own (Kd f k)
 | .box k o=> .box (Kd f k) o
 | .oel k es j o=> .oel (Kd f k) es j o
 |x=>x
def Va (g:AV→AV) (l:List AV):List AV:=
 match l with
 | []=>[]
 |x::r=>g x::Va g r
def ren1 (f:List (Nat×Nat)) (x:AV):AV:=
 match x with
 | .agg xs=> .agg (Va (ren0 f) xs)
 | .fn i xs=> .fn i (Va (ren0 f) xs)
 |x=>ren0 f x
def ren2 (f:List (Nat×Nat)) (x:AV):AV:=
 match x with
 | .tup xs=> .tup (Va (ren1 f) xs)
 |x=>ren1 f x
theorem Vb (g:AV→AV)(l:List AV)(i:Nat):(Va g l)[i]? =l[i]?.map g:=by
 induction l generalizing i with
 |nil=>simp [Va]
 |cons x r ih=>cases i<;>simp [Va,ih]
theorem Nj (g:AV→AV)(l:List AV):(Va g l).length=l.length:=by
 induction l with
 |nil=>rfl
 |cons x r ih=>simp [Va,ih]
def Cv.ren (E:Cv) (f:List (Nat×Nat)):Cv:=⟨fun k=>E.ov (Kd f k),fun k=>E.fp (Kd f k)⟩
theorem Cm.ren0 {E:Cv}{w:World}{A:Nat→Prop}{N M:Nat}{f:List (Nat×Nat)}{x:AV}{v:Value}(h:Cm E w A N (Sx.ren0 f x) v)(hb:Sx.low0 M x=true):Cm (E.ren f) w A M x v:=by
 cases x with
 |any=>exact .any v
 |c c=>cases h with|c h=>exact .c h
 |own k=>cases h with|own hk=>exact Cm.own (E:=E.ren f) (Fp (by simpa [Sx.low0] using hb))
 |box k o=>cases h with|box _ hk=>exact Cm.box (E:=E.ren f) _ (Fp (by simpa [Sx.low0] using hb))
 |el n es row i off=>cases h with|el _ b o cap hs h0 hi=>exact .el _ b o cap hs h0 hi
 |oel k es i off=>cases h with|oel _ b o n cap hk hv h0 hi=>exact .oel (E:=E.ren f) _ b o n cap (Fp (by simpa [Sx.low0] using hb)) hv h0 hi
 |_=>simp [Sx.low0] at hb
theorem Cm.ren1 {E:Cv}{w:World}{A:Nat→Prop}{N M:Nat}{f:List (Nat×Nat)}{x:AV}{v:Value}(h:Cm E w A N (Sx.ren1 f x) v)(hb:Sx.low1 M x=true):Cm (E.ren f) w A M x v:=by
 cases x with
 |agg xs=>
  cases h with
  |agg vs hl h=>
   refine .agg vs (by rw [hl,Nj]) (fun i x hx=>?_)
   exact (h i (Sx.ren0 f x) (by rw [Vb,hx];rfl)).ren0 (J4 (by simpa [Sx.low1] using hb) (List.mem_of_getElem? hx))
 |fn g xs=>
  cases h with
  |fn vs hl h=>
   refine .fn vs (by rw [hl,Nj]) (fun i x hx=>?_)
   exact (h i (Sx.ren0 f x) (by rw [Vb,hx];rfl)).ren0 (J4 (by simpa [Sx.low1] using hb) (List.mem_of_getElem? hx))
 |tup xs=>simp [Sx.low1,Sx.low0] at hb
 |_=>exact Cm.ren0 h hb
theorem Cm.ren2 {E:Cv}{w:World}{A:Nat→Prop}{N M:Nat}{f:List (Nat×Nat)}{x:AV}{v:Value}(h:Cm E w A N (Sx.ren2 f x) v)(hb:Sx.low2 M x=true):Cm (E.ren f) w A M x v:=by
 cases x with
 |tup xs=>
  cases h with
  |tup vs hl h=>
   refine .tup vs (by rw [hl,Nj]) (fun i x hx=>?_)
   exact (h i (Sx.ren1 f x) (by rw [Vb,hx];rfl)).ren1 (J4 (by simpa [Sx.low2] using hb) (List.mem_of_getElem? hx))
 |_=>exact Cm.ren1 h hb
def Rl (f:List (Nat×Nat)) (xs ys:List AV):Prop:=
 match xs,ys with
 | [],[]=>True
 |x::xs,y::ys=>match y with
  | .any=>Rl f xs ys
  |y=>x=ren2 f y∧Rl f xs ys
 |_,_=>False
theorem A1n {f:List (Nat×Nat)}{xs ys:List AV}(h:Rl f xs ys):ys.length=xs.length∧∀(i:Nat) (y:AV),ys[i]? =some y→y= .any∨xs[i]? =some (ren2 f y):=by
 induction xs generalizing ys with
 |nil=>cases ys<;>simp_all [Rl]
 |cons x xs ih=>
  cases ys with
  |nil=>simp [Rl] at h
  |cons y ys=>
   have key:Rl f xs ys∧(y= .any∨x=ren2 f y):=by cases y<;>simp only [Rl] at h<;>first|exact ⟨h,.inl rfl⟩|exact ⟨h.2,.inr h.1⟩
   obtain ⟨h1,h2⟩:=ih key.1
   refine ⟨by simp [h1],fun i z hz=>?_⟩
   cases i with
   |zero=>
    simp only [List.getElem?_cons_zero,Option.some.injEq] at hz
    subst hz
    rcases key.2 with e|e
    ·exact .inl e
    exact .inr (by simp [e])
   |succ i=>simpa using h2 i z (by simpa using hz)
def B0e (f:List (Nat×Nat)) (l:List Bx) (m:List Bx):Prop:=
 match m with
 | []=>True
 |b::r=>(match Ew l (Kd f b.key) with
  |some c=>Rl f c.cells b.cells
  |none=>False)∧B0e f l r
def B0h (f:List (Nat×Nat)) (l:List Ow) (m:List Ow):Prop:=
 match m with
 | []=>True
 |b::r=>(match Bs l (Kd f b.key) with
  |some c=>c=b.cell
  |none=>False)∧B0h f l r
theorem Na {f:List (Nat×Nat)}{l m:List Bx}(h:B0e f l m){b:Bx}(hb:b∈m):∃c∈l,c.key=Kd f b.key∧Rl f c.cells b.cells:=by
 induction m with
 |nil=>simp at hb
 |cons x r ih=>
  obtain ⟨h1,h2⟩:=h
  rcases List.mem_cons.1 hb with rfl|hb
  ·split at h1
   ·rename_i c hc
    obtain ⟨g1,g2⟩:=E7 hc
    exact ⟨c,g1,g2,h1⟩
   exact h1.elim
  exact ih h2 hb
theorem Nb {f:List (Nat×Nat)}{l m:List Ow}(h:B0h f l m){b:Ow}(hb:b∈m):(⟨Kd f b.key,b.cell⟩:Ow)∈l:=by
 induction m with
 |nil=>simp at hb
 |cons x r ih=>
  obtain ⟨h1,h2⟩:=h
  rcases List.mem_cons.1 hb with rfl|hb
  ·split at h1
   ·rename_i c hc
    have:=C2 hc
    rw [h1] at this
    exact this
   exact h1.elim
  exact ih h2 hb
def B0o (f:List (Nat×Nat)) (l:List Nat):List Nat:=
 match l with
 | []=>[]
 |x::r=>Kd f x::B0o f r
theorem A5i (f:List (Nat×Nat))(l:List Nat):B0o f l=l.map (Kd f):=by
 induction l with
 |nil=>rfl
 |cons x r ih=>simp [B0o,ih]
def A5g (l:List Bx):List Nat:=
 match l with
 | []=>[]
 |x::r=>x.key::A5g r
theorem B0b (l:List Bx):A5g l=l.map (·.key):=by
 induction l with
 |nil=>rfl
 |cons x r ih=>simp [A5g,ih]
def A5h (l:List Ow):List Nat:=
 match l with
 | []=>[]
 |x::r=>x.key::A5h r
theorem B0c (l:List Ow):A5h l=l.map (·.key):=by
 induction l with
 |nil=>rfl
 |cons x r ih=>simp [A5h,ih]
def A51 (f:List (Nat×Nat)) (N:Nat):Bool:=
 match f with
 | []=>true
 |(_,b)::r=>Nat.blt b N&&A51 r N
theorem B37 {f:List (Nat×Nat)}{N k:Nat}(h:A51 f N=true)(hk:k<N):Kd f k<N:=by
 induction f with
 |nil=>exact hk
 |cons p r ih=>
  obtain ⟨a,b⟩:=p
  simp only [A51,Bool.and_eq_true] at h
  unfold Kd
  split
  ·exact Fp h.1
  exact ih h.2
def B0f (f:List (Nat×Nat)) (l m:List (Nat×Value)):Prop:=
 match m with
 | []=>True
 |(k,v)::r=>Dl l (Kd f k)=some v∧B0f f l r
theorem Es {l:List (Nat×Value)}{k:Nat}{v:Value}(h:Dl l k=some v):(k,v)∈l:=by
 induction l with
 |nil=>simp [Dl] at h
 |cons p r ih=>
  obtain ⟨a,u⟩:=p
  unfold Dl at h
  split at h
  ·rename_i e
   obtain rfl:=Nat.eq_of_beq_eq_true e
   obtain rfl:=Option.some.inj h
   simp
  exact List.mem_cons_of_mem _ (ih h)
theorem B0g {f:List (Nat×Nat)}{l m:List (Nat×Value)}(h:B0f f l m){p:Nat×Value}(hp:p∈m):(Kd f p.1,p.2)∈l:=by
 induction m with
 |nil=>simp at hp
 |cons q r ih=>
  obtain ⟨k,v⟩:=q
  rcases List.mem_cons.1 hp with rfl|hp
  ·exact Es h.1
  exact ih h.2 hp
def B3i (n:Nat) (l:List (Nat×Value)):Bool:=
 match l with
 | []=>true
 |(k,_)::r=>Nat.blt k n&&B3i n r
theorem B0m {n:Nat}{l:List (Nat×Value)}(h:B3i n l=true){p:Nat×Value}(hp:p∈l):p.1<n:=by
 induction l with
 |nil=>simp at hp
 |cons q r ih=>
  obtain ⟨k,v⟩:=q
  simp only [B3i,Bool.and_eq_true] at h
  rcases List.mem_cons.1 hp with rfl|hp
  ·exact Fp h.1
  exact ih h.2 hp
def Za (f:List (Nat×Nat)) (s t:AS):Bool:=
 Nat.ble t.next s.next&&A51 f s.next&&Yk (low2 t.next) t.slots&&B3h t.next t.boxes&&B3j t.next t.own&&Fu (B0o f (A5g t.boxes))&&Fu (B0o f (A5h t.own))&&B3i t.next t.links
theorem B0i {f:List (Nat×Nat)}{s t:AS}(h1:Rl f s.slots t.slots)(h2:B0e f s.boxes t.boxes)(h3:B0h f s.own t.own)(h5:B0f f s.links t.links)(h4:Za f s t=true){B:Ax}{E:Cv}{a:Act}{w:World}(hs:s.is B E a w):
  t.is B (E.ren f) a w:=by
 simp only [Za,Bool.and_eq_true] at h4
 obtain ⟨⟨⟨⟨⟨⟨⟨hn,hr⟩,k1⟩,k2⟩,k3⟩,k4⟩,k5⟩,k6⟩:=h4
 have hnext:=Nat.le_of_ble_eq_true hn
 have k4:(t.boxes.map fun b=>Kd f b.key).Nodup:=by have:=Dq k4;rwa [A5i,B0b,List.map_map] at this
 have k5:(t.own.map fun b=>Kd f b.key).Nodup:=by have:=Dq k5;rwa [A5i,B0c,List.map_map] at this
 have injB:∀x∈t.boxes,∀y∈t.boxes,Kd f x.key=Kd f y.key→x.key=y.key:=by
  intro x hx y hy e
  obtain ⟨i,hi,rfl⟩:=List.mem_iff_getElem.1 hx
  obtain ⟨j,hj,rfl⟩:=List.mem_iff_getElem.1 hy
  have hp:=List.pairwise_iff_getElem.1 k4
  rcases Nat.lt_trichotomy i j with hl|rfl|hl
  ·exact absurd (by rw [List.getElem_map,List.getElem_map];exact e) (hp i j (by simpa using hi) (by simpa using hj) hl)
  ·rfl
  exact absurd (by rw [List.getElem_map,List.getElem_map];exact e.symm) (hp j i (by simpa using hj) (by simpa using hi) hl)
 have injO:∀x∈t.own,∀y∈t.own,Kd f x.key=Kd f y.key→x.key=y.key:=by
  intro x hx y hy e
  obtain ⟨i,hi,rfl⟩:=List.mem_iff_getElem.1 hx
  obtain ⟨j,hj,rfl⟩:=List.mem_iff_getElem.1 hy
  have hp:=List.pairwise_iff_getElem.1 k5
  rcases Nat.lt_trichotomy i j with hl|rfl|hl
  ·exact absurd (by rw [List.getElem_map,List.getElem_map];exact e) (hp i j (by simpa using hi) (by simpa using hj) hl)
  ·rfl
  exact absurd (by rw [List.getElem_map,List.getElem_map];exact e.symm) (hp j i (by simpa using hj) (by simpa using hi) hl)
 have av:∀b,t.avoid (E.ren f) b→s.avoid E b:=by
  rintro b (⟨x,hx,rfl⟩|⟨y,hy,hb⟩)
  ·obtain ⟨c,hc,e,_⟩:=Na h2 hx
   exact .inl ⟨c,hc,by rw [e];rfl⟩
  exact .inr ⟨_,Nb h3 hy,hb⟩
 have mv:∀x v,low2 t.next x=true→Cm E w (s.avoid E) s.next (ren2 f x) v→Cm (E.ren f) w (t.avoid (E.ren f)) t.next x v:=fun x v hb hx=>
  (hx.ren2 hb).move (Nat.le_refl _) (fun _ _=>⟨rfl,rfl⟩) (fun _ _ _=>rfl) (fun b _ hb=>av b hb)
 obtain ⟨l1,l2⟩:=A1n h1
 refine ⟨hs.defers,fun p hp=>⟨B0m k6 hp,(hs.links _ (B0g h5 hp)).2⟩,by rw [hs.size,l1],fun i x hx=>?_,fun x hx=>?_,fun x hx y hy e=>?_,?_,fun y hy=>?_,?_,fun y hy z hz hne=>?_,fun x hx y hy=>?_,
  fun k hk=>hs.one _ (B37 hr (Nat.lt_of_lt_of_le hk hnext)),hs.base,fun b hb=>hs.fresh b (av b hb)⟩
 ·rcases l2 i x hx with rfl|h'
  ·exact .any _
  exact mv _ _ (J4 k1 (List.mem_of_getElem? hx)) (hs.slots i _ h')
 ·obtain ⟨c,hc,e,hle⟩:=Na h2 hx
  obtain ⟨_,vs,ty,g2,g3,g4⟩:=hs.boxes c hc
  obtain ⟨m1,m2⟩:=A1n hle
  obtain ⟨b1,b2⟩:=B0l k2 hx
  refine ⟨b1,vs,ty,by rw [e] at g2;exact g2,by omega,fun i y hy=>?_⟩
  rcases m2 i y hy with rfl|h'
  ·exact .any _
  exact mv _ _ (J4 b2 (List.mem_of_getElem? hy)) (g4 i _ h')
 ·obtain ⟨c,hc,e1,_⟩:=Na h2 hx
  obtain ⟨d,hd,e2,_⟩:=Na h2 hy
  refine injB x hx y hy ?_
  rw [←e1,←e2]
  exact hs.boxes2 c hc d hd (by rw [e1,e2];exact e)
 ·have:=k4
  refine (List.pairwise_map.2 ?_:(t.boxes.map (·.key)).Nodup)
  exact (List.pairwise_map.1 k4).imp (fun h e=>h (by rw [e]))
 ·obtain ⟨_,g2,g3⟩:=hs.own _ (Nb h3 hy)
  exact ⟨B0n k3 hy,g2,g3⟩
 ·refine (List.pairwise_map.2 ?_:(t.own.map (·.key)).Nodup)
  exact (List.pairwise_map.1 k5).imp (fun h e=>h (by rw [e]))
 ·exact hs.sep _ (Nb h3 hy) _ (Nb h3 hz) (fun e=>hne (injO y hy z hz e))
 obtain ⟨c,hc,e,_⟩:=Na h2 hx
 have:=hs.sepB c hc _ (Nb h3 hy)
 rw [e] at this
 exact this
def S8 (us:List (Nat×AV)) (i:Nat):Option AV:=
 match us with
 | []=>none
 |(k,x)::r=>match Nat.beq k i with
  |true=>some x
  |false=>S8 r i
def B0r (fs:List Nat) (i:Nat):Bool:=
 match fs with
 | []=>false
 |k::r=>match Nat.beq k i with
  |true=>true
  |false=>B0r r i
def upx (x:AV) (i:Nat) (fs:List Nat) (us:List (Nat×AV)):AV:=
 match S8 us i with
 |some y=>y
 |none=>match B0r fs i with
  |true=> .any
  |false=>x
def upL (l:List AV) (i:Nat) (fs:List Nat) (us:List (Nat×AV)):List AV:=
 match l with
 | []=>[]
 |x::r=>upx x i fs us::upL r (i+1) fs us
def upK {α:Type} (l:List AV) (i:Nat) (fs:List Nat) (us:List (Nat×AV)) (k:List AV→α):α:=
 match l with
 | []=>k []
 |x::r=>Hu (i+1) fun j=>match S8 us i with
  |some y=>upK r j fs us fun r=>k (y::r)
  |none=>match B0r fs i with
   |true=>upK r j fs us fun r=>k (.any::r)
   |false=>upK r j fs us fun r=>k (x::r)
theorem B18 {α:Type}(l:List AV)(i:Nat)(fs:List Nat)(us:List (Nat×AV))(k:List AV→α):upK l i fs us k=k (upL l i fs us):=by
 induction l generalizing i k with
 |nil=>rfl
 |cons x r ih=>
  simp only [upK,G5,upL,upx,ih]
  split
  ·rfl
  split<;>rfl
def AS.upd (s:AS) (fs:List Nat) (us:List (Nat×AV)) (bs:List Bx) (os:List Ow):AS:= {s with slots:=upL s.slots 0 fs us,boxes:=bs,own:=os}
def Sb (f:List (Nat×Nat)) (l:List AV) (us:List (Nat×AV)):Prop:=
 match us with
 | []=>True
 |(i,x)::r=>Gh l i=ren2 f x∧Sb f l r
theorem A7b {f:List (Nat×Nat)}{l:List AV}{us:List (Nat×AV)}(h:Sb f l us){k:Nat}{x:AV}(hm:(k,x)∈us):Gh l k=ren2 f x:=by
 induction us with
 |nil=>simp at hm
 |cons p r ih=>
  obtain ⟨i,y⟩:=p
  rcases List.mem_cons.1 hm with e|hm
  ·simp only [Prod.mk.injEq] at e
   obtain ⟨rfl,rfl⟩:=e
   exact h.1
  exact ih h.2 hm
theorem A69 {us:List (Nat×AV)}{i:Nat}{x:AV}(h:S8 us i=some x):(i,x)∈us:=by
 induction us with
 |nil=>simp [S8] at h
 |cons p r ih=>
  obtain ⟨k,y⟩:=p
  unfold S8 at h
  split at h
  ·rename_i e
   obtain rfl:=Nat.eq_of_beq_eq_true e
   obtain rfl:=Option.some.inj h
   simp
  exact List.mem_cons_of_mem _ (ih h)
theorem W0 (l:List AV)(i:Nat)(fs:List Nat)(us:List (Nat×AV)):(upL l i fs us).length=l.length:=by
 induction l generalizing i with
 |nil=>rfl
 |cons x r ih=>simp [upL,ih]
def kx (x y:AV) (i:Nat) (fs:List Nat) (us:List (Nat×AV)):AV:=
 match y with
 | .any=> .any
 |_=>match S8 us i with
  |some _=> .any
  |none=>match B0r fs i with
   |true=> .any
   |false=>x
def Qj (xs ys:List AV) (i:Nat) (fs:List Nat) (us:List (Nat×AV)):List AV:=
 match xs,ys with
 |x::xs,y::ys=>kx x y i fs us::Qj xs ys (i+1) fs us
 | [],_=>[]
 |_::_,[]=>[.any]
def Qk (f:List (Nat×Nat)) (ys:List AV) (i:Nat) (fs:List Nat) (us:List (Nat×AV)):List AV:=
 match ys with
 |y::ys=>kx (ren2 f y) y i fs us::Qk f ys (i+1) fs us
 | []=>[]
theorem B0a {f:List (Nat×Nat)}{ys:List AV}{fs:List Nat}{us:List (Nat×AV)}:∀{xs:List AV} {i:Nat},Qj xs ys i fs us=Qk f ys i fs us→
  xs.length=ys.length∧∀(k:Nat) (y:AV),(upL ys i fs us)[k]? =some y→y= .any∨(i+k,y)∈us∨xs[k]? =some (ren2 f y):=by
 induction ys with
 |nil=>
  intro xs i h
  cases xs with
  |nil=>simp [upL]
  |cons x xs=>simp [Qj,Qk] at h
 |cons y ys ih=>
  intro xs i h
  cases xs with
  |nil=>simp [Qj,Qk] at h
  |cons x xs=>
   simp only [Qj,Qk,List.cons.injEq] at h
   obtain ⟨h1,h2⟩:=h
   obtain ⟨g1,g2⟩:=ih h2
   refine ⟨by simp [g1],fun k z hz=>?_⟩
   cases k with
   |zero=>
    simp only [upL,List.getElem?_cons_zero,Option.some.injEq] at hz
    unfold upx at hz
    unfold kx at h1
    cases hf:S8 us i with
    |some u=>
     rw [hf] at hz
     subst hz
     exact .inr (.inl (A69 hf))
    |none=>
     rw [hf] at hz
     cases hm:B0r fs i with
     |true=>rw [hm] at hz;exact .inl hz.symm
     |false=>
      rw [hm] at hz
      subst hz
      cases y<;>first|exact .inl rfl|(simp only [hf,hm] at h1;right;right;simp [h1])
   |succ k=>
    have:=g2 k z (by simpa [upL] using hz)
    rw [Nat.add_assoc,Nat.add_comm 1 k] at this
    simpa using this
theorem B3e {f:List (Nat×Nat)}{xs ys:List AV}(h:ys.length=xs.length)(hp:∀(i:Nat) (y:AV),ys[i]? =some y→y= .any∨xs[i]? =some (ren2 f y)):Rl f xs ys:=by
 induction xs generalizing ys with
 |nil=>
  cases ys with
  |nil=>trivial
  |cons y ys=>simp at h
 |cons x xs ih=>
  cases ys with
  |nil=>simp at h
  |cons y ys=>
   have h1:=ih (ys:=ys) (by simpa using h) (fun i z hz=>by simpa using hp (i+1) z (by simpa using hz))
   have h0:=hp 0 y Bw
   cases y<;>simp only [Rl]<;>first|exact h1|exact ⟨by simpa using h0,h1⟩
theorem A1o {f:List (Nat×Nat)}{xs ys:List AV}{fs:List Nat}{us:List (Nat×AV)}(hu:Sb f xs us)(hs:Qj xs ys 0 fs us=Qk f ys 0 fs us):Rl f xs (upL ys 0 fs us):=by
 obtain ⟨h1,h2⟩:=B0a hs
 refine B3e (by rw [W0,h1]) (fun i y hy=>?_)
 rcases h2 i y hy with h|h|h
 ·exact .inl h
 ·rw [Nat.zero_add] at h
  have:=A7b hu h
  have hi:i<xs.length:=by rw [h1];have:=(List.getElem?_eq_some_iff.1 hy).1;rwa [W0] at this
  rw [Cl,List.getElem?_eq_getElem hi] at this
  right
  rw [List.getElem?_eq_getElem hi]
  simpa using this
 exact .inr h
theorem A19 (x:AV):ren0 [] x=x:=by cases x<;>rfl
theorem A50 {g:AV→AV}(hg:∀x,g x=x)(l:List AV):Va g l=l:=by
 induction l with
 |nil=>rfl
 |cons x r ih=>simp [Va,ih,hg]
theorem A2a (x:AV):ren1 [] x=x:=by cases x<;>simp [ren1,A50 A19,A19]
theorem B1i (x:AV):ren2 [] x=x:=by cases x<;>simp [ren2,A50 A2a,A2a]
theorem A7h (l:List AV)(i:Nat)(fs:List Nat)(us:List (Nat×AV)):Qj l l i fs us=Qk [] l i fs us:=by
 induction l generalizing i with
 |nil=>rfl
 |cons x r ih=>simp [Qj,Qk,ih,B1i]
theorem C0 (hT:C7 P T)(wr:Bool){J:Type}{B:Ax}{Q:Exit→Act→World→Prop}{c:Code}{K:List KI}{s:AS}(fs:List Nat)(us:J→List (Nat×AV))(bs:J→List Bx)(os:J→List Ow)
  (φ:J→Prop)(μ:J→Nat)(j0:J)(h0:φ j0)(hu:Sb [] s.slots (us j0))(hb:B0e [] s.boxes (bs j0))(ho:B0h [] s.own (os j0))(hl:B0f [] s.links s.links)(hk:Za [] s (s.upd fs (us j0) (bs j0) (os j0))=true)
  (body:∀j,φ j→Wv P B Q (upK s.slots 0 fs (us j) fun slots=>M6 T wr 100000 (.code c:: .loop (Inv B (fun j=>s.upd fs (us j) (bs j) (os j)) φ μ (μ j))::K) {s with slots:=slots,boxes:=bs j,own:=os j})):
  GW P B Q (.code (.loop c)::K) s:=
 ⟨A7k (fun j=>s.upd fs (us j) (bs j) (os j)) φ μ j0 h0 (fun E a w hs=>⟨_,B0i (t:=s.upd fs (us j0) (bs j0) (os j0)) (A1o hu (A7h s.slots 0 fs (us j0))) hb ho hl hk hs⟩)
  (fun j hj=>(go hT wr (by have:=body j hj;rw [B18] at this;exact this)).rec id)⟩
theorem B9 (f:List (Nat×Nat)){J:Type}(j:J){B:Ax}{Q:Exit→Act→World→Prop}{K:List KI}{s s':AS}{fs:List Nat}{us:J→List (Nat×AV)}{bs:J→List Bx}{os:J→List Ow}
  {φ:J→Prop}{μ:J→Nat}{m:Nat}(hφ:φ j)(hμ:μ j<m)(hu:Sb f s'.slots (us j))(ho:B0h f s'.own (os j))(hb:B0e f s'.boxes (bs j))
  (hs:Qj s'.slots s.slots 0 fs (us j)=Qk f s.slots 0 fs (us j))(hl:B0f f s'.links s.links)
  (hk:Za f s' (s.upd fs (us j) (bs j) (os j))=true):GW P B Q (.loop (Inv B (fun j=>s.upd fs (us j) (bs j) (os j)) φ μ m)::K) s':=
 ⟨fun E _ _ hs'=>⟨j,hφ,hμ,E.ren f,B0i (t:=s.upd fs (us j) (bs j) (os j)) (A1o hu hs) hb ho hl hk hs'⟩⟩
end Go.Sx
namespace Go.Sx
open Go.RowKit (Below)
variable {P : Program}
def Yh (S:TypeId→List Ac→Prop):List TypeId→List Ac→Prop
 | [],cs=>cs=[]
 |t::r,cs=>∃a b,cs=a++b∧S t a∧Yh S r b
def Gs (P:Program):Nat→TypeId→List Ac→Prop
 | 0,_,_=>False
 |f+1,t,cs=>match P.underlying t with
  |some .bool=>∃b,cs=[.val (.bool b)]
  |some (.int k)=>∃n,Ee k n∧cs=[.val (.int k n)]
  |some .string=>∃b:ByteArray,b.size≤maxLen∧cs=[.val (.string b)]
  |some (.slice e)=>∃n row,n≤maxLen∧cs=[.sl n (P.cellsOf e) row]∧∀i,i<n→Gs P f e (row i)
  |some (.struct fs)=>Yh (Gs P f) (fs.toList.map (·.type)) cs
  |_=>False
def Tx (P:Program):Nat→List Field→Option Nat
 |o,[]=>some o
 |o,F::r=>if F.offset=o then Tx P (o+P.cellsOf F.type) r else none
def okT (P:Program):Nat→TypeId→Bool
 | 0,_=>false
 |f+1,t=>match P.underlying t with
  |some .bool=>true
  |some (.int _)=>true
  |some .string=>true
  |some (.slice e)=>Nat.blt 0 (P.cellsOf e)&&okT P f e
  |some (.struct fs)=>Tx P 0 fs.toList==some (P.cellsOf t)&&fs.toList.all fun F=>okT P f F.type
  |_=>false
theorem Rp {α β:Type}{g:α→Option β}{l:List α}{r:List β}(h:l.mapM g=some r):r.length=l.length∧∀(i:Nat) (x:α),l[i]? =some x→∃y,g x=some y∧r[i]? =some y:=by
 induction l generalizing r with
 |nil=>simp at h;subst h;simp
 |cons a l ih=>
  rw [List.mapM_cons] at h
  cases ha:g a with
  |none=>simp [ha] at h
  |some b=>
   cases hb:l.mapM g with
   |none=>simp [ha,hb] at h
   |some bs=>
    simp [ha,hb] at h
    subst h
    obtain ⟨h1,h2⟩:=ih hb
    refine ⟨by simp [h1],fun i x hx=>?_⟩
    cases i with
    |zero=>simp only [List.getElem?_cons_zero,Option.some.injEq] at hx;subst hx;exact ⟨b,ha,by simp⟩
    |succ i=>simpa using h2 i x (by simpa using hx)
theorem B59 {k:IntKind}{n:Int}(h:(Lit.int k n).wf=true):Ee k n:=by
 simp only [Lit.wf,Bool.and_eq_true,decide_eq_true_eq] at h
 cases k<;>simp only [IntKind.min,IntKind.max,IntKind.signed,IntKind.bits] at h<;>simp only [Ee]<;>simp at h<;>omega
def Oy (w:World) (xs:List Ac) (cs:List Value):Prop:=xs.length=cs.length∧∀(i:Nat) (c:Ac),xs[i]? =some c→L5 w (fun _=>False) c (cs.getD i undef)
theorem Oy.one {w:World}{c:Ac}{v:Value}(h:L5 w (fun _=>False) c v):Oy w [c] [v]:=by
 refine ⟨rfl,fun i x hx=>?_⟩
 cases i with
 |zero=>simp only [List.getElem?_cons_zero,Option.some.injEq] at hx;subst hx;exact h
 |succ i=>simp at hx
theorem Oy.append {w:World}{a b:List Ac}{u v:List Value}(h:Oy w a u)(k:Oy w b v):Oy w (a++b) (u++v):=by
 refine ⟨by simp [h.1,k.1],fun i c hc=>?_⟩
 by_cases hi:i<a.length
 ·rw [List.getElem?_append_left hi] at hc
  have:=h.2 i c hc
  have hi':i<u.length:=by rw [←h.1];exact hi
  simp only [List.getD,List.getElem?_append_left hi'] at this ⊢
  exact this
 rw [List.getElem?_append_right Ab] at hc
 have:=k.2 _ c hc
 have hi':u.length≤i:=by rw [←h.1];omega
 rw [h.1] at this
 simp only [List.getD,List.getElem?_append_right hi'] at this ⊢
 exact this
variable {H : Type} {enc : TypeId × Value → H} {w : World} {base : Nat} {held : Bool}
theorem B15:∀(fuel:Nat) (t:TypeId) (cs:List Value) (r:DataW H×List MemPlace) (g:Nat),okT P g t=true→DataW.trod enc P w base (fun _=>true) held fuel t cs=some r→
  ∃xs,Oy w xs cs∧Gs P fuel t xs:=by
 intro fuel
 induction fuel with
 |zero=>intro t cs r g _ h;simp [DataW.trod] at h
 |succ fuel ih=>
  intro t cs r g hok h
  cases g with
  |zero=>simp [okT] at hok
  |succ g=>
   unfold okT at hok
   split at hok
   ·rename_i hu
    unfold DataW.trod at h
    rw [hu] at h
    split at h<;>simp_all
    rename_i b
    exact ⟨[.val (.bool b)],.one (.val _ rfl),by simp [Gs,hu]⟩
   ·rename_i k hu
    unfold DataW.trod at h
    rw [hu] at h
    split at h<;>simp_all
    rename_i n e
    subst e
    obtain ⟨⟨_,hw⟩,_⟩:=h
    exact ⟨[.val (.int k n)],.one (.val _ rfl),by simp [Gs,hu,B59 hw]⟩
   ·rename_i hu
    unfold DataW.trod at h
    rw [hu] at h
    split at h<;>simp_all
    rename_i b
    exact ⟨[.val (.string b)],.one (.val _ rfl),by simp [Gs,hu,h.1]⟩
   ·rename_i e hu
    simp only [Bool.and_eq_true] at hok
    obtain ⟨hpos,hok⟩:=hok
    have hpos:=Fp hpos
    unfold DataW.trod at h
    rw [hu] at h
    have key:(cs=[.slice none 0 0])∨∃a len cap,cs=[.slice (some a) len cap]∧len≤cap∧cap≤maxLen∧(0<cap→a.spot=none)∧
      ∀i,i<len→∃vs x,w.cells? base (a.add (i * P.cellsOf e)) (P.cellsOf e)=some vs∧DataW.trod enc P w base (fun _=>true) held fuel e vs=some x:=by
     split at h
     case h_7=>left;rfl
     case h_8 e' a len cap heq=>
      right
      simp only [Option.some.injEq,TypeDesc.slice.injEq] at heq
      subst heq
      refine ⟨a,len,cap,rfl,?_⟩
      simp only at h
      split at h
      ·rename_i hc
       obtain ⟨hb,hlc,hcm⟩:=hc
       obtain ⟨elems,he,h⟩:=Option.bind_eq_some_iff.1 h
       obtain ⟨rest,hr,_⟩:=Option.map_eq_some_iff.1 h
       obtain ⟨e1,e2⟩:=Rp he
       refine ⟨hlc,hcm,fun hcap=>?_,fun i hi=>?_⟩
       ·have spot0:∀vs,w.cells? base (a.add (0 * P.cellsOf e)) (P.cellsOf e)=some vs→a.spot=none:=by
         intro vs hv
         obtain ⟨_,hl,hc⟩:=World.cells?_some hv
         have h0:=hc 0 hpos
         have hlt:0<vs.length:=by omega
         rw [List.getElem?_eq_getElem hlt] at h0
         have:=World.cell?_spot h0
         simpa [Addr.add] using this
        by_cases hl:0<len
        ·obtain ⟨y,hy,_⟩:=e2 0 0 (by simp [hl])
         obtain ⟨vs,hv,hy⟩:=Option.bind_eq_some_iff.1 hy
         exact spot0 vs hv
        obtain rfl:len=0:=by omega
        simp only [if_true,Nat.sub_zero,Nat.zero_add] at hr
        obtain ⟨_,e4⟩:=Rp hr
        obtain ⟨y,hy,_⟩:=e4 0 0 (by simp [hcap])
        obtain ⟨vs,hv,hy⟩:=Option.bind_eq_some_iff.1 hy
        exact spot0 vs hv
       obtain ⟨y,hy,_⟩:=e2 i i (by simp [hi])
       obtain ⟨vs,hv,hy⟩:=Option.bind_eq_some_iff.1 hy
       exact ⟨vs,y,hv,hy⟩
      simp at h
     all_goals simp_all
    rcases key with rfl|⟨a,len,cap,rfl,hlc,hcm,hspot,hel⟩
    ·exact ⟨[.sl 0 (P.cellsOf e) fun _=>[]],.one (.nil _ _),by simp only [Gs,hu];exact ⟨0,_,Nat.zero_le _,rfl,fun _ h=>absurd h (Nat.not_lt_zero _)⟩⟩
    by_cases hcap:cap=0
    ·subst hcap
     obtain rfl:len=0:=by omega
     exact ⟨[.sl 0 (P.cellsOf e) fun _=>[]],.one (.emp _ _ _),by simp only [Gs,hu];exact ⟨0,_,Nat.zero_le _,rfl,fun _ h=>absurd h (Nat.not_lt_zero _)⟩⟩
    obtain ⟨b,off,spot⟩:=a
    obtain rfl:spot=none:=hspot Ab
    have hex:∀i,∃vs xs,i<len→w.cells? base ((⟨b,off,none⟩:Addr).add (i * P.cellsOf e)) (P.cellsOf e)=some vs∧Oy w xs vs∧Gs P fuel e xs:=by
     intro i
     by_cases hi:i<len
     ·obtain ⟨vs,x,h1,h2⟩:=hel i hi
      obtain ⟨xs,h3,h4⟩:=ih e vs x g hok h2
      exact ⟨vs,xs,fun _=>⟨h1,h3,h4⟩⟩
     exact ⟨[],[],fun h=>absurd h hi⟩
    have hex2:∀i,∃p:List Value×List Ac,i<len→w.cells? base ((⟨b,off,none⟩:Addr).add (i * P.cellsOf e)) (P.cellsOf e)=some p.1∧Oy w p.2 p.1∧Gs P fuel e p.2:=
     fun i=>let ⟨vs,xs,h⟩:=hex i;⟨(vs,xs),h⟩
    let p:=fun i=>Classical.choose (hex2 i)
    have hp:∀i,i<len→w.cells? base ((⟨b,off,none⟩:Addr).add (i * P.cellsOf e)) (P.cellsOf e)=some (p i).1∧Oy w (p i).2 (p i).1∧Gs P fuel e (p i).2:=fun i=>Classical.choose_spec (hex2 i)
    refine ⟨[.sl len (P.cellsOf e) fun i=>(p i).2],.one (.sl len (P.cellsOf e) _ b off cap (fun i j=>(p i).1.getD j undef) (fun _ h=>h) hlc hcm (fun i hi=>?_) (fun i j hi hj=>?_) (fun i j c hi hc=>?_)),?_⟩
    ·obtain ⟨h1,h2,_⟩:=hp i hi
     obtain ⟨_,hl,_⟩:=World.cells?_some h1
     rw [h2.1,hl]
    ·obtain ⟨h1,h2,_⟩:=hp i hi
     obtain ⟨_,hl,hc⟩:=World.cells?_some h1
     have h0:=hc j hj
     have hlt:j<(p i).1.length:=by omega
     have e1:((⟨b,off,none⟩:Addr).add (i * P.cellsOf e)).add j=⟨b,off+i * P.cellsOf e+j,none⟩:=by
      simp only [Addr.add]
      split<;>split<;>simp_all<;>omega
     rw [e1] at h0
     rw [h0,List.getElem?_eq_getElem hlt]
     simp [List.getD,hlt]
    ·exact (hp i hi).2.1.2 j c hc
    simp only [Gs,hu]
    exact ⟨len,_,by omega,rfl,fun i hi=>(hp i hi).2.2⟩
   ·rename_i fs hu
    simp only [Bool.and_eq_true,beq_iff_eq,List.all_eq_true] at hok
    obtain ⟨hct,hall⟩:=hok
    unfold DataW.trod at h
    rw [hu] at h
    have key:cs.length=P.cellsOf t∧∀F∈fs.toList,∃x,DataW.trod enc P w base (fun _=>true) held fuel F.type ((cs.drop F.offset).take (P.cellsOf F.type))=some x:=by
     split at h
     case h_9 fs' heq=>
      simp only [Option.some.injEq,TypeDesc.struct.injEq] at heq
      subst heq
      split at h
      ·rename_i hl
       obtain ⟨xs,hx,_⟩:=Option.map_eq_some_iff.1 h
       obtain ⟨_,e2⟩:=Rp hx
       refine ⟨hl,fun F hF=>?_⟩
       obtain ⟨i,hi⟩:=List.mem_iff_getElem?.1 hF
       obtain ⟨y,hy,_⟩:=e2 i F hi
       exact ⟨y,hy⟩
      simp at h
     all_goals simp_all
    obtain ⟨hlen,hf⟩:=key
    have main:∀(l:List Field) (o:Nat),Tx P o l=some (P.cellsOf t)→(∀F∈l,F∈fs.toList)→∃xs,Oy w xs (cs.drop o)∧Yh (Gs P fuel) (l.map (·.type)) xs:=by
     intro l
     induction l with
     |nil=>
      intro o ho _
      simp only [Tx,Option.some.injEq] at ho
      refine ⟨[],⟨by simp [ho,hlen],by simp⟩,rfl⟩
     |cons F r ihl=>
      intro o ho hm
      unfold Tx at ho
      split at ho
      ·rename_i hoff
       obtain ⟨x,hx⟩:=hf F (hm F Bw)
       obtain ⟨xs,h1,h2⟩:=ih F.type _ x g (hall F (hm F Bw)) hx
       obtain ⟨ys,h3,h4⟩:=ihl _ ho (fun G hG=>hm G (by simp [hG]))
       refine ⟨xs++ys,?_,xs,ys,rfl,h2,h4⟩
       have e:cs.drop o=(cs.drop F.offset).take (P.cellsOf F.type)++cs.drop (o+P.cellsOf F.type):=by
        rw [hoff,←List.drop_drop,List.take_append_drop]
       rw [e]
       exact h1.append h3
      simp at ho
    obtain ⟨xs,h1,h2⟩:=main fs.toList 0 hct (fun _ h=>h)
    exact ⟨xs,by simpa using h1,by simpa [Gs,hu] using h2⟩
   simp at hok
end Go.Sx
namespace Go.Sx
open Go.RowKit (Below)
variable {P : Program} {T : List (TypeId × TI)}
abbrev vi (n:Int):Ac:= .val (.int .i64 n)
abbrev vb (b:Bool):Ac:= .val (.bool b)
abbrev vs (b:ByteArray):Ac:= .val (.string b)
def Is {α:Type} [Inhabited α] (es:Nat) (e:α→List Ac) (xs:List α):Ac:= .sl xs.length es fun i=>e (xs.getD i default)
theorem O5 {α:Type} [Inhabited α] (es:Nat)(e:α→List Ac)(xs ys:List α):
  Pt xs.length ys.length es (fun i=>e (xs.getD i default)) (fun i=>e (ys.getD i default)) (Is es e (xs++ys)):=by
 refine ⟨_,by rw [Is,List.length_append],fun i hi=>?_,fun i hi=>?_⟩
 ·simp [List.getD,List.getElem?_append_left hi]
 simp [List.getD,List.getElem?_append_right]
theorem Aa {α:Type} [Inhabited α] {es:Nat}{e:α→List Ac}{xs:List α}{x:α}{row:Nat→List Ac}(h:row 0=e x):
  Pt xs.length 1 es (fun i=>e (xs.getD i default)) row (Is es e (xs++[x])):=by
 refine ⟨_,by rw [Is,List.length_append];rfl,fun i hi=>?_,fun i hi=>?_⟩
 ·simp [List.getD,List.getElem?_append_left hi]
 obtain rfl:i=0:=by omega
 simp [List.getD,h]
theorem Cb {α:Type} [Inhabited α] {es:Nat}{e:α→List Ac}{xs:List α}{j off:Nat}{x:α}{cs:List Ac}(hj:j<xs.length)(h:D4 (e (xs.getD j default)) off cs=e x):
  O8 xs.length es (fun i=>e (xs.getD i default)) j off cs (Is es e (xs.set j x)):=by
 refine ⟨_,by rw [Is,List.length_set],fun i hi hne=>?_,?_⟩
 ·simp [List.getD,List.getElem?_set_ne (Ne.symm hne)]
 rw [h]
 simp [List.getD,hj]
end Go.Sx
namespace Go.Sx
open Go.RowKit (Below)
variable {P : Program} {T : List (TypeId × TI)}
theorem Pe {B:Ax}{E:Cv}{s:AS}{a:Act}{w:World}(h:s.is B E a w){ks:List Nat}(hk:ks.Nodup)(hm:∀k∈ks,∃y∈s.own,y.key=k):(ks.flatMap E.fp).Nodup:=by
 refine C3.2 ⟨fun k hk'=>?_,?_⟩
 ·obtain ⟨y,hy,rfl⟩:=hm k hk'
  exact (h.own y hy).2.2
 refine List.Pairwise.imp_of_mem ?_ hk
 intro k j hk' hj' hne b hb hb'
 obtain ⟨y,hy,rfl⟩:=hm k hk'
 obtain ⟨z,hz,rfl⟩:=hm j hj'
 exact h.sep y hy z hz hne b hb hb'
end Go.Sx
namespace Go.Sx
open Go.RowKit (Below)
variable {P : Program} {T : List (TypeId × TI)}
def B7r (n:Nat) (ins:List Fz):AS:= {next:=0,slots:=List.replicate (1+ins.length+(n-(1+ins.length))) .any,boxes:=[],own:=[]}
structure B7e (W:World) (may:Nat→Prop) (v:Value) (y:Fz) (outs:List Value) (w':World) (e:Ending):Prop where
 res:e= .returned (Ii outs)
 own:∃fp',Jt w' y v fp'∧fp'.Nodup∧∀b∈fp',may b∨W.heap.size≤b
 kept:A6e may W w'
end Go.Sx
