/- Part 2 of the proof that each of the laws FnScriptsBack returns true for every input. No conditions. -/
import Derived.Test.YtmhcebdkjgkmlaaGreatDoorR1
import GoSem.ClaimChange
import Derived.DataReads

set_option linter.unusedSimpArgs false
set_option linter.unusedVariables false
namespace Go.Sx
open Go.RowKit (Below)
variable {P : Program} {T : List (TypeId × TI)}
inductive Cap where
 |one (c:Ad)
 |ptr (cs:List Ad)
inductive Hb where
 |one (c:Ad)
 |agg (cs:List Ad)
 |ptr (cs:List Ad)
 |fn (f:FuncId) (ao:List Cap)
def Q5 (w:World) (A:Nat→Prop) (cs:List Ad) (v:Value):Prop:=
 ∃b o cap,v= .pointer (some ⟨b,o,none⟩)∧Qz w A (.sl 1 cs.length fun _=>cs) (.slice (some ⟨b,o,none⟩) 1 cap)
def C3r (w:World) (A:Nat→Prop):Cap→Value→Prop
 | .one c,v=>Qz w A c v
 | .ptr cs,v=>Q5 w A cs v
def P3 (w:World) (A:Nat→Prop):Hb→Value→Prop
 | .one c,v=>Qz w A c v
 | .agg cs,v=>∃vs:List Value,v= .agg vs.toArray∧vs.length=cs.length∧∀i c,cs[i]? =some c→Qz w A c (vs.getD i undef)
 | .ptr cs,v=>Q5 w A cs v
 | .fn f ao,v=>∃vs:List Value,v= .func (.func f) #[] vs.toArray∧vs.length=ao.length∧∀i c,ao[i]? =some c→C3r w A c (vs.getD i undef)
def P2 (w:World) (x:Hb) (v:Value) (fp:List Nat):Prop:=
 match x with
 | .one c=>Bz w c v fp
 | .agg cs=>∃(vs:List Value) (fps:Nat→List Nat),v= .agg vs.toArray∧vs.length=cs.length∧(∀i c,cs[i]? =some c→Bz w c (vs.getD i undef) (fps i))∧fp=(List.range cs.length).flatMap fps
 | .ptr _=>False
 | .fn _ _=>False
def J6 (rs:List Value):Value:=
 match rs with
 | [v]=>v
 |rs=> .tuple rs.toArray
structure Jp (w w':World) (ax:List Hb) (e:Ending):Prop where
 below:Below w.heap.size w w'
 res:∃(rs:List Value) (fps:Nat→List Nat),e= .returned (J6 rs)∧rs.length=ax.length∧(∀i y,ax[i]? =some y→P2 w' y (rs.getD i undef) (fps i))∧
  (∀i,i<ax.length→(fps i).Nodup∧∀b∈fps i,w.heap.size≤b)∧∀i j,i<ax.length→j<ax.length→i≠j→∀b∈fps i,b∉fps j
def Sf (P:Program) (f:FuncId) (ins ax:List Hb):Prop:=
 Lm P f∧∀(w:World) (vs:List Value),vs.length=ins.length→(∀i x,ins[i]? =some x→P3 w (fun _=>False) x (vs.getD i undef))→
  Calls P f vs.toArray w fun e w'=>Jp w w' ax e
def A4s (own:List Ow) (x:AV):Option Ad:=
 match x with
 | .c c=>some c
 | .own k=>Bm own k
 |_=>none
def A9t (own:List Ow) (l:List AV):Option (List Ad):=
 match l with
 | []=>some []
 |x::r=>match A4s own x with
  |some c=>match A9t own r with
   |some cs=>some (c::cs)
   |none=>none
  |none=>none
def B93 (s:AS) (x:AV):Option (List Ad):=
 match x with
 | .box k off=>match Nat.beq off 0,Fq s.aw k with
  |true,some b=>A9t s.own b.cells
  |_,_=>none
 | .el _ _ row i off=>match Nat.beq off 0 with
  |true=>some (row i.toNat)
  |false=>none
 |_=>none
def B9b (s:AS) (x:AV):Option Cap:=
 match A4s s.own x with
 |some c=>some (.one c)
 |none=>match B93 s x with
  |some cs=>some (.ptr cs)
  |none=>none
def B1i (s:AS) (l:List AV):Option (List Cap):=
 match l with
 | []=>some []
 |x::r=>match B9b s x with
  |some c=>match B1i s r with
   |some cs=>some (c::cs)
   |none=>none
  |none=>none
def B86 (s:AS) (x:AV):Option Hb:=
 match x with
 | .agg xs=>match A9t s.own xs with
  |some cs=>some (.agg cs)
  |none=>none
 | .fn f xs=>match B1i s xs with
  |some cs=>some (.fn f cs)
  |none=>none
 |x=>match A4s s.own x with
  |some c=>some (.one c)
  |none=>match B93 s x with
   |some cs=>some (.ptr cs)
   |none=>none
def Ir (s:AS) (l:List AV):Option (List Hb):=
 match l with
 | []=>some []
 |x::r=>match B86 s x with
  |some c=>match Ir s r with
   |some cs=>some (c::cs)
   |none=>none
  |none=>none
variable {A : Nat → Prop} {c : Ad} {v : Value}
theorem Qz.wide {w:World}(h:Qz w A c v):Qz w (fun _=>False) c v:=
 h.move (fun _ _ _=>rfl) (fun _ _ h=>h.elim)
variable {B : Er} {E : Fl} {s : AS} {a : Act} {x : AV}
theorem V9 {w:World}(h:s.is B E a w)(hx:A4s s.own x=some c)(hd:D0 E w (s.ag E) s.next x v):Qz w (fun _=>False) c v:=by
 unfold A4s at hx
 split at hx
 ·obtain rfl:=Bv hx
  cases hd with
  |c hr=>exact hr.wide
 ·cases hd with
  |own hk=>exact (h.own _ (Ca hx)).2.1.rep (fun _ _ h=>h)
 simp at hx
variable {own : List Ow} {l : List AV} {cs : List Ad}
theorem A1a (h:A9t own l=some cs):cs.length=l.length∧∀(i:Nat) (c:Ad),cs[i]? =some c→∃x:AV,l[i]? =some x∧A4s own x=some c:=by
 induction l generalizing cs with
 |nil=>obtain rfl:=Bv h;simp
 |cons x r ih=>
  unfold A9t at h
  split at h
  ·rename_i c hc
   split at h
   ·rename_i cs' hcs
    obtain rfl:=Bv h;obtain ⟨h1,h2⟩:=ih hcs;refine ⟨by simp [h1],fun i d hd=>?_⟩
    cases i with
    |zero=>simp only [H3,Em] at hd;subst hd;exact ⟨x,by simp,hc⟩
    |succ i=>simpa using h2 i d (by simpa using hd)
   simp at h
  simp at h
theorem Is {cs:List Hb}(h:Ir s l=some cs):cs.length=l.length∧∀(i:Nat) (c:Hb),cs[i]? =some c→∃x:AV,l[i]? =some x∧B86 s x=some c:=by
 induction l generalizing cs with
 |nil=>obtain rfl:=Bv h;simp
 |cons x r ih=>
  unfold Ir at h
  split at h
  ·rename_i c hc
   split at h
   ·rename_i cs' hcs
    obtain rfl:=Bv h;obtain ⟨h1,h2⟩:=ih hcs;refine ⟨by simp [h1],fun i d hd=>?_⟩
    cases i with
    |zero=>simp only [H3,Em] at hd;subst hd;exact ⟨x,by simp,hc⟩
    |succ i=>simpa using h2 i d (by simpa using hd)
   simp at h
  simp at h
theorem B0s {w:World}(h:s.is B E a w)(hx:B93 s x=some cs)(hd:D0 E w (s.ag E) s.next x v):Q5 w (fun _=>False) cs v:=by
 unfold B93 at hx
 split at hx
 ·rename_i k off
  split at hx
  ·rename_i b hoff hb
   obtain rfl:=F7 hoff;obtain ⟨hm,rfl⟩:=F9 hb;obtain ⟨_,vs,ty,h1,h2,h3⟩:=h.aw b hm;obtain ⟨g1,g2⟩:=A1a hx
   cases hd with
   |box _ hk=>
    refine ⟨_,_,1,rfl,.sl 1 cs.length _ (E.β b.key) 0 1 (fun i j=>vs.getD (i * cs.length+j) undef) (fun _ h=>h) (Bu _) (by simp only [maxLen];omega) (fun _ _=>rfl) (fun i j hi hj=>?_) (fun i j c hi hc=>?_)⟩
    ·obtain rfl:i=0:=by omega
     have hj':0+0 * cs.length+j<vs.size:=by omega
     rw [cell_of_row w _ _ vs ty (0,0) h1]
     simp [Array.getD,show j<vs.size by omega]
    obtain rfl:i=0:=by omega
    obtain ⟨y,hy,hyc⟩:=g2 j c hc
    have:=V9 h hyc (h3 j y hy)
    simpa using this
  simp at hx
 ·rename_i n es row i off
  split at hx
  ·rename_i hoff
   obtain rfl:=F7 hoff;obtain rfl:=Bv hx
   cases hd with
   |el _ b o cap hs h0 hi=>
    obtain ⟨j,rfl⟩:=Ud h0;simp only [Cp,Z4] at *
    cases hs with
    |emp=>omega
    |sl _ _ _ _ _ _ u hA hn hc hl hu hr=>
     refine ⟨b,o+j * es+0,1,rfl,.sl 1 (row j).length _ b (o+j * es+0) 1 (fun _ m=>u j m) (fun _ h=>h) (Bu _) (by simp only [maxLen];omega) (fun _ _=>rfl) (fun i m hi' hm=>?_) (fun i m c hi' hc'=>?_)⟩
     ·obtain rfl:i=0:=by omega
      have:=hu j m hi (by rw [←hl j hi];exact hm)
      rw [←this]
      congr 2
      omega
     exact (hr j m c hi hc').wide
  simp at hx
 simp at hx
theorem C1c {w:World}(h:s.is B E a w){c:Cap}(hx:B9b s x=some c)(hd:D0 E w (s.ag E) s.next x v):C3r w (fun _=>False) c v:=by
 unfold B9b at hx
 split at hx
 ·rename_i c' hc
  obtain rfl:=Bv hx;exact V9 h hc hd
 split at hx
 ·rename_i cs hcs
  obtain rfl:=Bv hx;exact B0s h hcs hd
 simp at hx
theorem B61 {cs:List Cap}(h:B1i s l=some cs):cs.length=l.length∧∀(i:Nat) (c:Cap),cs[i]? =some c→∃x:AV,l[i]? =some x∧B9b s x=some c:=by
 induction l generalizing cs with
 |nil=>obtain rfl:=Bv h;simp
 |cons x r ih=>
  unfold B1i at h
  split at h
  ·rename_i c hc
   split at h
   ·rename_i cs' hcs
    obtain rfl:=Bv h;obtain ⟨h1,h2⟩:=ih hcs;refine ⟨by simp [h1],fun i d hd=>?_⟩
    cases i with
    |zero=>simp only [H3,Em] at hd;subst hd;exact ⟨x,by simp,hc⟩
    |succ i=>simpa using h2 i d (by simpa using hd)
   simp at h
  simp at h
theorem K4 {w:World}(h:s.is B E a w){c:Hb}(hx:B86 s x=some c)(hd:D0 E w (s.ag E) s.next x v):P3 w (fun _=>False) c v:=by
 unfold B86 at hx
 split at hx
 ·split at hx
  ·rename_i xs cs hcs
   obtain rfl:=Bv hx;obtain ⟨h1,h2⟩:=A1a hcs
   cases hd with
   |agg vs hl hv=>
    refine ⟨vs,rfl,by omega,fun i c hc=>?_⟩;obtain ⟨y,hy,hyc⟩:=h2 i c hc;exact V9 h hyc (hv i y hy)
  simp at hx
 ·split at hx
  ·rename_i f xs cs hcs
   obtain rfl:=Bv hx;obtain ⟨h1,h2⟩:=B61 hcs
   cases hd with
   |fn vs hl hv=>
    refine ⟨vs,rfl,by omega,fun i c hc=>?_⟩;obtain ⟨y,hy,hyc⟩:=h2 i c hc;exact C1c h hyc (hv i y hy)
  simp at hx
 split at hx
 ·rename_i c hc
  obtain rfl:=Bv hx;exact V9 h hc hd
 split at hx
 ·rename_i cs hcs
  obtain rfl:=Bv hx;exact B0s h hcs hd
 simp at hx
open Go.RowKit (Below)
def D10:Cap→AV
 | .one c=> .c c
 | .ptr cs=> .el 1 cs.length (fun _=>cs) 0 0
def Lb:Hb→AV
 | .one c=> .c c
 | .agg cs=> .agg (cs.map AV.ofCell)
 | .ptr cs=> .el 1 cs.length (fun _=>cs) 0 0
 | .fn f ao=> .fn f (ao.map D10)
def Pi (ax:List Hb):AV:=
 match ax with
 | [o]=>Lb o
 |ax=> .tup (ax.map Lb)
def B1d (c:Ad) (s:AS):AV×AS:=
 match c with
 | .val _=>(.c c,s)
 | .sl _ _ _=>(.own s.next,s.addOwn c)
def Hc (cs:List Ad) (s:AS):List AV×AS:=
 match cs with
 | []=>([],s)
 |c::r=>match B1d c s with
  |(x,s1)=>match Hc r s1 with
   |(xs,s2)=>(x::xs,s2)
def Te (x:Hb) (s:AS):AV×AS:=
 match x with
 | .one c=>B1d c s
 | .agg cs=>match Hc cs s with
  |(xs,s')=>(.agg xs,s')
 | .ptr _=>(.agg [],s)
 | .fn _ _=>(.agg [],s)
def Do (l:List Hb) (s:AS):List AV×AS:=
 match l with
 | []=>([],s)
 |c::r=>match Te c s with
  |(x,s1)=>match Do r s1 with
   |(xs,s2)=>(x::xs,s2)
def Gi (ax:List Hb) (s:AS):AV×AS:=
 match ax with
 | [o]=>Te o s
 |ax=>match Do ax s with
  |(xs,s')=>(.tup xs,s')
structure B80 (B:Er) (A:Nat→Prop) (a:Act) (w:World) (s s':AS) (E E':Fl) (fp:List Nat):Prop where
 isA:s'.isA B E' A a w
 keep:∀k,k<s.next→E'.β k=E.β k∧E'.ov k=E.ov k
 next:s.next≤s'.next
 ag:∀b,s'.ag E' b→s.ag E b∨b∈fp
theorem B83 {w : World} (h : s.isA B E A a w) {fp : List Nat} (ho : Bz w c v fp) (hn : fp.Nodup) (hA : ∀ b ∈ fp, A b ∧ ¬ s.ag E b ∧ B.fresh b) : ∃ E', B80 B A a w s (B1d c s).2 E E' fp ∧ D0 E' w A (B1d c s).2.next (B1d c s).1 v := by
  cases ho with
  | val _ hv => exact ⟨E, ⟨h, fun _ _ => ⟨rfl, rfl⟩, Bu _, fun b hb => .inl hb⟩, .c (.val v hv)⟩
  | nil es row =>
    obtain ⟨h1, h2⟩ := h.addOwn (.nil es row) hn hA
    exact ⟨_, ⟨h1, fun k hk => by have : k ≠ s.next := by omega
                                  exact Fl.withOwn_keep _ _ _ _ this, Z5 _, fun b hb => by
      rcases hb with ⟨x, hx, rfl⟩ | ⟨y, hy, hb⟩
      · refine .inl (.inl ⟨x, hx, ?_⟩)
        have h1 := (h.aw x hx).1;have : x.key ≠ s.next := by omega
        exact (Fl.withOwn_keep _ _ _ _ this).1.symm
      · rcases C7.1 hy with rfl | hy
        · right; simp [Fl.withOwn] at hb
        · have : y.key ≠ s.next := by have := (h.own y hy).1; omega
          exact .inl (.inr ⟨y, hy, by simpa [Fl.withOwn, this] using hb⟩)⟩, h2⟩
  | emp es row b0 o0 =>
    obtain ⟨h1, h2⟩ := h.addOwn (.emp es row b0 o0) hn hA
    exact ⟨_, ⟨h1, fun k hk => by have : k ≠ s.next := by omega
                                  exact Fl.withOwn_keep _ _ _ _ this, Z5 _, fun b hb => by
      rcases hb with ⟨x, hx, rfl⟩ | ⟨y, hy, hb⟩
      · refine .inl (.inl ⟨x, hx, ?_⟩)
        have h1 := (h.aw x hx).1;have : x.key ≠ s.next := by omega
        exact (Fl.withOwn_keep _ _ _ _ this).1.symm
      · rcases C7.1 hy with rfl | hy
        · right; simp [Fl.withOwn] at hb
        · have : y.key ≠ s.next := by have := (h.own y hy).1; omega
          exact .inl (.inr ⟨y, hy, by simpa [Fl.withOwn, this] using hb⟩)⟩, h2⟩
  | sl n es row b off cap ty cells fps hn' hc hb hs hl hr =>
    obtain ⟨h1, h2⟩ := h.addOwn (.sl n es row b off cap ty cells fps hn' hc hb hs hl hr) hn hA
    exact ⟨_, ⟨h1, fun k hk => by have : k ≠ s.next := by omega
                                  exact Fl.withOwn_keep _ _ _ _ this, Z5 _, fun b hb => by
      rcases hb with ⟨x, hx, rfl⟩ | ⟨y, hy, hb⟩
      · refine .inl (.inl ⟨x, hx, ?_⟩)
        have h1 := (h.aw x hx).1;have : x.key ≠ s.next := by omega
        exact (Fl.withOwn_keep _ _ _ _ this).1.symm
      · rcases C7.1 hy with rfl | hy
        · right; simpa [Fl.withOwn] using hb
        · have : y.key ≠ s.next := by have := (h.own y hy).1; omega
          exact .inl (.inr ⟨y, hy, by simpa [Fl.withOwn, this] using hb⟩)⟩, h2⟩
theorem A4n {w:World}:∀(cs:List Ad) (vs:List Value) (fps:Nat→List Nat) (s:AS) (E:Fl),s.isA B E A a w→vs.length=cs.length→
  (∀i c,cs[i]? =some c→Bz w c (vs.getD i undef) (fps i))→((List.range cs.length).flatMap fps).Nodup→
  (∀b∈(List.range cs.length).flatMap fps,A b∧¬ s.ag E b∧B.fresh b)→
  ∃E',B80 B A a w s (Hc cs s).2 E E' ((List.range cs.length).flatMap fps)∧(Hc cs s).1.length=cs.length∧
   ∀i x,(Hc cs s).1[i]? =some x→D0 E' w A (Hc cs s).2.next x (vs.getD i undef):=by
 intro cs
 induction cs with
 |nil=>intro vs fps s E h _ _ _ _;exact ⟨E,⟨h,fun _ _=>⟨rfl,rfl⟩,Bu _,fun b hb=> .inl hb⟩,rfl,by simp [Hc]⟩
 |cons c cs ih=>
  intro vs fps s E h hl hr hn hA
  match vs,hl with
  |v::vs,hl=>
   have hfl:(List.range (c::cs).length).flatMap fps=fps 0++(List.range cs.length).flatMap (fun i=>fps (i+1)):=by
    simp [A77,Z7,Rx]
   rw [hfl] at hn hA ⊢;obtain ⟨n1,n2,n3⟩:=A78.1 hn;obtain ⟨E1,A1,D1⟩:=B83 h (by simpa using hr 0 c rfl) n1 (fun b hb=>hA b (A79 _ hb))
   obtain ⟨E2,A2,L2,D2⟩:=ih vs (fun i=>fps (i+1)) (B1d c s).2 E1 A1.isA (by simpa using hl) (fun i d hd=>by simpa using hr (i+1) d (by simpa using hd)) n2 (fun b hb=>by
    obtain ⟨g1,g2,g3⟩:=hA b (A8a _ hb);refine ⟨g1,fun hav=>?_,g3⟩
    rcases A1.ag b hav with h|h
    ·exact g2 h
    exact n3 b h b hb rfl)
   refine ⟨E2,⟨A2.isA,fun k hk=>?_,G0 A1.next A2.next,fun b hb=>?_⟩,by simp [Hc,L2],fun i x hx=>?_⟩
   ·have h1:=A1.keep k hk
    have h2:=A2.keep k (Kk hk A1.next);exact ⟨h2.1.trans h1.1,h2.2.trans h1.2⟩
   ·rcases A2.ag b hb with h|h
    ·rcases A1.ag b h with h|h
     ·exact .inl h
     exact .inr (A79 _ h)
    exact .inr (A8a _ h)
   cases i with
   |zero=>
    obtain rfl:(B1d c s).1=x:=by simpa [Hc] using hx
    simpa [Hc] using D1.move A2.next A2.keep (fun _ _ _=>rfl) (fun _ _ hb=>hb)
   |succ i=>simpa [Hc] using D2 i x (by simpa [Hc] using hx)
theorem C0u {w:World}(y:Hb)(v:Value)(fp:List Nat)(s:AS)(E:Fl)(h:s.isA B E A a w)(ho:P2 w y v fp)(hn:fp.Nodup)(hA:∀b∈fp,A b∧¬ s.ag E b∧B.fresh b):∃E',B80 B A a w s (Te y s).2 E E' fp∧D0 E' w A (Te y s).2.next (Te y s).1 v:=by
 cases y with
 |one c=>exact B83 h ho hn hA
 |agg cs=>
  obtain ⟨vs,fps,rfl,hl,hr,rfl⟩:=ho;obtain ⟨E',h1,h2,h3⟩:=A4n cs vs fps s E h hl hr hn hA;exact ⟨E',h1,.agg vs (by rw [h2];exact hl) h3⟩
 |ptr cs=>exact ho.elim
 |fn f ao=>exact ho.elim
theorem M6 {w:World}:∀(l:List Hb) (vs:List Value) (fps:Nat→List Nat) (s:AS) (E:Fl),s.isA B E A a w→vs.length=l.length→
  (∀i y,l[i]? =some y→P2 w y (vs.getD i undef) (fps i))→(∀i,i<l.length→(fps i).Nodup)→(∀i j,i<l.length→j<l.length→i≠j→∀b∈fps i,b∉fps j)→
  (∀i,i<l.length→∀b∈fps i,A b∧¬ s.ag E b∧B.fresh b)→
  ∃E',B80 B A a w s (Do l s).2 E E' ((List.range l.length).flatMap fps)∧(Do l s).1.length=l.length∧
   ∀i x,(Do l s).1[i]? =some x→D0 E' w A (Do l s).2.next x (vs.getD i undef):=by
 intro l
 induction l with
 |nil=>intro vs fps s E h _ _ _ _ _;exact ⟨E,⟨h,fun _ _=>⟨rfl,rfl⟩,Bu _,fun b hb=> .inl hb⟩,rfl,by simp [Do]⟩
 |cons c cs ih=>
  intro vs fps s E h hl hr hn hd hA
  match vs,hl with
  |v::vs,hl=>
   have hfl:(List.range (c::cs).length).flatMap fps=fps 0++(List.range cs.length).flatMap (fun i=>fps (i+1)):=by
    simp [A77,Z7,Rx]
   rw [hfl];obtain ⟨E1,A1,D1⟩:=C0u c v (fps 0) s E h (by simpa using hr 0 c rfl) (hn 0 Ef) (hA 0 Ef)
   obtain ⟨E2,A2,L2,D2⟩:=ih vs (fun i=>fps (i+1)) (Te c s).2 E1 A1.isA (by simpa using hl) (fun i d hd=>by simpa using hr (i+1) d (by simpa using hd)) (fun i hi=>hn (i+1) (by simpa using hi))
    (fun i j hi hj hne=>hd (i+1) (j+1) (by simpa using hi) (by simpa using hj) A7) (fun i hi b hb=>by
    obtain ⟨g1,g2,g3⟩:=hA (i+1) (by simpa using hi) b hb;refine ⟨g1,fun hav=>?_,g3⟩
    rcases A1.ag b hav with h|h
    ·exact g2 h
    exact hd 0 (i+1) Ef (by simpa using hi) A7 b h hb)
   refine ⟨E2,⟨A2.isA,fun k hk=>?_,G0 A1.next A2.next,fun b hb=>?_⟩,by simp [Do,L2],fun i x hx=>?_⟩
   ·have h1:=A1.keep k hk
    have h2:=A2.keep k (Kk hk A1.next);exact ⟨h2.1.trans h1.1,h2.2.trans h1.2⟩
   ·rcases A2.ag b hb with h|h
    ·rcases A1.ag b h with h|h
     ·exact .inl h
     exact .inr (A79 _ h)
    exact .inr (A8a _ h)
   cases i with
   |zero=>
    obtain rfl:(Te c s).1=x:=by simpa [Do] using hx
    simpa [Do] using D1.move A2.next A2.keep (fun _ _ _=>rfl) (fun _ _ hb=>hb)
   |succ i=>simpa [Do] using D2 i x (by simpa [Do] using hx)
variable {N : Nat}
theorem G7 {w:World}(l:List Hb)(xs:List AV)(rs:List Value)(hl:rs.length=l.length)(hx:xs.length=l.length)(hd:∀i x,xs[i]? =some x→D0 E w A N x (rs.getD i undef)):
  D0 E w A N (match xs with| [x]=>x|xs=> .tup xs) (J6 rs):=by
 match xs,rs,hx,hl with
 | [],[],_,_=>exact .tup [] rfl Ef
 | [x],[v],_,_=>exact hd 0 x rfl
 |x::y::xs,u::v::rs,hx,hl=>exact .tup (u::v::rs) (by simp at hx hl ⊢;omega) hd
 | [],_::_,hx,hl=>simp at hx hl;omega
 | [_],[],hx,hl=>simp at hx hl;omega
 | [_],_::_::_,hx,hl=>simp at hx hl;omega
 |_::_::_,[],hx,hl=>simp at hx hl;omega
 |_::_::_,[_],hx,hl=>simp at hx hl;omega
theorem Sg (ax:List Hb)(s:AS):Gi ax s=((match (Do ax s).1 with| [x]=>x|xs=> .tup xs),(Do ax s).2):=by
 match ax with
 | []=>rfl
 | [o]=>simp [Gi,Do]
 |o1::o2::r=>simp [Gi,Do]
variable {Q : Exit → Act → World → Prop} {q : Bool} {xs : List AV} {dst : Option Tmp} {K : List KI} {ins : List Hb} {ax : List Hb}
theorem C4f {f:FuncId}(hf:Sf P f ins ax)(hx:Ir s xs=some ins)(h:G P B Q K ((Gi ax s).2.put dst (Gi ax s).1)):A2i P B Q q f xs dst K s:=by
 refine ⟨hf.1,fun E a w hs vs hl hv=>?_⟩;obtain ⟨h1,h2⟩:=Is hx;refine (hf.2 w vs A7 (fun i x hi=>?_)).mono (fun e w' hg=>?_)
 ·obtain ⟨y,hy,hc⟩:=h2 i x hi
  exact K4 hs hc (hv i y hy)
 obtain ⟨hb,rs,fps,rfl,hrl,hro,hfr,hdis⟩:=hg;have hA:=hs.call hb
 obtain ⟨E',hAd,hL,hD⟩:=M6 ax rs fps s E hA hrl hro (fun i hi=>(hfr i hi).1) hdis (fun i hi b hb'=>by
  have hge:=(hfr i hi).2 b hb';refine ⟨.inr hge,fun hav=>?_,.inl (G0 hs.base.size hge)⟩
  have:=hs.avoid_lt hav
  omega)
 have hres:=G7 ax (Do ax s).1 rs hrl hL hD;rw [Sg] at h;exact ⟨_,rfl,fun _=> .of_below hb,h E' _ w' ((hAd.isA.put dst hres).is)⟩
theorem C70 {f:FuncId}(hf:Sf P f ins ax)(hx:Ir s xs=some ins)(h:G P B Q K (s.put dst (Pi ax))):A2i P B Q q f xs dst K s:=by
 refine ⟨hf.1,fun E a w hs vs hl hv=>?_⟩;obtain ⟨h1,h2⟩:=Is hx;refine (hf.2 w vs A7 (fun i x hi=>?_)).mono (fun e w' hg=>?_)
 ·obtain ⟨y,hy,hc⟩:=h2 i x hi
  exact K4 hs hc (hv i y hy)
 obtain ⟨hb,rs,fps,rfl,hrl,hro,hfr,hdis⟩:=hg;have hI:=(hs.call hb).is
 have hno:∀i,i<ax.length→∀b∈fps i,¬ s.ag E b:=fun i hi b hb' hav=>by
  have:=hs.avoid_lt hav
  have:=(hfr i hi).2 b hb'
  omega
 have hone:∀i y,ax[i]? =some y→D0 E w' (s.ag E) s.next (Lb y) (rs.getD i undef):=by
  intro i y hy;have hi:i<ax.length:=(Cu.1 hy).1;have ho:=hro i y hy
  cases y with
  |one c=>exact .c (Bz.rep ho (hno i hi))
  |agg cs=>
   obtain ⟨us,gps,hu,hul,hur,hfp⟩:=ho;rw [hu];refine .agg us (by simp [hul]) (fun j x hj=>?_);simp only [Ec,E9] at hj;obtain ⟨c,hc,rfl⟩:=hj;have hj:j<cs.length:=(Cu.1 hc).1;exact .c ((hur j c hc).rep (fun b hb'=>hno i hi b (by rw [hfp];exact Dp hj hb')))
  |ptr cs=>exact ho.elim
  |fn f ao=>exact ho.elim
 have hres:D0 E w' (s.ag E) s.next (Pi ax) (J6 rs):=by
  have:=G7 (E:=E) (A:=s.ag E) (N:=s.next) (w:=w') ax (ax.map Lb) rs hrl Ef (fun i x hi=>by
   simp only [Ec,E9] at hi;obtain ⟨y,hy,rfl⟩:=hi
   exact hone i y hy)
  match ax,this with
  | [],this=>exact this
  | [o],this=>exact this
  |o1::o2::r,this=>exact this
 exact ⟨_,rfl,fun _=> .of_below hb,h E _ w' (hI.put dst hres)⟩
theorem Q5.den {w:World}{A':Nat→Prop}(h:Q5 w A cs v)(hA:∀b,A' b→A b):D0 E w A' N (.el 1 cs.length (fun _=>cs) 0 0) v:=by
 obtain ⟨b,o,cap,rfl,hr⟩:=h
 have:=D0.el (E:=E) (N:=N) (i:=0) 0 b o cap (hr.move (A':=A') (fun _ _ _=>rfl) (fun b _ hb=>hA b hb)) Bk Bk
 simpa using this
def Dg (n:Nat) (ins:List Hb):AS:= {next:=0,ac:=ins.map Lb++List.replicate (n-ins.length) .any,aw:=[],own:=[]}
variable {fn : Func}
theorem enter {f:FuncId}{c:Code}(hf:P.funcs[f]? =some fn)(hb:fn.body=some c)(hn:(fn.name== "runtime.NumGoroutine")=false)(h:∀W,G P ⟨W,fun _=>False⟩ (bodyPost P fn fun e w'=>Jp W w' ax e) [.code c] (Dg fn.ntmps ins)):Sf P f ins ax:=by
 refine ⟨⟨fn,hf,hn,by simp [hb]⟩,fun w vs hl hv=>calls_of_wp hf hb ?_⟩
 refine h w ⟨fun _=> .slice none 0 0,fun _=>[]⟩ _ w ?_
 have nav:∀b,¬ (Dg fn.ntmps ins).ag ⟨fun _=> .slice none 0 0,fun _=>[]⟩ b:=by
  rintro b (⟨x,hx,_⟩|⟨y,hy,_⟩)
  ·simp [Dg] at hx
  simp [Dg] at hy
 have nb:∀x,x∉(Dg fn.ntmps ins).aw:=by simp [Dg]
 have no:∀x,x∉(Dg fn.ntmps ins).own:=by simp [Dg]
 refine ⟨rfl,by simp [Dg],by simp [Dg,hl],fun i x hx=>?_,fun x hx=>absurd hx (nb x),fun x hx=>absurd hx (nb x),by simp [Dg],fun y hy=>absurd hy (no y),by simp [Dg],fun y hy=>absurd hy (no y),fun x hx=>absurd hx (nb x),fun _ _=>rfl,
  ⟨rfl,rfl,rfl,Bu _,fun _ _ _=>rfl⟩,fun b hb=>absurd hb (nav b)⟩
 simp only [Dg] at hx
 by_cases hi:i<ins.length
 ·rw [F3 (by simpa using hi)] at hx
  simp only [Ec,E9] at hx;obtain ⟨y,hy,rfl⟩:=hx;have hr:=hv i y hy;have hiv:i<vs.length:=by omega
  have e:(vs.toArray++Array.replicate (fn.ntmps-vs.toArray.size) undef).getD i undef=vs.getD i undef:=by
   simp [Array.getD,List.getD,hiv,show i<vs.length+(fn.ntmps-vs.length) by omega]
  rw [e]
  cases y with
  |one c=>exact .c (hr.move (fun _ _ _=>rfl) (fun b _ hb=>absurd hb (nav b)))
  |agg cs=>
   obtain ⟨us,hu,hul,hur⟩:=hr;rw [hu];refine .agg us (by simp [hul]) (fun j x hj=>?_);simp only [Ec,E9] at hj;obtain ⟨c,hc,rfl⟩:=hj;exact .c ((hur j c hc).move (fun _ _ _=>rfl) (fun b _ hb=>absurd hb (nav b)))
  |ptr cs=>exact hr.den (fun b hb=>absurd hb (nav b))
  |fn f ao=>
   obtain ⟨us,hu,hul,hur⟩:=hr;rw [hu];refine .fn us (by simp [hul]) (fun j x hj=>?_);simp only [Ec,E9] at hj;obtain ⟨c,hc,rfl⟩:=hj;have hr:=hur j c hc
   cases c with
   |one c=>exact .c (Qz.move hr (fun _ _ _=>rfl) (fun b _ hb=>absurd hb (nav b)))
   |ptr cs=>exact Q5.den hr (fun b hb=>absurd hb (nav b))
 rw [F8 P4] at hx
 obtain rfl:AV.any=x:=by
  have:=Hr hx
  simpa using (Ug this).symm
 exact .any _
open Go.RowKit (Below)
def Oo (T:List (TypeId×TI)) (rs:List ResultVar) (s:AS):Option (List AV):=
 match rs with
 | []=>some []
 | .tmp t::r=>match Oo T r s with
  |some xs=>some (I4 s.ac t::xs)
  |none=>none
 | .cell t ty::r=>
  match find T ty,I4 s.ac t with
  |some i,.box k off=>
   match Fq s.aw k with
   |some b=>match Nat.ble (off+i.size) b.cells.length,Oo T r s with
    |true,some xs=>some (O2 i b.cells off::xs)
    |_,_=>none
   |none=>none
  |_,_=>none
def B48 (own:List Ow) (x:AV) (out:Ad):Prop:=
 match x with
 | .own k=>match Bm own k with
  |some c=>c=out
  |none=>False
 | .c (.val (.slice none n c))=>out= .val (.slice none n c)∨(n=0∧c=0∧∃es row,out= .sl 0 es row)
 | .c (.val v)=>out= .val v
 |_=>False
def Km (x:AV):List Nat:=
 match x with
 | .own k=>[k]
 |_=>[]
def A29 (own:List Ow) (xs:List AV) (ax:List Ad):Prop:=
 match xs,ax with
 | [],[]=>True
 |x::xs,o::ax=>B48 own x o∧A29 own xs ax
 |_,_=>False
def C6g (own:List Ow) (x:AV) (out:Hb):Prop:=
 match out with
 | .one c=>B48 own x c
 | .agg cs=>match x with
  | .agg xs=>A29 own xs cs
  |_=>False
 | .ptr _=>False
 | .fn _ _=>False
def N6 (own:List Ow) (xs:List AV) (ax:List Hb):Prop:=
 match xs,ax with
 | [],[]=>True
 |x::xs,o::ax=>C6g own x o∧N6 own xs ax
 |_,_=>False
def D5 (x:AV):List Nat:=
 match x with
 | .agg xs=>xs.flatMap Km
 |x=>Km x
def Gl (l:List Nat):Bool:=
 match l with
 | []=>true
 |x::r=>!(r.any (Nat.beq x))&&Gl r
theorem Eu {l:List Nat}(h:Gl l=true):l.Nodup:=by
 induction l with
 |nil=>simp
 |cons x r ih=>
  simp only [Gl,Cj,Mp,A2d] at h;exact Ip.2 ⟨fun hm=>h.1 x hm Ef,ih h.2⟩
variable {α : Type} {β : Type}
theorem Cg {f:α→List β}{l:List α}:(l.flatMap f).Nodup↔(∀x∈l,(f x).Nodup)∧l.Pairwise fun a b=>∀z∈f a,z∉f b:=by
 induction l with
 |nil=>simp
 |cons x l ih=>
  simp only [Rx,A78,ih,C7,forall_eq_or_imp,A8b,E7]
  constructor
  ·rintro ⟨h1,⟨h2,h3⟩,h4⟩
   exact ⟨⟨h1,h2⟩,fun y hy z hz hz'=>h4 z hz z ⟨y,hy,hz'⟩ rfl,h3⟩
  rintro ⟨⟨h1,h2⟩,h3,h4⟩
  exact ⟨h1,⟨h2,h4⟩,fun z hz z' ⟨y,hy,hz'⟩ e=>h3 y hy z hz (e▸hz')⟩
theorem B2h {w:World}(h:s.is B E a w){o:Ad}(ho:B48 s.own x o)(hd:D0 E w (s.ag E) s.next x v):
  Bz w o v ((Km x).flatMap E.fp)∧∀k∈Km x,∃y∈s.own,y.key=k:=by
 unfold B48 at ho
 split at ho
 ·rename_i k
  split at ho
  ·rename_i c hc
   subst ho;have hm:=Ca hc
   cases hd with
   |own hk=>
    refine ⟨by simpa [Km] using (h.own _ hm).2.1,fun j hj=>?_⟩;simp only [Km,Hh] at hj;subst hj;exact ⟨_,hm,rfl⟩
  exact ho.elim
 ·rename_i n c
  have e:=B3 hd;subst e
  rcases ho with rfl|⟨rfl,rfl,es,row,rfl⟩
  ·exact ⟨.val _ rfl,by simp [Km]⟩
  exact ⟨.nil es row,by simp [Km]⟩
 ·rename_i v' _
  subst ho;have e:=B3 hd;subst e;refine ⟨.val _ ?_,by simp [Km]⟩
  cases hd with
  |c hr=>exact hr.one
 exact ho.elim
theorem C2p {ax:List Ad}(h:A29 own xs ax):xs.length=ax.length∧∀(i:Nat) (o:Ad),ax[i]? =some o→∃x:AV,xs[i]? =some x∧B48 own x o:=by
 induction xs generalizing ax with
 |nil=>cases ax<;>simp_all [A29]
 |cons x xs ih=>
  cases ax with
  |nil=>simp [A29] at h
  |cons o ax=>
   obtain ⟨h1,h2⟩:=ih h.2;refine ⟨by simp [h1],fun i c hc=>?_⟩
   cases i with
   |zero=>simp only [H3,Em] at hc;subst hc;exact ⟨x,by simp,h.1⟩
   |succ i=>simpa using h2 i c (by simpa using hc)
theorem O1 (h:N6 own xs ax):xs.length=ax.length∧∀(i:Nat) (o:Hb),ax[i]? =some o→∃x:AV,xs[i]? =some x∧C6g own x o:=by
 induction xs generalizing ax with
 |nil=>cases ax<;>simp_all [N6]
 |cons x xs ih=>
  cases ax with
  |nil=>simp [N6] at h
  |cons o ax=>
   obtain ⟨h1,h2⟩:=ih h.2;refine ⟨by simp [h1],fun i c hc=>?_⟩
   cases i with
   |zero=>simp only [H3,Em] at hc;subst hc;exact ⟨x,by simp,h.1⟩
   |succ i=>simpa using h2 i c (by simpa using hc)
theorem C48 (fp:Nat→List Nat):(xs.flatMap Km).flatMap fp=(List.range xs.length).flatMap fun i=>(Km (I4 xs i)).flatMap fp:=by
 induction xs with
 |nil=>simp
 |cons x xs ih=>
  simp only [Rx,Wo,ih,Ep,A77,Z7];rfl
theorem Ki {w:World}(h:s.is B E a w){o:Hb}(ho:C6g s.own x o)(hd:D0 E w (s.ag E) s.next x v):
  P2 w o v ((D5 x).flatMap E.fp)∧∀k∈D5 x,∃y∈s.own,y.key=k:=by
 cases o with
 |one c=>
  have hk:D5 x=Km x:=by cases x<;>first|rfl|simp [C6g,B48] at ho
  rw [hk];exact B2h h ho hd
 |agg cs=>
  cases x<;>simp only [C6g] at ho
  rename_i xs
  obtain ⟨h1,h2⟩:=C2p ho
  cases hd with
  |agg vs hl hv=>
   refine ⟨⟨vs,fun i=>(Km (I4 xs i)).flatMap E.fp,rfl,by omega,fun i c hc=>?_,?_⟩,fun k hk=>?_⟩
   ·obtain ⟨y,hy,hyo⟩:=h2 i c hc
    have:=(B2h h hyo (hv i y hy)).1
    have e:I4 xs i=y:=by rw [Cb,hy];rfl
    simp only [e];exact this
   ·rw [←h1];exact C48 E.fp
   obtain ⟨y,hy,hyk⟩:=E7.1 hk;obtain ⟨i,hi⟩:=List.mem_iff_getElem?.1 hy;have hil:i<cs.length:=by rw [←h1];exact (Cu.1 hi).1
   obtain ⟨y',hy',hyo⟩:=h2 i _ (Dh hil);obtain rfl:y'=y:=by rw [hi] at hy';exact (Bv hy').symm
   exact (B2h h hyo (hv i _ hi)).2 k hyk
 |ptr cs=>exact ho.elim
 |fn f ao=>exact ho.elim
def C9t (tmps:Array Value) (r:ResultVar):Sem Value:=
 match r with
 | .tmp t=>pure (tmps.getD t undef)
 | .cell a t=>do loadVar t (←asAddr (tmps.getD a undef))
theorem Qq (fn:Func)(tmps:Array Value):results fn tmps=(do let vs ←fn.results.mapM (C9t tmps);pure (if h:vs.size=1 then vs[0] else .tuple vs)):=by
 unfold results
 congr 1
theorem W2 (hT:C0 P T){w:World}(h:s.is B E a w):∀(rs:List ResultVar) (xs:List AV),Oo T rs s=some xs→
  ∃vs:List Value,(rs.mapM (C9t a.tmps)).run P w= .ok vs w∧vs.length=xs.length∧xs.length=rs.length∧∀i x,xs[i]? =some x→D0 E w (s.ag E) s.next x (vs.getD i undef):=by
 intro rs
 induction rs with
 |nil=>intro xs hx;obtain rfl:=Bv hx;exact ⟨[],rfl,rfl,rfl,by simp⟩
 |cons r rs ih=>
  intro xs hx
  cases r with
  |tmp t=>
   unfold Oo at hx
   split at hx
   ·rename_i ys hys
    obtain rfl:=Bv hx;obtain ⟨vs,h1,h2,h3,h4⟩:=ih ys hys;refine ⟨a.tmps.getD t undef::vs,by simp only [List.mapM_cons,C9t,Sem.run_bind,Sem.run_pure,Result.andThen_ok,h1],by simp [h2],by simp [h3],fun i x hi=>?_⟩
    cases i with
    |zero=>
     simp only [H3,Em] at hi;subst hi;exact h.ev (.tmp t)
    |succ i=>simpa using h4 i x (by simpa using hi)
   simp at hx
  |cell t ty=>
   unfold Oo at hx
   split at hx
   ·rename_i i k off hi hn
    split at hx
    ·rename_i b hb
     split at hx
     ·rename_i ys hle hys
      obtain rfl:=Bv hx;obtain ⟨vs,h1,h2,h3,h4⟩:=ih ys hys;obtain ⟨v,g1,g2⟩:=h.load (hT ty i hi) hb (Cz hle);have hev:=h.ev (.tmp t);simp only [AS.ev,hn,Act.eval] at hev;generalize hv:a.tmps.getD t undef=u at hev
      cases hev with
      |box _ hk=>
       refine ⟨v::vs,?_,by simp [h2],by simp [h3],fun j x hj=>?_⟩
       ·have g1:=g1 w (Ed.refl w)
        simp only [Instr.loadAt,Instr.sureAddr,Sem.run_bind,Sem.run_pure,Result.andThen_ok] at g1;simp only [List.mapM_cons,C9t,Sem.run_bind,hv,asAddr,Sem.run_pure,Result.andThen_ok,g1,h1]
       cases j with
       |zero=>
        simp only [H3,Em] at hj;subst hj;exact g2
       |succ j=>simpa using h4 j x (by simpa using hj)
     simp at hx
    simp at hx
   simp at hx
theorem Sz (vs:List Value):(if h:vs.toArray.size=1 then vs.toArray[0] else .tuple vs.toArray)=J6 vs:=by
 match vs with
 | []=>rfl
 | [v]=>rfl
 |u::v::r=>simp [J6]
theorem D1k (hT:C0 P T){W:World}(hx:Oo T fn.results.toList s=some xs)(hk:Gl (xs.flatMap D5)=true)(ho:N6 s.own xs ax):
  C3s ⟨W,fun _=>False⟩ (bodyPost P fn fun e w'=>Jp W w' ax e) s:=by
 intro E a w h;obtain ⟨vs,h1,h2,h3,h4⟩:=W2 hT h fn.results.toList xs hx;obtain ⟨g1,g2⟩:=O1 ho;refine ⟨h.defers,J6 vs,?_,?_,vs,fun i=>(D5 (I4 xs i)).flatMap E.fp,rfl,by omega,fun i y hy=>?_,fun i hi=>?_,fun i j hi hj hne b hb hb'=>?_⟩
 ·rw [Qq,A2a]
  simp only [A2b,Sem.run_bind,h1,Result.andThen_ok,Sem.run_pure];exact A6 (fun v=>Result.ok v w) (Sz vs)
 ·have hB:=h.base
  exact ⟨hB.os,hB.tape,hB.output,hB.size,fun k hk=>hB.block k hk (fun h=>h)⟩
 ·obtain ⟨x,hx',hxo⟩:=g2 i y hy
  have:=(Ki h hxo (h4 i x hx')).1
  have e:I4 xs i=x:=by rw [Cb,hx'];rfl
  simp only [e];exact this
 ·have hi':i<xs.length:=by omega
  have hnd:=Eu hk;have hxi:=Dh hi';obtain ⟨x,hx',hxo⟩:=g2 i _ (Dh hi);have hkeys:=(Ki h hxo (h4 i x hx')).2
  show ((D5 (I4 xs i)).flatMap E.fp).Nodup∧∀b∈(D5 (I4 xs i)).flatMap E.fp,W.heap.size≤b
  rw [show I4 xs i=x by rw [Cb,hx'];rfl]
  constructor
  ·have hsub:(D5 x).Nodup:=(Cg.1 hnd).1 x (Hr hx')
   refine Cg.2 ⟨fun k hk'=>?_,?_⟩
   ·obtain ⟨y,hy,rfl⟩:=hkeys k hk'
    exact (h.own y hy).2.2
   refine B3b ?_ hsub;intro k j hk' hj' hne b hb hb';obtain ⟨y,hy,rfl⟩:=hkeys k hk';obtain ⟨z,hz,rfl⟩:=hkeys j hj';exact h.sep y hy z hz hne b hb hb'
  intro b hb;obtain ⟨k,hk',hb⟩:=E7.1 hb;obtain ⟨y,hy,rfl⟩:=hkeys k hk'
  rcases h.fresh b (.inr ⟨y,hy,hb⟩) with h|h
  ·exact h
  exact h.elim
 have hi':i<xs.length:=by omega
 have hj':j<xs.length:=by omega
 have hnd:=Eu hk;obtain ⟨x,hx',hxo⟩:=g2 i _ (Dh hi);obtain ⟨z,hz',hzo⟩:=g2 j _ (Dh hj)
 change b∈(D5 (I4 xs i)).flatMap E.fp at hb
 change b∈(D5 (I4 xs j)).flatMap E.fp at hb'
 rw [show I4 xs i=x by rw [Cb,hx'];rfl] at hb
 rw [show I4 xs j=z by rw [Cb,hz'];rfl] at hb'
 obtain ⟨k,hk1,hb⟩:=E7.1 hb;obtain ⟨l,hl1,hb'⟩:=E7.1 hb';obtain ⟨y1,hy1,rfl⟩:=(Ki h hxo (h4 i x hx')).2 k hk1;obtain ⟨y2,hy2,rfl⟩:=(Ki h hzo (h4 j z hz')).2 l hl1
 by_cases e:y1.key=y2.key
 ·have hpw:=(Cg.1 hnd).2
  have e1:xs[i]=x:=by rw [Dh hi'] at hx';exact Bv hx'
  have e2:xs[j]=z:=by rw [Dh hj'] at hz';exact Bv hz'
  rcases Uh hne with hlt|hlt
  ·have:=Ry.1 hpw i j hi' hj' hlt
   rw [e1,e2] at this;exact this _ hk1 (e▸hl1)
  have:=Ry.1 hpw j i hj' hi' hlt
  rw [e1,e2] at this;exact this _ hl1 (e▸hk1)
 exact h.sep y1 hy1 y2 hy2 e b hb hb'
def low0 (n:Nat) (x:AV):Bool:=
 match x with
 | .any=>true
 | .c _=>true
 | .own k=>Nat.blt k n
 | .box k _=>Nat.blt k n
 | .el _ _ _ _ _=>true
 | .oel k _ _ _=>Nat.blt k n
 |_=>false
def B1f (f:AV→Bool) (l:List AV):Bool:=
 match l with
 | []=>true
 |x::r=>f x&&B1f f r
def low1 (n:Nat) (x:AV):Bool:=
 match x with
 | .agg xs=>B1f (low0 n) xs
 | .fn _ xs=>B1f (low0 n) xs
 |x=>low0 n x
def low2 (n:Nat) (x:AV):Bool:=
 match x with
 | .tup xs=>B1f (low1 n) xs
 |x=>low1 n x
def C8x (n:Nat) (l:List Bx):Bool:=
 match l with
 | []=>true
 |b::r=>Nat.blt b.key n&&B1f (low2 n) b.cells&&C8x n r
def C8z (n:Nat) (l:List Ow):Bool:=
 match l with
 | []=>true
 |b::r=>Nat.blt b.key n&&C8z n r
theorem V7 {f:AV→Bool}(h:B1f f l=true)(hx:x∈l):f x=true:=by
 induction l with
 |nil=>simp at hx
 |cons y r ih=>
  simp only [B1f,Cj] at h
  rcases C7.1 hx with rfl|hx
  ·exact h.1
  exact ih h.2 hx
variable {n : Nat}
theorem C5v {l:List Bx}(h:C8x n l=true){b:Bx}(hb:b∈l):b.key<n∧B1f (low2 n) b.cells=true:=by
 induction l with
 |nil=>simp at hb
 |cons x r ih=>
  unfold C8x at h;simp only [Cj] at h
  rcases C7.1 hb with rfl|hb
  ·exact ⟨Ko h.1.1,h.1.2⟩
  exact ih h.2 hb
theorem C5x {l:List Ow}(h:C8z n l=true){b:Ow}(hb:b∈l):b.key<n:=by
 induction l with
 |nil=>simp at hb
 |cons x r ih=>
  unfold C8z at h;simp only [Cj] at h
  rcases C7.1 hb with rfl|hb
  ·exact Ko h.1
  exact ih h.2 hb
def Inv {J:Type} (B:Er) (hd:J→AS) (φ:J→Prop) (μ:J→Nat) (m:Nat) (a:Act) (w:World):Prop:=∃j,φ j∧μ j<m∧∃E,(hd j).is B E a w
theorem A46 (p:Nat→Prop)(h:∃n,p n):∃m,p m∧∀k,p k→m≤k:=by
 obtain ⟨n,hn⟩:=h
 induction n using Nat.strongRecOn with
 |ind n ih=>
  by_cases e:∃k,k<n∧p k
  ·obtain ⟨k,hk,hp⟩:=e
   exact ih k hk hp
  exact ⟨n,hn,fun k hk=>A70 (fun hlt=>e ⟨k,hlt,hk⟩)⟩
variable {J : Type}
theorem C2g {c:Code}(hd:J→AS)(φ:J→Prop)(μ:J→Nat)(j0:J)(h0:φ j0)(init:∀E a w,s.is B E a w→∃E',(hd j0).is B E' a w)(body:∀j,φ j→G P B Q (.code c:: .loop (Inv B hd φ μ (μ j))::K) (hd j)):G P B Q (.code (.loop c)::K) s:=by
 intro E a w hs
 let S:Act→World→Nat→Prop:=fun a w m=>∃j,φ j∧μ j=m∧∃E,(hd j).is B E a w
 obtain ⟨E',h'⟩:=init E a w hs;refine wp_loop (fun a w=>∃m,S a w m) (fun a w=>Classical.epsilon fun m=>S a w m∧∀k,S a w k→m≤k) ⟨μ j0,j0,h0,rfl,E',h'⟩ ?_;intro a w hI;obtain ⟨⟨j,hj,hm,E,hE⟩,hmin⟩:=Classical.epsilon_spec (A46 _ hI);have hb:=body j hj E a w hE;refine Code.wp_mono (fun e a' w' hq=>?_) hb
 cases e with
 |normal=>
  obtain ⟨j',hj',hlt,E',hE'⟩:=(hq:Inv B hd φ μ (μ j) a' w');have hS:S a' w' (μ j'):=⟨j',hj',rfl,E',hE'⟩;refine ⟨⟨_,hS⟩,?_⟩;obtain ⟨_,hmin'⟩:=Classical.epsilon_spec (A46 _ ⟨_,hS⟩)
  have:=hmin' _ hS
  have e2:=hm
  show (Classical.epsilon fun m=>S a' w' m∧∀k,S a' w' k→m≤k)<(Classical.epsilon fun m=>S a w m∧∀k,S a w k→m≤k)
  rw [←e2];exact Nat.lt_of_le_of_lt this hlt
 |exit id=>exact hq
 |goto l=>exact hq
 |ret=>exact hq
 |panic c=>exact hq
 |outgrown=>exact hq
theorem C0.nil:C0 P []:=fun t i h=>by simp [find] at h
variable {t : TypeId} {i : TI}
theorem C0.cons {T:List (TypeId×TI)}(h:TI.of P t=some i)(hT:C0 P T):C0 P ((t,i)::T):=by
 intro u j hj;unfold find at hj
 split at hj
 ·rename_i e
  obtain rfl:=F7 e;obtain rfl:=Bv hj;exact h
 exact hT u j hj
open Go.RowKit (Below)
structure C0p (X:Nat→Prop) (w w':World):Prop where
 os:w'.os=w.os
 tape:w'.tape=w.tape
 output:w'.output=w.output
 size:w.heap.size≤w'.heap.size
 block:∀k,k<w.heap.size→¬ X k→w'.heap[k]? =w.heap[k]?
structure Src (w:World) (v:Value) (n es:Nat) (row:Nat→List Ad) (au:List Value) (fps:Nat→List Nat):Prop where
 len:au.length=n * es
 rows:∀i,i<n→(row i).length=es
 shape:(v= .slice none 0 0∧n=0)∨(∃a,v= .slice (some a) 0 0∧n=0)∨(∃b o c,v= .slice (some ⟨b,o,none⟩) n c∧∀j,j<n * es→w.cell? ⟨b,o+j,none⟩=some (au.getD j undef))∨
  ∃s:ByteArray,v= .string s∧es=1∧n=s.size∧au=s.data.toList.map fun b=> .int .u8 b.toNat
 rep:∀i j c,i<n→(row i)[j]? =some c→Bz w c (au.getD (i * es+j) undef) (fps (i * es+j))
variable {es : Nat} {row : Nat → List Ad} {au : List Value} {fps : Nat → List Nat}
theorem Src.lenOf {w:World}(h:Src w v n es row au fps)(w':World):(Builtin.lenOf v).run P w'= .ok n w':=by
 rcases h.shape with ⟨rfl,rfl⟩|⟨a,rfl,rfl⟩|⟨b,o,c,rfl,_⟩|⟨s,rfl,_,rfl,_⟩<;>rfl
theorem Src.first {w:World}(h:Src w v n es row au fps){w':World}(hw:∀a,w'.cell? a=w.cell? a):
  (Builtin.firstCells es n v).run P w'= .ok au.toArray w':=by
 rcases h.shape with ⟨rfl,rfl⟩|⟨a,rfl,rfl⟩|⟨b,o,c,rfl,hc⟩|⟨s,rfl,rfl,rfl,rfl⟩
 ·have:au=[]:=Pk (by simpa using h.len)
  subst this;rfl
 ·have:au=[]:=Pk (by simpa using h.len)
  subst this
  simp [Builtin.firstCells,loadCells,loadCellsFrom]
 ·refine run_firstCells_some (P:=P) w' es n ⟨b,o,none⟩ n c au h.len (fun j v hv=>?_)
  have hj:j<n * es:=by rw [←h.len];exact (Cu.1 hv).1
  rw [Iz,hw,hc j hj]
  simp [List.getD,hv]
 have e:s.extract 0 s.size=s:=by
  apply Qx
  simp
 simp only [Builtin.firstCells,e,Sem.run_pure]
 congr 1
 obtain ⟨⟨l⟩⟩:=s
 simp
theorem Src.one {w:World}(h:Src w v n es row au fps):∀u∈au,u.oneCell'=true:=by
 intro u hu;obtain ⟨j,hj⟩:=List.mem_iff_getElem?.1 hu;have hjl:j<n * es:=by rw [←h.len];exact (Cu.1 hj).1
 have he:0<es:=Z2 (fun h=>by subst h;simp at hjl);have hi:j / es<n:=Nat.div_lt_of_lt_mul (by rw [Qu];exact hjl);have hm:j % es<(row (j / es)).length:=by rw [h.rows _ hi];exact Ub _ he
 have:=(h.rep (j / es) (j % es) _ hi (Dh hm)).one
 rw [show j / es * es+j % es=j by rw [Qu,Nat.div_add_mod]] at this
 simpa [List.getD,hj] using this
theorem Nd (z:Array Value)(n:Nat):(Builtin.zeroCells z n).size=n * z.size:=by simp [Builtin.zeroCells]
structure B3f (w w':World) (fp fp2:List Nat) (c:Ad) (v:Value) (fp':List Nat):Prop where
 own:Bz w' c v fp'
 nodup:fp'.Nodup
 sub:∀b∈fp',b∈fp∨b∈fp2∨w.heap.size≤b
 kept:C0p (fun b=>b∈fp) w w'
theorem C1s (w:World)(a:Addr):w.drew.cell? a=w.cell? a:=rfl
def C3o (n1 n2:Nat) (row1 row2 row:Nat→List Ad):Prop:=(∀i,i<n1→row i=row1 i)∧∀i,i<n2→row (n1+i)=row2 i
theorem B37 (l m:List Value)(j:Nat)(d:Value):(l++m).getD j d=if j<l.length then l.getD j d else m.getD (j-l.length) d:=by
 simp only [List.getD]
 split
 ·rw [F3 (by assumption)]
 rw [F8 A7]
theorem Xo {l:List α}{f g:α→List β}(h:∀x∈l,f x=g x):l.flatMap f=l.flatMap g:=by
 induction l with
 |nil=>rfl
 |cons x l ih=>simp only [Rx,h x Ef,ih (fun y hy=>h y (by simp [hy]))]
variable {n1 : Nat} {n2 : Nat} {row1 : Nat → List Ad} {row2 : Nat → List Ad} {fps2 : Nat → List Nat}
theorem B90 {w:World}{olds:List Value}{fps1:Nat→List Nat}(l1:olds.length=n1 * es)(_l2:au.length=n2 * es)(r1:∀i,i<n1→(row1 i).length=es)(r2:∀i,i<n2→(row2 i).length=es)(hj:C3o n1 n2 row1 row2 row)(h1:∀i j c,i<n1→(row1 i)[j]? =some c→Bz w c (olds.getD (i * es+j) undef) (fps1 (i * es+j)))(h2:∀i j c,i<n2→(row2 i)[j]? =some c→Bz w c (au.getD (i * es+j) undef) (fps2 (i * es+j)))(hn1:((List.range (n1 * es)).flatMap fps1).Nodup)(hn2:((List.range (n2 * es)).flatMap fps2).Nodup)(hd:∀b∈(List.range (n1 * es)).flatMap fps1,b∉(List.range (n2 * es)).flatMap fps2)(b off cap:Nat)(ty:TypeId)(cells:Array Value)(hb:w.heap[b]? =some (.cells cells ty (0,0)))(hcap:n1+n2≤cap)(hm:cap≤maxLen)(hsz:(off+cap) * es≤cells.size)(hcells:∀k,k<(n1+n2) * es→cells.getD (off * es+k) undef=(olds++au).getD k undef)(hb1:b∉(List.range (n1 * es)).flatMap fps1)(hb2:b∉(List.range (n2 * es)).flatMap fps2):
  ∃fp',Bz w (.sl (n1+n2) es row) (.slice (some ⟨b,off * es,none⟩) (n1+n2) cap) fp'∧fp'.Nodup∧∀x∈fp',x=b∨x∈(List.range (n1 * es)).flatMap fps1∨x∈(List.range (n2 * es)).flatMap fps2:=by
 have flat:(List.range ((n1+n2) * es)).flatMap (fun k=>if k<n1 * es then fps1 k else fps2 (k-n1 * es))=(List.range (n1 * es)).flatMap fps1++(List.range (n2 * es)).flatMap fps2:=by
  rw [G1,List.range_add,Wo,Z7]
  congr 1
  ·refine Xo (fun k hk=>?_)
   rw [Ah (Fk.1 hk)]
  refine Xo (fun k _=>?_);rw [Ab A7,Nat.add_sub_cancel_left]
 refine ⟨b::(List.range ((n1+n2) * es)).flatMap (fun k=>if k<n1 * es then fps1 k else fps2 (k-n1 * es)),.sl (n1+n2) es row b off cap ty cells _ hcap hm hb hsz (fun i hi=>?_) (fun i j c hi hc=>?_),?_,fun x hx=>?_⟩
 ·by_cases h:i<n1
  ·rw [hj.1 i h];exact r1 i h
  obtain ⟨m,rfl⟩:∃m,i=n1+m:=⟨i-n1,by omega⟩;rw [hj.2 m A7];exact r2 m A7
 ·have hjl:j<es:=by
   have:=(Cu.1 hc).1
   by_cases h:i<n1
   ·rw [hj.1 i h,r1 i h] at this;exact this
   obtain ⟨m,rfl⟩:∃m,i=n1+m:=⟨i-n1,by omega⟩;rw [hj.2 m A7,r2 m A7] at this;exact this
  have hk:=Gs hi hjl;rw [show (off+i) * es+j=off * es+(i * es+j) by rw [G1,Wm],hcells _ hk,B37,l1]
  by_cases h:i<n1
  ·have:=Gs h hjl
   rw [Ah this,Ah this];exact h1 i j c h (by rw [←hj.1 i h];exact hc)
  obtain ⟨m,rfl⟩:∃m,i=n1+m:=⟨i-n1,by omega⟩;have e:(n1+m) * es+j=n1 * es+(m * es+j):=by rw [G1,Wm]
  rw [e,Ab A7,Ab A7,Nat.add_sub_cancel_left];exact h2 m j c A7 (by rw [←hj.2 m A7];exact hc)
 ·rw [flat,Ip,A78]
  refine ⟨fun h=>?_,hn1,hn2,fun x hx y hy e=>hd x hx (e▸hy)⟩
  rcases Hg.1 h with h|h
  ·exact hb1 h
  exact hb2 h
 rw [flat] at hx
 rcases C7.1 hx with h|h
 ·exact .inl h
 exact .inr (Hg.1 h)
variable {e : TypeId}
theorem A65 {t2 e2 ty:TypeId}{ie:TI}(hu:P.underlying t=some (.slice e))(hu2:P.underlying t2=some (.slice e2)∨P.underlying t2=some .string)(he:TI.of P e=some ie){w:World}{v1 v2:Value}{fp1:List Nat}(h1:Bz w (.sl n1 ie.size row1) v1 fp1)(hnd:fp1.Nodup)(h2:Src w v2 n2 ie.size row2 au fps2)(hn2:((List.range (n2 * ie.size)).flatMap fps2).Nodup)(hdis:∀b∈fp1,b∉(List.range (n2 * ie.size)).flatMap fps2)(hlt2:∀b∈(List.range (n2 * ie.size)).flatMap fps2,b<w.heap.size)(hj:C3o n1 n2 row1 row2 row)(_hpos:0<ie.size)(h63:n1+n2≤maxLen)(hbytes:(n1+n2) * ie.bytes≤140737488355328):
  ∃v' w' fp',(Builtin.append_ #[t,t2] ty #[v1,v2]).run P w= .ok v' w'∧B3f w w' fp1 ((List.range (n2 * ie.size)).flatMap fps2) (.sl (n1+n2) ie.size row) v' fp':=by
 obtain ⟨f,d,z,S⟩:=TI.of_spec he;have hzs:z.cells.size=ie.size:=by have:=S.zlen;rw [←S.cells] at this;simpa using this
 have hsmall:n1+n2≤9223372036854775807:=by simp only [maxLen] at h63;omega
 have lenv1:∀w',(Builtin.lenOf v1).run P w'= .ok n1 w':=by intro w';cases h1<;>rfl
 have grow:∀(old:Nat) (olds:List Value) (fps1:Nat→List Nat),old<n1+n2→olds.length=n1 * ie.size→
   (∀i,i<n1→(row1 i).length=ie.size)→(∀i j c,i<n1→(row1 i)[j]? =some c→Bz w c (olds.getD (i * ie.size+j) undef) (fps1 (i * ie.size+j)))→
   ((List.range (n1 * ie.size)).flatMap fps1).Nodup→(∀b∈(List.range (n1 * ie.size)).flatMap fps1,b∈fp1)→
   ∃fp',B3f w (w.drew.alloc (.cells (olds.toArray++au.toArray++Builtin.zeroCells z.cells (grownCap w (n1+n2) old e-(n1+n2))) e)) fp1 ((List.range (n2 * ie.size)).flatMap fps2) (.sl (n1+n2) ie.size row)
    (.slice (some ⟨w.heap.size,0,none⟩) (n1+n2) (grownCap w (n1+n2) old e)) fp':=by
  intro old olds fps1 hold l1 r1 g1 nd1 sub1;have hge:=grownCap_ge w (n1+n2) old e;have hcm:=grownCap_le_maxLen w (n1+n2) old e h63;generalize grownCap w (n1+n2) old e=cap at *;have hlt1:∀b∈(List.range (n1 * ie.size)).flatMap fps1,b<w.heap.size:=fun b hb=>h1.lt b (sub1 b hb);have hk:∀b,b<w.heap.size→(w.drew.alloc (.cells (olds.toArray++au.toArray++Builtin.zeroCells z.cells (cap-(n1+n2))) e)).heap[b]? =w.heap[b]? :=fun b hb=>Ho w.drew _ b hb
  have hsz:(olds.toArray++au.toArray++Builtin.zeroCells z.cells (cap-(n1+n2))).size=cap * ie.size:=by
   simp only [Array.size_append,Gh,Nd,hzs,l1,h2.len,←G1]
   congr 1
   omega
  obtain ⟨fp',k1,k2,k3⟩:=B90 (w:=w.drew.alloc (.cells (olds.toArray++au.toArray++Builtin.zeroCells z.cells (cap-(n1+n2))) e)) (row:=row) l1 h2.len r1 h2.rows hj
   (fun i j c hi hc=>(g1 i j c hi hc).move (fun b hb=>hk b ((g1 i j c hi hc).lt b hb)))
   (fun i j c hi hc=>(h2.rep i j c hi hc).move (fun b hb=>hk b ((h2.rep i j c hi hc).lt b hb)))
   nd1 hn2 (fun b hb=>hdis b (sub1 b hb)) w.heap.size 0 cap e _ (heap_alloc_new w.drew _) hge hcm (by rw [hsz];simp) (fun k hk'=>by
    rw [←Bn];simp only [A2e,Nat.zero_mul,Rw]
    rw [B37,Ah (by simp [l1,h2.len,←G1];exact hk')])
   (fun h=>Nat.lt_irrefl _ (hlt1 _ h)) (fun h=>Nat.lt_irrefl _ (hlt2 _ h))
  simp only [Nat.zero_mul] at k1;refine ⟨fp',k1,k2,fun b hb=>?_,⟨rfl,rfl,rfl,by simp,fun k hk' _=>hk k hk'⟩⟩
  rcases k3 b hb with rfl|h|h
  ·exact .inr (.inr (Bu _))
  ·exact .inl (sub1 b h)
  exact .inr (.inl h)
 have hfits:∀old,old<n1+n2→Builtin.nextslicecap (n1+n2) old * f.bytes≤281474976710656:=fun old ho=>by rw [S.bytes];exact growslice_fits ho hbytes
 generalize hc1:Ad.sl n1 ie.size row1=c1 at h1
 cases h1 with
 |val x h=>simp at hc1
 |nil es row'=>
  simp only [Ad.sl.injEq] at hc1;obtain ⟨rfl,rfl,rfl⟩:=hc1
  by_cases h0:n2=0
  ·subst h0
   have hnews:au=[]:=Pk (by simpa using h2.len);refine ⟨.slice none 0 0,w,[],?_,⟨.nil _ _,by simp,by simp,⟨rfl,rfl,rfl,Bu _,fun _ _ _=>rfl⟩⟩⟩
   have hl:=h2.lenOf (P:=P) w;have hf:=h2.first (P:=P) (w':=w) (fun _=>rfl)
   rcases hu2 with hu2|hu2<;>simp [Builtin.append_,run_underlying hu,run_underlying hu2,B9 he,hl,hf,hnews]
  obtain ⟨fp',k⟩:=grow 0 [] (fun _=>[]) A7 Ef (fun i hi=>by omega) (fun i j c hi=>by omega) Ef Ef;have hl:=h2.lenOf (P:=P) w;have hf:=h2.first (P:=P) (w':=w.drew) (fun _=>rfl);refine ⟨_,_,fp',?_,k⟩;have hz':=hfits 0 A7;have h63':¬ (9223372036854775807<(n2:Int)):=by omega
  simp only [Rw] at hz' ⊢;have h48':¬ (281474976710656<Builtin.nextslicecap n2 0 * f.bytes):=by omega
  rcases hu2 with hu2|hu2<;>simp [Builtin.append_,run_underlying hu,run_underlying hu2,B9 he,hl,h0,h63',typeInfo,S.hf,h48',Question.forced,run_firstCells_none,hf,zeroValue,S.hz,newRow,grownCap]
 |emp es row' b0 o0=>
  simp only [Ad.sl.injEq] at hc1;obtain ⟨rfl,rfl,rfl⟩:=hc1
  by_cases h0:n2=0
  ·subst h0
   have hnews:au=[]:=Pk (by simpa using h2.len);refine ⟨.slice (some ⟨b0,o0,none⟩) 0 0,w,[],?_,⟨.emp _ _ b0 o0,by simp,by simp,⟨rfl,rfl,rfl,Bu _,fun _ _ _=>rfl⟩⟩⟩
   have hl:=h2.lenOf (P:=P) w;have hf:=h2.first (P:=P) (w':=w) (fun _=>rfl)
   rcases hu2 with hu2|hu2<;>simp [Builtin.append_,run_underlying hu,run_underlying hu2,B9 he,hl,hf,hnews,storeCells]
  obtain ⟨fp',k⟩:=grow 0 [] (fun _=>[]) A7 Ef (fun i hi=>by omega) (fun i j c hi=>by omega) Ef Ef;have hl:=h2.lenOf (P:=P) w;have hf:=h2.first (P:=P) (w':=w.drew) (fun _=>rfl);have hfo:=run_firstCells_some (P:=P) w.drew ie.size 0 ⟨b0,o0,none⟩ 0 0 [] Ef (fun j v hv=>by simp at hv);refine ⟨_,_,fp',?_,k⟩;have hz':=hfits 0 A7;have h63':¬ (9223372036854775807<(n2:Int)):=by omega
  simp only [Rw] at hz' ⊢;have h48':¬ (281474976710656<Builtin.nextslicecap n2 0 * f.bytes):=by omega
  rcases hu2 with hu2|hu2<;>simp [Builtin.append_,run_underlying hu,run_underlying hu2,B9 he,hl,h0,h63',typeInfo,S.hf,h48',Question.forced,hfo,hf,zeroValue,S.hz,newRow,grownCap]
 |sl n es row' b off cap ty' cells fps hn hc hb hs hll hr=>
  simp only [Ad.sl.injEq] at hc1;obtain ⟨rfl,rfl,rfl⟩:=hc1;obtain ⟨hb0,hnd1⟩:=Ip.1 hnd;have Vg:∀k,k<n1 * ie.size→cells.getD (off * ie.size+k) undef=(((List.range (n1 * ie.size)).map fun k=>cells.getD (off * ie.size+k) undef)).getD k undef:=fun k hk=>by simp [List.getD,hk]
  have hreal:∀i j c,i<n1→(row1 i)[j]? =some c→Bz w c ((((List.range (n1 * ie.size)).map fun k=>cells.getD (off * ie.size+k) undef)).getD (i * ie.size+j) undef) (fps (i * ie.size+j)):=by
   intro i j c hi hcj;have hjl:j<ie.size:=by have:=(Cu.1 hcj).1;rw [hll i hi] at this;exact this
   rw [←Vg _ (Gs hi hjl)]
   have:=hr i j c hi hcj
   rwa [show (off+i) * ie.size+j=off * ie.size+(i * ie.size+j) by rw [G1,Wm]] at this
  have hl:=h2.lenOf (P:=P) w
  by_cases hroom:n1+n2≤cap
  ·
   have hf:=h2.first (P:=P) (w':=w) (fun _=>rfl)
   have hfit:(off+n1) * ie.size+au.length≤cells.size:=by
    rw [h2.len,←G1];exact G0 (Kl _ A7) hs
   have hst:=run_storeCells_at P b ((off+n1) * ie.size) ty' au 0 cells w hb (by simpa using hfit) h2.one;simp only [T3] at hst;have hk:∀x,x≠b→(w.setRow b (cells.toList.take ((off+n1) * ie.size)++au++cells.toList.drop ((off+n1) * ie.size+au.length)).toArray).heap[x]? =w.heap[x]? :=fun x hx=>Fx w b x _ hx
   have hb2:b∉(List.range (n2 * ie.size)).flatMap fps2:=hdis b Ef
   obtain ⟨fp',k1,k2,k3⟩:=B90 (w:=w.setRow b (cells.toList.take ((off+n1) * ie.size)++au++cells.toList.drop ((off+n1) * ie.size+au.length)).toArray) (row:=row)
    (olds:=(List.range (n1 * ie.size)).map fun k=>cells.getD (off * ie.size+k) undef) Ef h2.len hll h2.rows hj
    (fun i j c hi hcj=>(hreal i j c hi hcj).move (fun x hx=>hk x (fun e=>by
     have hjl:j<ie.size:=by have:=(Cu.1 hcj).1;rw [hll i hi] at this;exact this
     exact hb0 (e▸Dp (Gs hi hjl) hx))))
    (fun i j c hi hcj=>(h2.rep i j c hi hcj).move (fun x hx=>hk x (fun e=>by
     have hjl:j<ie.size:=by have:=(Cu.1 hcj).1;rw [h2.rows i hi] at this;exact this
     exact hb2 (e▸Dp (Gs hi hjl) hx))))
    hnd1 hn2 (fun x hx=>hdis x (Cq _ hx)) b off cap ty' _ (setRow_heap w b cells _ ty' (0,0) hb) hroom hc (by
     simp only [Gh,Dn,G2,Gm,Nr]
     omega)
    (fun k hk'=>by
     rw [←Bn];simp only [List.getD];have e1:(List.take ((off+n1) * ie.size) cells.toList).length=(off+n1) * ie.size:=by simp;omega
     have e2:(off+n1) * ie.size=off * ie.size+n1 * ie.size:=G1 _ _ _
     by_cases hkn:k<n1 * ie.size
     ·rw [Ci,F3 (by rw [e1];omega),F3 (by simp;exact hkn)]
      have:off * ie.size+k<cells.size:=by omega
      simp [hkn,show off * ie.size+k<(off+n1) * ie.size by omega,Array.getD,this]
     rw [Ci,F8 (by rw [e1];omega),e1,F3 (by rw [h2.len];rw [G1] at hk';omega),
      F8 P4]
     simp only [Oy,Wc]
     rw [show off * ie.size+k-(off+n1) * ie.size=k-n1 * ie.size by omega])
    hb0 hb2
   refine ⟨_,_,fp',?_,k1,k2,fun x hx=>?_,⟨rfl,rfl,rfl,by simp,fun k _ hk'=>hk k (fun e=>hk' (by simp [e]))⟩⟩
   ·have hadd:((⟨b,off * ie.size,none⟩:Addr).add (n1 * ie.size))=⟨b,(off+n1) * ie.size,none⟩:=by rw [Iz,G1]
    rcases hu2 with hu2|hu2<;>simp [Builtin.append_,run_underlying hu,run_underlying hu2,B9 he,hl,hroom,hf,hadd,hst]
   rcases k3 x hx with rfl|h|h
   ·exact .inl Ef
   ·exact .inl (Cq _ h)
   exact .inr (.inl h)
  obtain ⟨fp',k⟩:=grow cap ((List.range (n1 * ie.size)).map fun k=>cells.getD (off * ie.size+k) undef) fps A7 Ef hll hreal hnd1 (fun x hx=>Cq _ hx);have hf:=h2.first (P:=P) (w':=w.drew) (fun _=>rfl)
  have hfo:=run_firstCells_some (P:=P) w.drew ie.size n1 ⟨b,off * ie.size,none⟩ n1 cap ((List.range (n1 * ie.size)).map fun k=>cells.getD (off * ie.size+k) undef) Ef (fun j v hv=>by
   have hjl:j<n1 * ie.size:=by simpa using (Cu.1 hv).1
   have hlt:off * ie.size+j<cells.size:=by
    have:=Kl ie.size (show off+n1≤off+cap by omega)
    rw [G1] at this;omega
   rw [Iz,C1s,cell_of_row w b _ cells ty' (0,0) hb];simp only [Ec,hjl,Qv,Em,A75] at hv;rw [←hv]
   simp [Array.getD,hlt])
  refine ⟨_,_,fp',?_,k⟩;have h63':¬ (9223372036854775807<((n1:Int)+(n2:Int))):=by omega
  have hz':=hfits cap A7;have h48':¬ (281474976710656<Builtin.nextslicecap (n1+n2) cap * f.bytes):=by omega
  rcases hu2 with hu2|hu2<;>simp [Builtin.append_,run_underlying hu,run_underlying hu2,B9 he,hl,hroom,h63',typeInfo,S.hf,h48',Question.forced,hfo,hf,zeroValue,S.hz,newRow,grownCap]
  all_goals (congr 2;apply Array.ext';simp [Ci])
open Go.RowKit (Below)
def inL (k:Nat) (l:List Nat):Bool:=
 match l with
 | []=>false
 |x::r=>Nat.beq x k||inL k r
variable {k : Nat}
theorem Hx {l:List Nat}:inL k l=true↔k∈l:=by
 induction l with
 |nil=>simp [inL]
 |cons x r ih=>
  simp only [inL,Yd,ih,C7]
  constructor
  ·rintro (h|h)
   ·exact .inl (F7 h).symm
   exact .inr h
  rintro (rfl|h)
  ·exact .inl Ef
  exact .inr h
def Bb (ks:List Nat) (l:List Ow):List Ow:=
 match l with
 | []=>[]
 |o::r=>match inL o.key ks with
  |true=>Bb ks r
  |false=>o::Bb ks r
variable {ks : List Nat}
theorem Bl {l:List Ow}{o:Ow}:o∈Bb ks l↔o∈l∧o.key∉ks:=by
 induction l with
 |nil=>simp [Bb]
 |cons x r ih=>
  unfold Bb
  split
  ·rename_i h
   have:=Hx.1 h
   rw [ih,C7];exact ⟨fun h=>⟨.inr h.1,h.2⟩,fun h=>⟨h.1.resolve_left (fun e=>h.2 (e▸this)),h.2⟩⟩
  rename_i h
  have:x.key∉ks:=fun hm=>by rw [Hx.2 hm] at h;simp at h
  rw [C7,ih,C7];exact ⟨fun h=>by rcases h with rfl|h;exact ⟨.inl rfl,this⟩;exact ⟨.inr h.1,h.2⟩,fun h=>h.1.imp id (fun h'=>⟨h',h.2⟩)⟩
theorem W0 {l:List Ow}(h:(l.map (·.key)).Nodup):((Bb ks l).map (·.key)).Nodup:=by
 induction l with
 |nil=>simp [Bb]
 |cons x r ih=>
  simp only [I8,Ip] at h;unfold Bb
  split
  ·exact ih h.2
  simp only [I8,Ip];refine ⟨fun hm=>h.1 ?_,ih h.2⟩
  obtain ⟨o,ho,e⟩:=Ea.1 hm;exact Ea.2 ⟨o,(Bl.1 ho).1,e⟩
theorem AS.is.drop {w:World}(h:s.is B E a w)(ks:List Nat):({s with own:=Bb ks s.own}:AS).isA B E (s.ag E) a w:=by
 have av:∀b,({s with own:=Bb ks s.own}:AS).ag E b→s.ag E b:=by
  rintro b (h|⟨y,hy,hb⟩)
  ·exact .inl h
  exact .inr ⟨y,(Bl.1 hy).1,hb⟩
 exact ⟨h.defers,h.ak,h.size,h.ac,h.aw,h.boxes2,h.keys,fun y hy=>h.own y (Bl.1 hy).1,W0 h.ownkeys,
  fun y hy z hz=>h.sep y (Bl.1 hy).1 z (Bl.1 hz).1,fun x hx y hy=>h.sepB x hx y (Bl.1 hy).1,h.one,h.base,fun b hb=>h.fresh b (av b hb),av⟩
theorem AS.isA.kept {X:Nat→Prop}{w w':World}(h:s.isA B E A a w)(hk:C0p X w w')(hX:∀b,X b→A b∧¬ s.ag E b∧B.fresh b):
  s.isA B E (fun b=>A b∨w.heap.size≤b) a w':=by
 have mv:∀x v,D0 E w A s.next x v→D0 E w' (fun b=>A b∨w.heap.size≤b) s.next x v:=fun x v hx=>
  hx.move (Bu _) (fun _ _=>⟨rfl,rfl⟩) (fun b hA hl=>hk.block b hl (fun hx=>hA (hX b hx).1)) (fun b hl hA=>by
   rcases hA with h|h
   ·exact h
   omega)
 refine ⟨h.defers,h.ak,h.size,fun i x hx=>mv _ _ (h.ac i x hx),fun x hx=>?_,h.boxes2,h.keys,fun y hy=>?_,h.ownkeys,h.sep,h.sepB,h.one,?_,h.fresh,fun b hb=> .inl (h.sub b hb)⟩
 ·obtain ⟨h1,vs,ty,h2,h3,h4⟩:=h.aw x hx
  refine ⟨h1,vs,ty,?_,h3,fun i y hy=>mv _ _ (h4 i y hy)⟩;rw [hk.block _ (T2.1 h2).1 (fun hX'=>(hX _ hX').2.1 (.inl ⟨x,hx,rfl⟩))];exact h2
 ·obtain ⟨h1,h2,h3⟩:=h.own y hy
  exact ⟨h1,h2.move (fun b hb=>hk.block b (h2.lt b hb) (fun hX'=>(hX b hX').2.1 (.inr ⟨y,hy,hb⟩))),h3⟩
 have hB:=h.base;refine ⟨hk.os.trans hB.os,hk.tape.trans hB.tape,hk.output.trans hB.output,G0 hB.size hk.size,fun k hl hm=>?_⟩
 rw [hk.block k (Kk hl hB.size) (fun hX'=>by
  rcases (hX k hX').2.2 with h|h
  ·omega
  exact hm h)]
 exact hB.block k hl hm
def B9e (own:List Ow) (x:AV) (es:Nat):Option (Nat×(Nat→List Ad)×List Nat):=
 match x with
 | .own k=>match Bm own k with
  |some (.sl n e row)=>match Nat.beq e es with
   |true=>some (n,row,[k])
   |false=>none
  |_=>none
 | .c (.val (.slice none 0 0))=>some (0,fun _=>[],[])
 |_=>none
def C0f (own:List Ow) (x:AV) (es:Nat):Option (Nat×(Nat→List Ad)×List Nat):=
 match x with
 | .own k=>match Bm own k with
  |some (.sl n e row)=>match Nat.beq e es with
   |true=>some (n,row,[k])
   |false=>none
  |_=>none
 | .c (.val (.slice none 0 0))=>some (0,fun _=>[],[])
 | .c (.sl n e row)=>match Nat.beq e es with
  |true=>some (n,row,[])
  |false=>none
 | .c (.val (.string b))=>match Nat.beq es 1 with
  |true=>some (b.size,fun i=>[.val (.int .u8 (b.data.getD i 0).toNat)],[])
  |false=>none
 |_=>none
def Ze (n1 n2 es:Nat) (row1 row2:Nat→List Ad) (c:Ad):Prop:=∃row,c= .sl (n1+n2) es row∧C3o n1 n2 row1 row2 row
def Fc (n:Nat) (row:Nat→List Ad):Prop:=∀i,i<n→∀c∈row i,∃x,c= .val x
theorem C1t {w:World}(h:s.is B E a w)(hd:D0 E w (s.ag E) s.next x v)(hx:B9e s.own x es=some (n,row,ks)):∃row' fp,Bz w (.sl n es row') v fp∧(∀i,i<n→row' i=row i)∧fp.Nodup∧fp=ks.flatMap E.fp∧∀k∈ks,∃y∈s.own,y.key=k:=by
 unfold B9e at hx
 split at hx
 ·rename_i k
  split at hx
  ·rename_i n' e' row' hg
   split at hx
   ·rename_i he
    obtain rfl:=F7 he;simp only [Em,Jh] at hx;obtain ⟨rfl,rfl,rfl⟩:=hx;have hm:=Ca hg
    cases hd with
    |own hk=>
     obtain ⟨_,h2,h3⟩:=h.own _ hm;exact ⟨_,_,h2,fun _ _=>rfl,h3,by simp,fun j hj=>by simp at hj;subst hj;exact ⟨_,hm,rfl⟩⟩
   simp at hx
  simp at hx
 ·simp only [Em,Jh] at hx
  obtain ⟨rfl,rfl,rfl⟩:=hx;have e:=B3 hd;subst e;exact ⟨_,[],.nil es _,fun _ _=>rfl,by simp,by simp,by simp⟩
 simp at hx
theorem L5 (l:List α):l.flatMap (fun _=>([]:List Nat))=[]:=by
 induction l with
 |nil=>rfl
 |cons x l ih=>simp
theorem C29 {w:World}(h:s.is B E a w)(hd:D0 E w (s.ag E) s.next x v)(hx:C0f s.own x es=some (n,row,ks))(hf:ks=[]→Fc n row):∃au fps,Src w v n es row au fps∧((List.range (n * es)).flatMap fps).Nodup∧(∀b∈(List.range (n * es)).flatMap fps,b∈ks.flatMap E.fp)∧
   ∀k∈ks,∃y∈s.own,y.key=k:=by
 have nilc:∀(row:Nat→List Ad),Src w (.slice none 0 0) 0 es row [] (fun _=>[]):=fun row=>⟨by simp,fun i hi=>by omega,.inl ⟨rfl,rfl⟩,fun i j c hi=>by omega⟩
 unfold C0f at hx
 split at hx
 ·rename_i k
  split at hx
  ·rename_i n' e' row' hg
   split at hx
   ·rename_i he
    obtain rfl:=F7 he;simp only [Em,Jh] at hx;obtain ⟨rfl,rfl,rfl⟩:=hx;have hm:=Ca hg
    cases hd with
    |own hk=>
     obtain ⟨_,h2,h3⟩:=h.own _ hm;have keys:∀j∈[k],∃y∈s.own,y.key=j:=fun j hj=>by simp at hj;subst hj;exact ⟨_,hm,rfl⟩
     simp only at h2 h3
     generalize hv:E.ov k=v,hfp:E.fp k=fp at h2;rw [hfp] at h3
     cases h2 with
     |nil=>exact ⟨[],fun _=>[],nilc _,by simp,by simp,keys⟩
     |emp _ _ b0 o0=>exact ⟨[],fun _=>[],⟨by simp,fun i hi=>by omega,.inr (.inr (.inl ⟨b0,o0,0,rfl,fun j hj=>by simp at hj⟩)),fun i j c hi=>by omega⟩,by simp,by simp,keys⟩
     |sl _ _ _ b off cap ty cells fps hn hc hb hs hl hr=>
      obtain ⟨h4,h5⟩:=Ip.1 h3;refine ⟨(List.range (n' * e')).map fun k=>cells.getD (off * e'+k) undef,fps,⟨by simp,hl,.inr (.inr (.inl ⟨b,off * e',cap,rfl,fun j hj=>?_⟩)),fun i j c hi hcj=>?_⟩,h5,fun x hx=>?_,keys⟩
      ·have hlt:off * e'+j<cells.size:=by
        have:=Kl e' (show off+n'≤off+cap by omega)
        rw [G1] at this;omega
       rw [cell_of_row w b _ cells ty (0,0) hb]
       simp [List.getD,hj,Array.getD,hlt]
      ·have hjl:j<e':=by have:=(Cu.1 hcj).1;rw [hl i hi] at this;exact this
       have:=hr i j c hi hcj
       rw [show (off+i) * e'+j=off * e'+(i * e'+j) by rw [G1,Wm]] at this
       simpa [List.getD,Gs hi hjl] using this
      simp [hfp,hx]
   simp at hx
  simp at hx
 ·simp only [Em,Jh] at hx
  obtain ⟨rfl,rfl,rfl⟩:=hx;have e:=B3 hd;subst e;exact ⟨[],fun _=>[],nilc _,by simp,by simp,by simp⟩
 ·rename_i n' e' row'
  split at hx
  ·rename_i he
   obtain rfl:=F7 he;simp only [Em,Jh] at hx;obtain ⟨rfl,rfl,rfl⟩:=hx;have hf:=hf rfl
   cases hd with
   |c hr=>
    cases hr with
    |nil=>exact ⟨[],fun _=>[],nilc _,by simp,by simp,by simp⟩
    |emp _ _ a=>exact ⟨[],fun _=>[],⟨by simp,fun i hi=>by omega,.inr (.inl ⟨a,rfl,rfl⟩),fun i j c hi=>by omega⟩,by simp,by simp,by simp⟩
    |sl _ _ _ b off cap u hA hn hc hl hu hr=>
     refine ⟨(List.range (n' * e')).map fun k=>u (k / e') (k % e'),fun _=>[],⟨by simp,hl,.inr (.inr (.inl ⟨b,off,cap,rfl,fun j hj=>?_⟩)),fun i j c hi hcj=>?_⟩,by rw [L5];exact List.nodup_nil,by rw [L5];simp,by simp⟩
     ·have he:0<e':=Z2 (fun h=>by subst h;simp at hj)
      have hi:j / e'<n':=Nat.div_lt_of_lt_mul (by rw [Qu];exact hj)
      have:=hu (j / e') (j % e') hi (Ub _ he)
      rw [show off+j / e' * e'+j % e'=off+j by rw [Wm,Qu (j / e'),Nat.div_add_mod]] at this
      simp [List.getD,hj,this]
     have hjl:j<e':=by have:=(Cu.1 hcj).1;rw [hl i hi] at this;exact this
     have he:0<e':=by omega
     have h1:(i * e'+j) / e'=i:=by rw [Qu,Nat.mul_add_div he,Nat.div_eq_of_lt hjl];omega
     have h2:(i * e'+j) % e'=j:=by rw [Qu,Nat.mul_add_mod];exact A76 hjl
     obtain ⟨x,rfl⟩:=hf i hi c (Hr hcj);have hone:=(hr i j _ hi hcj).one;have hval:u i j=x:=by have:=hr i j _ hi hcj;cases this;rfl
     simp only [List.getD,Ec,A75,Gs hi hjl,Qv,Uc,h1,h2];rw [hval] at hone ⊢;exact .val x hone
  simp at hx
 ·rename_i b
  split at hx
  ·rename_i he
   obtain rfl:=F7 he;simp only [Em,Jh] at hx;obtain ⟨rfl,rfl,rfl⟩:=hx;have e:=B3 hd;subst e;refine ⟨b.data.toList.map fun b=> .int .u8 b.toNat,fun _=>[],⟨by rw [Oy,Nat.mul_one];exact Nr,fun _ _=>rfl,.inr (.inr (.inr ⟨b,rfl,rfl,rfl,rfl⟩)),fun i j c hi hcj=>?_⟩,by rw [L5];exact List.nodup_nil,by rw [L5];simp,by simp⟩
   obtain rfl:j=0:=by
    have:=(Cu.1 hcj).1
    simpa using this
   simp only [H3,Em] at hcj;subst hcj;have hi':i<b.data.size:=hi
   have e:(b.data.toList.map fun b=>Value.int .u8 b.toNat).getD (i * 1+0) undef= .int .u8 (b.data.getD i 0).toNat:=by
    rw [Nat.mul_one,T3,List.getD,Ec,Array.getElem?_toList,Se hi',A2f,Se hi'];rfl
   rw [e];exact .val _ rfl
  simp at hx
 simp at hx
variable {all : Array Oper} {o : Oper} {rest : List Oper} {y : Operand}
theorem C33 (hT:C0 P T){x:Operand}{t' e2:TypeId}{j:TI}(hg:o.guard=none)(ho:o.op= .call {callee:= .builtin .append,args:= #[x,y],argTypes:= #[t,t']})(htt:P.underlying t'=some (.slice e2)∨P.underlying t'=some .string)(hi:find T t=some i)(he:i.elem=some e)(hj:find T e=some j)(hp:Nat.blt 0 j.size=true){ks1 ks2:List Nat}(hd:B9e s.own (s.ev x) j.size=some (n1,row1,ks1))(hs:C0f s.own (s.ev y) j.size=some (n2,row2,ks2))(hk:Gl (ks1++ks2)=true)(c:Ad)(hc:Ze n1 n2 j.size row1 row2 c)(hf:ks2=[]→Fc n2 row2)(hb:n1+n2≤549755813888∧Nat.ble j.bytes 256=true)(h:G P B Q (.ops q all rest::K) (({s with own:=⟨s.next,c⟩::Bb (ks1++ks2) s.own,next:=s.next+1}:AS).put o.dst (.own s.next))):G P B Q (.ops q all (o::rest)::K) s:=by
 refine Ia hg (by rw [ho];simp [Di]) (fun E a w hs'=>?_);obtain ⟨row1',fp,h1,h2,h3,h4,h5⟩:=C1t hs' (hs'.ev x) hd;obtain ⟨au,fps2,g1,g2,g3,g4⟩:=C29 hs' (hs'.ev y) hs hf;obtain ⟨row,rfl,hJ⟩:=hc;have hnd:=Eu hk;obtain ⟨hnd1,hnd2,hnd3⟩:=A78.1 hnd
 have hdis:∀b∈fp,b∉(List.range (n2 * j.size)).flatMap fps2:=by
  intro b hb hb';rw [h4] at hb;obtain ⟨k,hk1,hb1⟩:=E7.1 hb;obtain ⟨l,hl1,hb2⟩:=E7.1 (g3 b hb');obtain ⟨y1,hy1,rfl⟩:=h5 k hk1;obtain ⟨y2,hy2,rfl⟩:=g4 l hl1;exact hs'.sep y1 hy1 y2 hy2 (hnd3 _ hk1 _ hl1) b hb1 hb2
 have hlt2:∀b∈(List.range (n2 * j.size)).flatMap fps2,b<w.heap.size:=by
  intro b hb;obtain ⟨l,hl1,hb2⟩:=E7.1 (g3 b hb);obtain ⟨y2,hy2,rfl⟩:=g4 l hl1;exact (hs'.own y2 hy2).2.1.lt b hb2
 obtain ⟨hb1,hb2⟩:=hb;have hb2:=Cz hb2
 obtain ⟨v',w',fp',hrun,hA⟩:=A65 (P:=P) (ty:=o.type) (row:=row) (C1 (hT t i hi) he) htt (hT e j hj) h1 h3 g1 g2 hdis hlt2 ⟨fun i hi=>(hJ.1 i hi).trans (h2 i hi).symm,hJ.2⟩ (Ko hp)
  (by simp only [maxLen];omega) (G0 (Wd hb1 hb2) A7)
 have hI:=hs'.drop (ks1++ks2)
 have key:∀b,(b∈fp∨b∈(List.range (n2 * j.size)).flatMap fps2)→s.ag E b∧¬ ({s with own:=Bb (ks1++ks2) s.own}:AS).ag E b:=by
  intro b hb
  have:∃k∈ks1++ks2,∃y∈s.own,y.key=k∧b∈E.fp k:=by
   rcases hb with hb|hb
   ·rw [h4] at hb
    obtain ⟨k,hk1,hb1⟩:=E7.1 hb;obtain ⟨y1,hy1,e⟩:=h5 k hk1;exact ⟨k,A79 _ hk1,y1,hy1,e,hb1⟩
   obtain ⟨l,hl1,hb2⟩:=E7.1 (g3 b hb);obtain ⟨y2,hy2,e⟩:=g4 l hl1;exact ⟨l,A8a _ hl1,y2,hy2,e,hb2⟩
  obtain ⟨k,hk1,y,hy,rfl,hb⟩:=this;refine ⟨.inr ⟨y,hy,hb⟩,?_⟩
  rintro (⟨z,hz,rfl⟩|⟨z,hz,hb'⟩)
  ·exact hs'.sepB z hz y hy hb
  obtain ⟨hz1,hz2⟩:=Bl.1 hz;exact hs'.sep y hy z hz1 (fun e=>hz2 (e▸hk1)) b hb hb'
 have hI2:=hI.kept hA.kept (fun b hb=>⟨(key b (.inl hb)).1,(key b (.inl hb)).2,hs'.fresh b (key b (.inl hb)).1⟩)
 obtain ⟨k1,k2⟩:=hI2.addOwn hA.own hA.nodup (fun b hb=>by
  rcases hA.sub b hb with h|h|h
  ·exact ⟨.inl (key b (.inl h)).1,(key b (.inl h)).2,hs'.fresh b (key b (.inl h)).1⟩
  ·exact ⟨.inl (key b (.inr h)).1,(key b (.inr h)).2,hs'.fresh b (key b (.inr h)).1⟩
  refine ⟨.inr h,fun hav=>?_,.inl (G0 hs'.base.size h)⟩
  have:=hs'.avoid_lt (hI.sub b hav)
  omega)
 have hput:=(k1.put o.dst k2).is;refine ⟨v',w',.inl ?_,fun hk=>(by rw [ho] at hk;simp [Di] at hk),h _ _ _ hput⟩;obtain ⟨dst,op',ty,pos,after,guard⟩:=o
 simp only at ho
 subst ho
 simp only at hrun
 simp [execOp,resolve,invoke,builtin,hrun]
open Go.RowKit (Below)
def Fl.setFp (E:Fl) (n:Nat) (fp:List Nat):Fl:= {E with fp:=fun k=>if k=n then fp else E.fp k}
theorem AS.isA.addAt {w:World}(h:s.isA B E A a w)(hk:k<s.next)(hn:∀y∈s.own,y.key≠k){fp:List Nat}(ho:Bz w c (E.ov k) fp)(hnd:fp.Nodup)(hA:∀b∈fp,A b∧¬ s.ag E b∧B.fresh b):({s with own:=⟨k,c⟩::s.own}:AS).isA B (E.setFp k fp) A a w:=by
 have kfp:∀y∈s.own,(E.setFp k fp).fp y.key=E.fp y.key:=fun y hy=>by simp [Fl.setFp,hn y hy]
 have kfn:(E.setFp k fp).fp k=fp:=by simp [Fl.setFp]
 have av:∀b,({s with own:=⟨k,c⟩::s.own}:AS).ag (E.setFp k fp) b→b∈fp∨s.ag E b:=by
  rintro b (⟨x,hx,rfl⟩|⟨y,hy,hb⟩)
  ·exact .inr (.inl ⟨x,hx,rfl⟩)
  rcases C7.1 hy with rfl|hy
  ·rw [kfn] at hb;exact .inl hb
  rw [kfp y hy] at hb;exact .inr (.inr ⟨y,hy,hb⟩)
 have mv:∀x v',D0 E w A s.next x v'→D0 (E.setFp k fp) w A s.next x v':=fun x v' hx=>hx.move (Bu _) (fun _ _=>⟨rfl,rfl⟩) (fun _ _ _=>rfl) (fun _ _ hb=>hb);refine ⟨h.defers,h.ak,h.size,fun i x hx=>mv _ _ (h.ac i x hx),fun x hx=>?_,h.boxes2,h.keys,fun y hy=>?_,?_,?_,?_,h.one,h.base,fun b hb=>?_,fun b hb=>?_⟩
 ·obtain ⟨h1,vs,ty,h2,h3,h4⟩:=h.aw x hx
  exact ⟨h1,vs,ty,h2,h3,fun i y hy=>mv _ _ (h4 i y hy)⟩
 ·rcases C7.1 hy with rfl|hy
  ·exact ⟨hk,by rw [kfn];exact ho,by rw [kfn];exact hnd⟩
  obtain ⟨h1,h2,h3⟩:=h.own y hy;rw [kfp y hy];exact ⟨h1,h2,h3⟩
 ·simp only [I8,Ip]
  refine ⟨fun hm=>?_,h.ownkeys⟩;obtain ⟨y,hy,e⟩:=Ea.1 hm;exact hn y hy e
 ·intro y hy z hz hne b hb hb'
  rcases C7.1 hy with rfl|hy<;>rcases C7.1 hz with rfl|hz
  ·exact hne rfl
  ·rw [kfn] at hb
   rw [kfp z hz] at hb';exact (hA b hb).2.1 (.inr ⟨z,hz,hb'⟩)
  ·rw [kfp y hy] at hb
   rw [kfn] at hb';exact (hA b hb').2.1 (.inr ⟨y,hy,hb⟩)
  rw [kfp y hy] at hb;rw [kfp z hz] at hb';exact h.sep y hy z hz hne b hb hb'
 ·intro x hx y hy hb
  rcases C7.1 hy with rfl|hy
  ·rw [kfn] at hb
   exact (hA _ hb).2.1 (.inl ⟨x,hx,rfl⟩)
  rw [kfp y hy] at hb;exact h.sepB x hx y hy hb
 ·rcases av b hb with hb|hb
  ·exact (hA b hb).2.2
  exact h.fresh b hb
 rcases av b hb with hb|hb
 ·exact (hA b hb).1
 exact h.sub b hb
def Ur (own:List Ow) (l:List AV):Option (List Ad×List Nat):=
 match l with
 | []=>some ([],[])
 | .c (.val v)::r=>match Ur own r with
  |some (cs,ks)=>some (.val v::cs,ks)
  |none=>none
 | .own k::r=>match Bm own k,Ur own r with
  |some c,some (cs,ks)=>some (c::cs,k::ks)
  |_,_=>none
 |_=>none
def E6 (l:List Ad) (off:Nat) (xs:List Ad):List Ad:=l.take off++xs++l.drop (off+xs.length)
def V5 (n es:Nat) (row:Nat→List Ad) (j off:Nat) (cs:List Ad) (c:Ad):Prop:=
 ∃row',c= .sl n es row'∧(∀i,i<n→i≠j→row' i=row i)∧row' j=E6 (row j) off cs
theorem A6m {w:World}(h:s.is B E a w):∀{l:List AV} {cs:List Ad} {ks:List Nat},Ur s.own l=some (cs,ks)→ks.Nodup→∀{vs:List Value},vs.length=l.length→
  (∀i x,l[i]? =some x→D0 E w (s.ag E) s.next x (vs.getD i undef))→
  cs.length=l.length∧(∀k∈ks,∃y∈s.own,y.key=k)∧∃gps:Nat→List Nat,(∀i c,cs[i]? =some c→Bz w c (vs.getD i undef) (gps i))∧((List.range cs.length).flatMap gps).Nodup∧
   ∀b∈(List.range cs.length).flatMap gps,b∈ks.flatMap E.fp:=by
 intro l
 induction l with
 |nil=>
  intro cs ks hc _ vs _ _;simp only [Ur,Em,Jh] at hc;obtain ⟨rfl,rfl⟩:=hc;exact ⟨rfl,by simp,fun _=>[],by simp,by simp,by simp⟩
 |cons x l ih=>
  intro cs ks hc hnd vs hl hv
  match vs,hl with
  |v::vs,hl=>
   have rest:∀{cs' ks'},Ur s.own l=some (cs',ks')→ks'.Nodup→_:=fun h1 h2=>ih h1 h2 (vs:=vs) (by simpa using hl) (fun i y hy=>by simpa using hv (i+1) y (by simpa using hy))
   have glue:∀(c:Ad) (cs':List Ad) (gps:Nat→List Nat) (g0:List Nat),(List.range (c::cs').length).flatMap (fun i=>match i with| 0=>g0|i+1=>gps i)=g0++(List.range cs'.length).flatMap gps:=by
    intro c cs' gps g0
    simp [A77,Rx,Z7]
   unfold Ur at hc
   split at hc
   ·rename_i heq;simp at heq
   ·rename_i v' r heq
    simp only [Nf] at heq;obtain ⟨rfl,rfl⟩:=heq
    split at hc
    ·rename_i cs' ks' hr
     simp only [Em,Jh] at hc;obtain ⟨rfl,rfl⟩:=hc;obtain ⟨h1,h2,gps,h3,h4,h5⟩:=rest hr hnd;have hd:=hv 0 _ rfl;simp only [Ue] at hd
     refine ⟨by simp [h1],h2,fun i=>match i with| 0=>[]|i+1=>gps i,fun i c hi=>?_,?_,?_⟩
     ·cases i with
      |zero=>
       simp only [H3,Em] at hi;subst hi;have e:=B3 hd;subst e
       cases hd with
       |c hr'=>exact .val _ hr'.one
      |succ i=>simpa using h3 i c (by simpa using hi)
     ·rw [glue];simpa using h4
     rw [glue];simpa using h5
    simp at hc
   ·rename_i k r heq
    simp only [Nf] at heq;obtain ⟨rfl,rfl⟩:=heq
    split at hc
    ·rename_i c' cs' ks' hg hr
     simp only [Em,Jh] at hc;obtain ⟨rfl,rfl⟩:=hc;obtain ⟨n1,n2⟩:=Ip.1 hnd;obtain ⟨h1,h2,gps,h3,h4,h5⟩:=rest hr n2;have hm:=Ca hg;obtain ⟨_,o2,o3⟩:=h.own _ hm;have hd:=hv 0 _ rfl;simp only [Ue] at hd
     refine ⟨by simp [h1],fun j hj=>?_,fun i=>match i with| 0=>E.fp k|i+1=>gps i,fun i c hi=>?_,?_,?_⟩
     ·rcases C7.1 hj with rfl|hj
      ·exact ⟨_,hm,rfl⟩
      exact h2 j hj
     ·cases i with
      |zero=>
       simp only [H3,Em] at hi;subst hi;generalize v=u at hd
       cases hd with
       |own hk=>simpa using o2
      |succ i=>simpa using h3 i c (by simpa using hi)
     ·rw [glue]
      refine A78.2 ⟨o3,h4,fun x hx y hy e=>?_⟩;subst e;obtain ⟨k2,hk2,hx2⟩:=E7.1 (h5 x hy);obtain ⟨y2,hy2,rfl⟩:=h2 k2 hk2;exact h.sep _ hm y2 hy2 (fun e=>n1 (by simp only at e;rw [e];exact hk2)) x hx hx2
     rw [glue];intro b hb
     rcases Hg.1 hb with hb|hb
     ·exact E7.2 ⟨k,by simp,hb⟩
     obtain ⟨k2,hk2,hb2⟩:=E7.1 (h5 b hb);exact E7.2 ⟨k2,by simp [hk2],hb2⟩
    simp at hc
   simp at hc
variable {off : Nat}
theorem C2s {w:World}{b cap:Nat}{ty:TypeId}{cells:Array Value}(hn:n≤cap)(hc:cap≤maxLen)(hb:w.heap[b]? =some (.cells cells ty (0,0)))(hs:(off+cap) * es≤cells.size)(hl:∀i,i<n→(row i).length=es)(hr:∀i j c,i<n→(row i)[j]? =some c→Bz w c (cells.getD ((off+i) * es+j) undef) (fps (i * es+j)))(hnd:(b::(List.range (n * es)).flatMap fps).Nodup){j o:Nat}(hj:j<n){vs:List Value}{gps:Nat→List Nat}(ho:o+cs.length≤es)(hv:vs.length=cs.length)(hg:∀i c,cs[i]? =some c→Bz w c (vs.getD i undef) (gps i))(hgn:((List.range cs.length).flatMap gps).Nodup)(hgd:∀x∈(List.range cs.length).flatMap gps,x∉b::(List.range (n * es)).flatMap fps){c':Ad}(hu:V5 n es row j o cs c'):
  ∃fp',Bz (w.setRow b (cells.toList.take ((off+j) * es+o)++vs++cells.toList.drop ((off+j) * es+o+vs.length)).toArray) c' (.slice (some ⟨b,off * es,none⟩) n cap) fp'∧fp'.Nodup∧
   ∀x∈fp',x∈b::(List.range (n * es)).flatMap fps∨x∈(List.range cs.length).flatMap gps:=by
 obtain ⟨row',rfl,hu1,hu2⟩:=hu;obtain ⟨hb0,hnd1⟩:=Ip.1 hnd;have hk:∀x,x≠b→(w.setRow b (cells.toList.take ((off+j) * es+o)++vs++cells.toList.drop ((off+j) * es+o+vs.length)).toArray).heap[x]? =w.heap[x]? :=fun x hx=>Fx w b x _ hx
 have hjes:j * es+es≤n * es:=by rw [←Pj];exact Kl _ hj
 have hfit:(off+j) * es+o+cs.length≤cells.size:=by
  have h1:(off+j) * es+es≤(off+cap) * es:=by rw [←Pj];exact Kl _ A7
  omega
 let F:Nat→List Nat:=fun k=>if j * es+o≤k∧k<j * es+o+cs.length then gps (k-(j * es+o)) else fps k
 have hlen':∀i,i<n→(row' i).length=es:=by
  intro i hi
  by_cases e:i=j
  ·subst e
   rw [hu2]
   simp [E6,hl i hi]
   omega
  rw [hu1 i hi e];exact hl i hi
 have hget:∀k,k<cells.size→(cells.toList.take ((off+j) * es+o)++vs++cells.toList.drop ((off+j) * es+o+vs.length)).toArray.getD k undef=
   if (off+j) * es+o≤k∧k<(off+j) * es+o+cs.length then vs.getD (k-((off+j) * es+o)) undef else cells.getD k undef:=by
  intro k hk';rw [←Bn,←Bn];simp only [List.getD];have e1:(List.take ((off+j) * es+o) cells.toList).length=(off+j) * es+o:=by simp;omega
  by_cases h1:k<(off+j) * es+o
  ·rw [Ab A7,Ci,F3 A7]
   simp [h1]
  by_cases h2:k<(off+j) * es+o+cs.length
  ·rw [Ah ⟨by omega,h2⟩,Ci,F8 A7,e1,F3 A7]
  rw [Ab A7,F8 (by simp only [Dn];omega)];simp only [Dn,e1,T7];rw [show (off+j) * es+o+vs.length+(k-((off+j) * es+o+vs.length))=k by omega]
 refine ⟨b::(List.range (n * es)).flatMap F,.sl n es row' b off cap ty _ F hn hc (setRow_heap w b cells _ ty (0,0) hb) P4 hlen' (fun i m c hi hcm=>?_),?_,fun x hx=>?_⟩
 ·have hml:m<es:=by have:=(Cu.1 hcm).1;rw [hlen' i hi] at this;exact this
  have hkl:(off+i) * es+m<cells.size:=by
   have:=Gs (show off+i<off+cap by omega) hml
   omega
  rw [hget _ hkl]
  by_cases e:i=j
  ·subst e
   rw [hu2] at hcm;have hl1:(List.take o (row i)).length=o:=by simp [hl i hi];omega
   by_cases h1:o≤m∧m<o+cs.length
   ·rw [Ah A7]
    have hF:F (i * es+m)=gps (m-o):=by
     simp only [F];rw [Ah A7]
     congr 1;omega
    rw [hF,show (off+i) * es+m-((off+i) * es+o)=m-o by omega]
    simp only [E6] at hcm;rw [Ci,F8 A7,hl1,F3 A7] at hcm;exact (hg _ c hcm).move (fun x hx=>hk x (fun e=>hgd x (Dp (by have:=(Cu.1 hcm).1;exact this) hx) (by simp [e])))
   rw [Ab A7]
   have hF:F (i * es+m)=fps (i * es+m):=by
    simp only [F];rw [Ab A7]
   rw [hF]
   have hold:(row i)[m]? =some c:=by
    simp only [E6] at hcm
    by_cases h2:m<o
    ·rw [Ci,F3 A7,Wn,Ah h2] at hcm
     exact hcm
    rw [F8 (by simp only [Dn];omega)] at hcm;simp only [Dn,hl1,T7] at hcm
    rwa [show o+cs.length+(m-(o+cs.length))=m by omega] at hcm
   exact (hr i m c hi hold).move (fun x hx=>hk x (fun e=>hb0 (e▸Dp (Gs hi hml) hx)))
  have hne:¬ ((off+j) * es+o≤(off+i) * es+m∧(off+i) * es+m<(off+j) * es+o+cs.length):=by
   rintro ⟨h1,h2⟩
   rcases Uh e with h|h
   ·have:(off+i) * es+es≤(off+j) * es:=by rw [←Pj];exact Kl _ A7
    omega
   have:(off+j) * es+es≤(off+i) * es:=by rw [←Pj];exact Kl _ A7
   omega
  have hne2:¬ (j * es+o≤i * es+m∧i * es+m<j * es+o+cs.length):=by
   rintro ⟨h1,h2⟩
   rcases Uh e with h|h
   ·have:i * es+es≤j * es:=by rw [←Pj];exact Kl _ A7
    omega
   have:j * es+es≤i * es:=by rw [←Pj];exact Kl _ A7
   omega
  rw [Ab hne];have hF:F (i * es+m)=fps (i * es+m):=by simp only [F];rw [Ab hne2]
  rw [hF];exact (hr i m c hi (by rw [←hu1 i hi e];exact hcm)).move (fun x hx=>hk x (fun e=>hb0 (e▸Dp (Gs hi hml) hx)))
 ·have hFm:∀k,k<n * es→∀x∈F k,(x∈(List.range (n * es)).flatMap fps∧F k=fps k)∨(x∈(List.range cs.length).flatMap gps∧j * es+o≤k∧k<j * es+o+cs.length):=by
   intro k hk' x hx;simp only [F] at hx ⊢
   by_cases h:j * es+o≤k∧k<j * es+o+cs.length
   ·rw [Ah h] at hx
    exact .inr ⟨Dp A7 hx,h⟩
   rw [Ab h] at hx ⊢;exact .inl ⟨Dp hk' hx,rfl⟩
  rw [Ip];refine ⟨fun hm=>?_,Cg.2 ⟨fun k hk'=>?_,?_⟩⟩
  ·obtain ⟨k,hk',hx⟩:=E7.1 hm
   rcases hFm k (Fk.1 hk') b hx with ⟨h,_⟩|⟨h,_⟩
   ·exact hb0 h
   exact hgd b h Ef
  ·have hk':=Fk.1 hk'
   simp only [F]
   split
   ·exact (Cg.1 hgn).1 _ (Fk.2 A7)
   exact (Cg.1 hnd1).1 _ (Fk.2 hk')
  have p1:=(Cg.1 hnd1).2;have p2:=(Cg.1 hgn).2;rw [Ry] at p1 p2 ⊢;intro k l hk0 hl0 hlt x hx hx';have hk':k<n * es:=by simpa using hk0
  have hl':l<n * es:=by simpa using hl0
  simp only [Wc,Ui] at hx hx' p1 p2
  rcases hFm k hk' x hx with ⟨h1,e1⟩|⟨h1,a1,a2⟩<;>rcases hFm l hl' x hx' with ⟨h2,e2⟩|⟨h2,b1,b2⟩
  ·rw [e1] at hx
   rw [e2] at hx';exact p1 k l hk' hl' hlt x hx hx'
  ·exact hgd x h2 (Cq _ h1)
  ·exact hgd x h1 (Cq _ h2)
  have f1:F k=gps (k-(j * es+o)):=by simp only [F];rw [Ah ⟨a1,a2⟩]
  have f2:F l=gps (l-(j * es+o)):=by simp only [F];rw [Ah ⟨b1,b2⟩]
  rw [f1] at hx;rw [f2] at hx';exact p2 (k-(j * es+o)) (l-(j * es+o)) A7 A7 A7 x hx hx'
 rcases C7.1 hx with rfl|hx
 ·exact .inl Ef
 obtain ⟨k,hk',hx⟩:=E7.1 hx;simp only [F] at hx
 split at hx
 ·exact .inr (Dp A7 hx)
 exact .inl (Cq _ (Dp (Fk.1 hk') hx))
theorem B8x (hT:C0 P T){x:Operand}(hg:o.guard=none)(ho:o.op= .store t x y)(hi:find T t=some i){j:Int}(hx:s.ev x= .oel k es j off)(hk:Bm s.own k=some (.sl n es row))(hc:Ur s.own (s.ev y).cellsOf=some (cs,ks))(hkd:Gl (k::ks)=true)(hsz:(Nat.beq cs.length i.size&&Nat.ble (off+i.size) es)=true)(c':Ad)(hu:V5 n es row j.toNat off cs c')(h:G P B Q (.ops q all rest::K) (({s with own:=⟨k,c'⟩::Bb (k::ks) s.own}:AS).put o.dst .any)):G P B Q (.ops q all (o::rest)::K) s:=by
 refine Ia hg (by rw [ho];simp [Di]) (fun E a w hs=>?_);simp only [Cj] at hsz;have hsz1:=F7 hsz.1;have hsz2:=Cz hsz.2;have hnd:=Eu hkd;obtain ⟨nk,nks⟩:=Ip.1 hnd;have hm:=Ca hk;obtain ⟨hklt,o2,o3⟩:=hs.own _ hm
 simp only at o2 o3 hklt
 have hev:=hs.ev x;rw [hx] at hev;generalize hv:a.eval x=v at hev
 have hval:(a.eval y).cells.size=(s.ev y).cellsOf.length∧(∀m z,(s.ev y).cellsOf[m]? =some z→D0 E w (s.ag E) s.next z ((a.eval y).cells.getD m undef))∧∀z∈(a.eval y).cells.toList,z.oneCell'=true:=by
  refine Rb (hs.ev y) ?_ hs.one
  have:∀(l:List AV) cs ks,Ur s.own l=some (cs,ks)→M4 l=true:=by
   intro l
   induction l with
   |nil=>intros;rfl
   |cons z l ih=>
    intro cs ks hc;unfold Ur at hc
    split at hc
    ·rename_i heq;simp at heq
    ·rename_i v' r heq
     simp only [Nf] at heq;obtain ⟨rfl,rfl⟩:=heq
     split at hc
     ·rename_i hr;simpa [M4,AV.cellLike] using ih _ _ hr
     simp at hc
    ·rename_i k' r heq
     simp only [Nf] at heq;obtain ⟨rfl,rfl⟩:=heq
     split at hc
     ·rename_i hr;simpa [M4,AV.cellLike] using ih _ _ hr
     simp at hc
    simp at hc
  exact this _ _ _ hc
 obtain ⟨c1,c2,c3⟩:=hval;obtain ⟨q1,q2,gps,q3,q4,q5⟩:=A6m hs hc nks (vs:=(a.eval y).cells.toList) (by simpa using c1) (fun m z hz=>by rw [Bn];exact c2 m z hz)
 cases hev with
 |oel _ b o' n' cap hkl hov h0 hj=>
  rw [hov] at o2;generalize hfp:E.fp k=fp at o2 o3;obtain ⟨jn,rfl⟩:=Ud h0;simp only [Cp,Z4] at *
  cases o2 with
  |emp=>exact absurd hj (Le _)
  |sl _ _ _ _ offb _ ty cells fps hn hcp hb hcs hl hr=>
   have hrun0:=run_storeCells_at P b ((offb+jn) * es+off) ty (a.eval y).cells.toList 0 cells w hb (by
    have h1:(offb+jn) * es+es≤(offb+cap) * es:=by rw [←Pj];exact Kl _ A7
    simp only [T3,Nr]
    omega) c3
   simp only [T3] at hrun0
   have hgd:∀z∈(List.range cs.length).flatMap gps,z∉b::(List.range (n * es)).flatMap fps:=by
    intro z hz hz';obtain ⟨k2,hk2,hz2⟩:=E7.1 (q5 z hz);obtain ⟨y2,hy2,rfl⟩:=q2 k2 hk2;rw [←hfp] at hz';exact hs.sep _ hm y2 hy2 (fun e=>nk (by simp only at e;rw [e];exact hk2)) z hz' hz2
   obtain ⟨fp',w1,w2,w3⟩:=C2s hn hcp hb hcs hl hr o3 hj (o:=off) (cs:=cs) (vs:=(a.eval y).cells.toList) A7 (by rw [Nr,c1,q1]) q3 q4 hgd hu;have hI:=hs.drop (k::ks)
   have key:∀z,(z∈b::(List.range (n * es)).flatMap fps∨z∈(List.range cs.length).flatMap gps)→s.ag E z∧¬ ({s with own:=Bb (k::ks) s.own}:AS).ag E z:=by
    intro z hz
    have:∃k'∈k::ks,∃y∈s.own,y.key=k'∧z∈E.fp k':=by
     rcases hz with hz|hz
     ·exact ⟨k,by simp,_,hm,rfl,by rw [hfp];exact hz⟩
     obtain ⟨k2,hk2,hz2⟩:=E7.1 (q5 z hz);obtain ⟨y2,hy2,e⟩:=q2 k2 hk2;exact ⟨k2,Cq _ hk2,y2,hy2,e,hz2⟩
    obtain ⟨k',hk1,y',hy,rfl,hz⟩:=this;refine ⟨.inr ⟨y',hy,hz⟩,?_⟩
    rintro (⟨u,hu',rfl⟩|⟨u,hu',hz'⟩)
    ·exact hs.sepB u hu' y' hy hz
    obtain ⟨hz1,hz2⟩:=Bl.1 hu';exact hs.sep y' hy u hz1 (fun e=>hz2 (e▸hk1)) z hz hz'
   have hkept:C0p (fun z=>z=b) w (w.setRow b (cells.toList.take ((offb+jn) * es+off)++(a.eval y).cells.toList++cells.toList.drop ((offb+jn) * es+off+(a.eval y).cells.toList.length)).toArray):=
    ⟨rfl,rfl,rfl,by simp,fun z _ hz=>Fx w b z _ hz⟩
   have hI2:=hI.kept hkept (fun z hz=>by
    subst hz
    exact ⟨(key z (.inl Ef)).1,(key z (.inl Ef)).2,hs.fresh z (key z (.inl Ef)).1⟩)
   have hI3:=hI2.addAt (k:=k) hklt (fun y' hy=>fun e=>(Bl.1 hy).2 (by rw [e];simp)) (fp:=fp') (by rw [hov];exact w1) w2 (fun z hz=>by
    have:=w3 z hz
    exact ⟨.inl (key z this).1,(key z this).2,hs.fresh z (key z this).1⟩)
   refine ⟨undef,w.setRow b (cells.toList.take ((offb+jn) * es+off)++(a.eval y).cells.toList++cells.toList.drop ((offb+jn) * es+off+(a.eval y).cells.toList.length)).toArray,.inr ⟨?_,rfl⟩,fun hk=>(by rw [ho] at hk;simp [Di] at hk),h _ _ _ (hI3.put o.dst (.any undef)).is⟩;obtain ⟨dst,op',ty',pos,after,guard⟩:=o
   simp only at ho
   subst ho
   have hrun:(Instr.storeAt t (.pointer (some ⟨b,offb * es+jn * es+off,none⟩)) (a.eval y)).run P w= .ok () (w.setRow b (cells.toList.take ((offb+jn) * es+off)++(a.eval y).cells.toList++cells.toList.drop ((offb+jn) * es+off+(a.eval y).cells.toList.length)).toArray):=by
    rw [show offb * es+jn * es+off=(offb+jn) * es+off by rw [G1]]
    simp [Instr.storeAt,Instr.sureAddr,storeVar,B9 (hT t i hi),c1,←q1,hsz1,hrun0]
   simp only [execOp,hv,Sem.run_bind,hrun,Result.andThen_ok];rfl
open Go.RowKit (Below)
inductive GW (P:Program) (B:Er) (Q:Exit→Act→World→Prop) (K:List KI) (s:AS):Prop
 |mk (h:G P B Q K s):GW P B Q K s
inductive CW (P:Program) (B:Er) (Q:Exit→Act→World→Prop) (q:Bool) (f:FuncId) (xs:List AV) (dst:Option Tmp) (K:List KI) (s:AS):Prop
 |mk (h:A2i P B Q q f xs dst K s):CW P B Q q f xs dst K s
inductive RW (B:Er) (Q:Exit→Act→World→Prop) (s:AS):Prop
 |mk (h:C3s B Q s):RW B Q s
def vcW (P:Program) (B:Er) (Q:Exit→Act→World→Prop):Out→Prop
 | .aj K s=>GW P B Q K s
 | .call q f xs dst K s=>CW P B Q q f xs dst K s
 | .ret s=>RW B Q s
 | .ite b t e=>(b=true→vcW P B Q t)∧(b=false→vcW P B Q e)
 | .need p o=>p∧vcW P B Q o
theorem B8z (o:Out)(h:vcW P B Q o):vc P B Q o:=by
 induction o with
 |aj K s=>exact h.rec id
 |call q f xs dst K s=>exact h.rec id
 |ret s=>exact h.rec id
 |ite b t e iht ihe=>exact ⟨fun hb=>iht (h.1 hb),fun hb=>ihe (h.2 hb)⟩
 |need p o ih=>exact ⟨h.1,ih h.2⟩
theorem go (hT:C0 P T)(wr:Bool)(h:vcW P B Q (P7 T wr 100000 K s)):GW P B Q K s:=
 ⟨C61 hT wr 100000 K s (B8z _ h)⟩
theorem B67 (hT:C0 P T)(wr:Bool){f:FuncId}{c:Code}(hf:P.funcs[f]? =some fn)(hb:fn.body=some c)(hn:(fn.name== "runtime.NumGoroutine")=false)(h:∀W,vcW P ⟨W,fun _=>False⟩ (bodyPost P fn fun e w'=>Jp W w' ax e) (P7 T wr 100000 [.code c] (Dg fn.ntmps ins))):Sf P f ins ax:=
 enter hf hb hn fun W=>(go hT wr (h W)).rec id
theorem Nm {f:FuncId}(hf:Sf P f ins ax)(hx:Ir s xs=some ins)(h:GW P B Q K ((Gi ax s).2.put dst (Gi ax s).1)):CW P B Q q f xs dst K s:=⟨C4f hf hx (h.rec id)⟩
theorem Ao {f:FuncId}(hf:Sf P f ins ax)(hx:Ir s xs=some ins)(h:GW P B Q K (s.put dst (Pi ax))):CW P B Q q f xs dst K s:=⟨C70 hf hx (h.rec id)⟩
theorem D0h (hm:P.follows .mixedOrders=true){id:Nat}{ops:Array Oper}(ord:List Nat)(hB:C54 ops ord=true)(h:GW P B Q (.ops true ops (Ys ops ord)::K) s):GW P B Q (.code (.region id ops true)::K) s:=⟨C1r hm ord hB (h.rec fun h=>h)⟩
theorem Af (hT:C0 P T){W:World}(hx:Oo T fn.results.toList s=some xs)(hk:Gl (xs.flatMap D5)=true)(ho:N6 s.own xs ax):
  RW ⟨W,fun _=>False⟩ (bodyPost P fn fun e w'=>Jp W w' ax e) s:=⟨D1k hT hx hk ho⟩
theorem Bg (hT:C0 P T){x:Operand}{t':TypeId}{j:TI}{ks1 ks2:List Nat}(hh:(o.guard,o.op,t,find T t,i.elem,find T e,Nat.blt 0 j.size,B9e s.own (s.ev x) j.size,C0f s.own (s.ev y) j.size,Gl (ks1++ks2),Nat.ble j.bytes 256)=(none,.call {callee:= .builtin .append,args:= #[x,y],argTypes:= #[t,t']},t',some i,some e,some j,true,some (n1,row1,ks1),some (n2,row2,ks2),true,true))(c:Ad)(hc:Ze n1 n2 j.size row1 row2 c)(hf:ks2=[]→Fc n2 row2)(hb:n1+n2≤549755813888)(h:GW P B Q (.ops q all rest::K) (({s with own:=⟨s.next,c⟩::Bb (ks1++ks2) s.own,next:=s.next+1}:AS).put o.dst (.own s.next))):GW P B Q (.ops q all (o::rest)::K) s:=by
 simp only [Jh] at hh;obtain ⟨hg,ho,htt,hi,he,hj,hp,hd,hs,hk,hb'⟩:=hh;exact ⟨C33 hT hg ho (.inl (C1 (htt▸hT t i hi) he)) hi he hj hp hd hs hk c hc hf ⟨hb,hb'⟩ (h.rec id)⟩
theorem Bi (hT:C0 P T){x:Operand}{j:Int}(hh:(o.guard,o.op,find T t,s.ev x,Bm s.own k,Ur s.own (s.ev y).cellsOf,Gl (k::ks),(Nat.beq cs.length i.size&&Nat.ble (off+i.size) es))=(none,.store t x y,some i,.oel k es j off,some (.sl n es row),some (cs,ks),true,true))(c':Ad)(hu:V5 n es row j.toNat off cs c')(h:GW P B Q (.ops q all rest::K) (({s with own:=⟨k,c'⟩::Bb (k::ks) s.own}:AS).put o.dst .any)):GW P B Q (.ops q all (o::rest)::K) s:=by
 simp only [Jh] at hh;obtain ⟨hg,ho,hi,hx,hk,hc,hkd,hsz⟩:=hh;exact ⟨B8x hT hg ho hi hx hk hc hkd hsz c' hu (h.rec id)⟩
def R4 (f:List (Nat×Nat)) (k:Nat):Nat:=
 match f with
 | []=>k
 |(a,b)::r=>match Nat.beq a k with
  |true=>b
  |false=>R4 r k
def ren0 (f:List (Nat×Nat)) (x:AV):AV:=
 match x with
 | .own k=> .own (R4 f k)
 | .box k o=> .box (R4 f k) o
 | .oel k es j o=> .oel (R4 f k) es j o
 |x=>x
def A62 (g:AV→AV) (l:List AV):List AV:=
 match l with
 | []=>[]
 |x::r=>g x::A62 g r
def ren1 (f:List (Nat×Nat)) (x:AV):AV:=
 match x with
 | .agg xs=> .agg (A62 (ren0 f) xs)
 | .fn i xs=> .fn i (A62 (ren0 f) xs)
 |x=>ren0 f x
def ren2 (f:List (Nat×Nat)) (x:AV):AV:=
 match x with
 | .tup xs=> .tup (A62 (ren1 f) xs)
 |x=>ren1 f x
theorem A63 (g:AV→AV)(l:List AV)(i:Nat):(A62 g l)[i]? =l[i]?.map g:=by
 induction l generalizing i with
 |nil=>simp [A62]
 |cons x r ih=>cases i<;>simp [A62,ih]
theorem W1 (g:AV→AV)(l:List AV):(A62 g l).length=l.length:=by
 induction l with
 |nil=>rfl
 |cons x r ih=>simp [A62,ih]
def Fl.ren (E:Fl) (f:List (Nat×Nat)):Fl:=⟨fun k=>E.ov (R4 f k),fun k=>E.fp (R4 f k)⟩
variable {f : List (Nat × Nat)}
theorem D0.ren0 {w:World}{M:Nat}(h:D0 E w A N (Sx.ren0 f x) v)(hb:Sx.low0 M x=true):D0 (E.ren f) w A M x v:=by
 cases x with
 |any=>exact .any v
 |c c=>cases h with|c h=>exact .c h
 |own k=>cases h with|own hk=>exact D0.own (E:=E.ren f) (Ko (by simpa [Sx.low0] using hb))
 |box k o=>cases h with|box _ hk=>exact D0.box (E:=E.ren f) _ (Ko (by simpa [Sx.low0] using hb))
 |el n es row i off=>cases h with|el _ b o cap hs h0 hi=>exact .el _ b o cap hs h0 hi
 |oel k es i off=>cases h with|oel _ b o n cap hk hv h0 hi=>exact .oel (E:=E.ren f) _ b o n cap (Ko (by simpa [Sx.low0] using hb)) hv h0 hi
 |_=>simp [Sx.low0] at hb
theorem D0.ren1 {w:World}{M:Nat}(h:D0 E w A N (Sx.ren1 f x) v)(hb:Sx.low1 M x=true):D0 (E.ren f) w A M x v:=by
 cases x with
 |agg xs=>
  cases h with
  |agg vs hl h=>
   refine .agg vs (by rw [hl,W1]) (fun i x hx=>?_);exact (h i (Sx.ren0 f x) (by rw [A63,hx];rfl)).ren0 (V7 (by simpa [Sx.low1] using hb) (Hr hx))
 |fn g xs=>
  cases h with
  |fn vs hl h=>
   refine .fn vs (by rw [hl,W1]) (fun i x hx=>?_);exact (h i (Sx.ren0 f x) (by rw [A63,hx];rfl)).ren0 (V7 (by simpa [Sx.low1] using hb) (Hr hx))
 |tup xs=>simp [Sx.low1,Sx.low0] at hb
 |_=>exact D0.ren0 h hb
theorem D0.ren2 {w:World}{M:Nat}(h:D0 E w A N (Sx.ren2 f x) v)(hb:Sx.low2 M x=true):D0 (E.ren f) w A M x v:=by
 cases x with
 |tup xs=>
  cases h with
  |tup vs hl h=>
   refine .tup vs (by rw [hl,W1]) (fun i x hx=>?_);exact (h i (Sx.ren1 f x) (by rw [A63,hx];rfl)).ren1 (V7 (by simpa [Sx.low2] using hb) (Hr hx))
 |_=>exact D0.ren1 h hb
def A1l (f:List (Nat×Nat)) (xs ys:List AV):Prop:=
 match xs,ys with
 | [],[]=>True
 |x::xs,y::ys=>match y with
  | .any=>A1l f xs ys
  |y=>x=ren2 f y∧A1l f xs ys
 |_,_=>False
variable {ys : List AV}
theorem B4x (h:A1l f xs ys):ys.length=xs.length∧∀(i:Nat) (y:AV),ys[i]? =some y→y= .any∨xs[i]? =some (ren2 f y):=by
 induction xs generalizing ys with
 |nil=>cases ys<;>simp_all [A1l]
 |cons x xs ih=>
  cases ys with
  |nil=>simp [A1l] at h
  |cons y ys=>
   have key:A1l f xs ys∧(y= .any∨x=ren2 f y):=by cases y<;>simp only [A1l] at h<;>first|exact ⟨h,.inl rfl⟩|exact ⟨h.2,.inr h.1⟩
   obtain ⟨h1,h2⟩:=ih key.1;refine ⟨by simp [h1],fun i z hz=>?_⟩
   cases i with
   |zero=>
    simp only [H3,Em] at hz;subst hz
    rcases key.2 with e|e
    ·exact .inl e
    exact .inr (by simp [e])
   |succ i=>simpa using h2 i z (by simpa using hz)
def B4v (f:List (Nat×Nat)) (l:List Bx) (m:List Bx):Prop:=
 match m with
 | []=>True
 |b::r=>(match Fq l (R4 f b.key) with
  |some c=>A1l f c.cells b.cells
  |none=>False)∧B4v f l r
def B4z (f:List (Nat×Nat)) (l:List Ow) (m:List Ow):Prop:=
 match m with
 | []=>True
 |b::r=>(match Bm l (R4 f b.key) with
  |some c=>c=b.cell
  |none=>False)∧B4z f l r
theorem Vn {l m:List Bx}(h:B4v f l m){b:Bx}(hb:b∈m):∃c∈l,c.key=R4 f b.key∧A1l f c.cells b.cells:=by
 induction m with
 |nil=>simp at hb
 |cons x r ih=>
  obtain ⟨h1,h2⟩:=h
  rcases C7.1 hb with rfl|hb
  ·split at h1
   ·rename_i c hc
    obtain ⟨g1,g2⟩:=F9 hc;exact ⟨c,g1,g2,h1⟩
   exact h1.elim
  exact ih h2 hb
theorem Vo {l m:List Ow}(h:B4z f l m){b:Ow}(hb:b∈m):(⟨R4 f b.key,b.cell⟩:Ow)∈l:=by
 induction m with
 |nil=>simp at hb
 |cons x r ih=>
  obtain ⟨h1,h2⟩:=h
  rcases C7.1 hb with rfl|hb
  ·split at h1
   ·rename_i c hc
    have:=Ca hc
    rw [h1] at this;exact this
   exact h1.elim
  exact ih h2 hb
def C50 (f:List (Nat×Nat)) (l:List Nat):List Nat:=
 match l with
 | []=>[]
 |x::r=>R4 f x::C50 f r
theorem B9s (f:List (Nat×Nat))(l:List Nat):C50 f l=l.map (R4 f):=by
 induction l with
 |nil=>rfl
 |cons x r ih=>simp [C50,ih]
def B9p (l:List Bx):List Nat:=
 match l with
 | []=>[]
 |x::r=>x.key::B9p r
theorem C5p (l:List Bx):B9p l=l.map (·.key):=by
 induction l with
 |nil=>rfl
 |cons x r ih=>simp [B9p,ih]
def B9q (l:List Ow):List Nat:=
 match l with
 | []=>[]
 |x::r=>x.key::B9q r
theorem C5q (l:List Ow):B9q l=l.map (·.key):=by
 induction l with
 |nil=>rfl
 |cons x r ih=>simp [B9q,ih]
def B97 (f:List (Nat×Nat)) (N:Nat):Bool:=
 match f with
 | []=>true
 |(_,b)::r=>Nat.blt b N&&B97 r N
theorem C9q (h:B97 f N=true)(hk:k<N):R4 f k<N:=by
 induction f with
 |nil=>exact hk
 |cons p r ih=>
  obtain ⟨a,b⟩:=p;simp only [B97,Cj] at h;unfold R4
  split
  ·exact Ko h.1
  exact ih h.2
def B4w (f:List (Nat×Nat)) (l m:List (Nat×Value)):Prop:=
 match m with
 | []=>True
 |(k,v)::r=>Dv l (R4 f k)=some v∧B4w f l r
theorem Gr {l:List (Nat×Value)}(h:Dv l k=some v):(k,v)∈l:=by
 induction l with
 |nil=>simp [Dv] at h
 |cons p r ih=>
  obtain ⟨a,u⟩:=p;unfold Dv at h
  split at h
  ·rename_i e
   obtain rfl:=F7 e;obtain rfl:=Bv h
   simp
  exact Cq _ (ih h)
theorem C5s {l m:List (Nat×Value)}(h:B4w f l m){p:Nat×Value}(hp:p∈m):(R4 f p.1,p.2)∈l:=by
 induction m with
 |nil=>simp at hp
 |cons q r ih=>
  obtain ⟨k,v⟩:=q
  rcases C7.1 hp with rfl|hp
  ·exact Gr h.1
  exact ih h.2 hp
def C8y (n:Nat) (l:List (Nat×Value)):Bool:=
 match l with
 | []=>true
 |(k,_)::r=>Nat.blt k n&&C8y n r
theorem C5w {l:List (Nat×Value)}(h:C8y n l=true){p:Nat×Value}(hp:p∈l):p.1<n:=by
 induction l with
 |nil=>simp at hp
 |cons q r ih=>
  obtain ⟨k,v⟩:=q;simp only [C8y,Cj] at h
  rcases C7.1 hp with rfl|hp
  ·exact Ko h.1
  exact ih h.2 hp
def Yq (f:List (Nat×Nat)) (s t:AS):Bool:=
 Nat.ble t.next s.next&&B97 f s.next&&B1f (low2 t.next) t.ac&&C8x t.next t.aw&&C8z t.next t.own&&Gl (C50 f (B9p t.aw))&&Gl (C50 f (B9q t.own))&&C8y t.next t.ak
theorem C5t {t:AS}(h1:A1l f s.ac t.ac)(h2:B4v f s.aw t.aw)(h3:B4z f s.own t.own)(h5:B4w f s.ak t.ak)(h4:Yq f s t=true){w:World}(hs:s.is B E a w):
  t.is B (E.ren f) a w:=by
 simp only [Yq,Cj] at h4;obtain ⟨⟨⟨⟨⟨⟨⟨hn,hr⟩,k1⟩,k2⟩,k3⟩,k4⟩,k5⟩,k6⟩:=h4;have hnext:=Cz hn;have k4:(t.aw.map fun b=>R4 f b.key).Nodup:=by have:=Eu k4;rwa [B9s,C5p,We] at this
 have k5:(t.own.map fun b=>R4 f b.key).Nodup:=by have:=Eu k5;rwa [B9s,C5q,We] at this
 have injB:∀x∈t.aw,∀y∈t.aw,R4 f x.key=R4 f y.key→x.key=y.key:=by
  intro x hx y hy e;obtain ⟨i,hi,rfl⟩:=A8c.1 hx;obtain ⟨j,hj,rfl⟩:=A8c.1 hy;have hp:=Ry.1 k4
  rcases Nat.lt_trichotomy i j with hl|rfl|hl
  ·exact absurd (by rw [Wf,Wf];exact e) (hp i j (by simpa using hi) (by simpa using hj) hl)
  ·rfl
  exact absurd (by rw [Wf,Wf];exact e.symm) (hp j i (by simpa using hj) (by simpa using hi) hl)
 have injO:∀x∈t.own,∀y∈t.own,R4 f x.key=R4 f y.key→x.key=y.key:=by
  intro x hx y hy e;obtain ⟨i,hi,rfl⟩:=A8c.1 hx;obtain ⟨j,hj,rfl⟩:=A8c.1 hy;have hp:=Ry.1 k5
  rcases Nat.lt_trichotomy i j with hl|rfl|hl
  ·exact absurd (by rw [Wf,Wf];exact e) (hp i j (by simpa using hi) (by simpa using hj) hl)
  ·rfl
  exact absurd (by rw [Wf,Wf];exact e.symm) (hp j i (by simpa using hj) (by simpa using hi) hl)
 have av:∀b,t.ag (E.ren f) b→s.ag E b:=by
  rintro b (⟨x,hx,rfl⟩|⟨y,hy,hb⟩)
  ·obtain ⟨c,hc,e,_⟩:=Vn h2 hx
   exact .inl ⟨c,hc,by rw [e];rfl⟩
  exact .inr ⟨_,Vo h3 hy,hb⟩
 have mv:∀x v,low2 t.next x=true→D0 E w (s.ag E) s.next (ren2 f x) v→D0 (E.ren f) w (t.ag (E.ren f)) t.next x v:=fun x v hb hx=>
  (hx.ren2 hb).move (Bu _) (fun _ _=>⟨rfl,rfl⟩) (fun _ _ _=>rfl) (fun b _ hb=>av b hb)
 obtain ⟨l1,l2⟩:=B4x h1
 refine ⟨hs.defers,fun p hp=>⟨C5w k6 hp,(hs.ak _ (C5s h5 hp)).2⟩,by rw [hs.size,l1],fun i x hx=>?_,fun x hx=>?_,fun x hx y hy e=>?_,?_,fun y hy=>?_,?_,fun y hy z hz hne=>?_,fun x hx y hy=>?_,
  fun k hk=>hs.one _ (C9q hr (Kk hk hnext)),hs.base,fun b hb=>hs.fresh b (av b hb)⟩
 ·rcases l2 i x hx with rfl|h'
  ·exact .any _
  exact mv _ _ (V7 k1 (Hr hx)) (hs.ac i _ h')
 ·obtain ⟨c,hc,e,hle⟩:=Vn h2 hx
  obtain ⟨_,vs,ty,g2,g3,g4⟩:=hs.aw c hc;obtain ⟨m1,m2⟩:=B4x hle;obtain ⟨b1,b2⟩:=C5v k2 hx;refine ⟨b1,vs,ty,by rw [e] at g2;exact g2,by omega,fun i y hy=>?_⟩
  rcases m2 i y hy with rfl|h'
  ·exact .any _
  exact mv _ _ (V7 b2 (Hr hy)) (g4 i _ h')
 ·obtain ⟨c,hc,e1,_⟩:=Vn h2 hx
  obtain ⟨d,hd,e2,_⟩:=Vn h2 hy;refine injB x hx y hy ?_;rw [←e1,←e2];exact hs.boxes2 c hc d hd (by rw [e1,e2];exact e)
 ·have:=k4
  refine (List.pairwise_map.2 ?_:(t.aw.map (·.key)).Nodup);exact (List.pairwise_map.1 k4).imp (fun h e=>h (by rw [e]))
 ·obtain ⟨_,g2,g3⟩:=hs.own _ (Vo h3 hy)
  exact ⟨C5x k3 hy,g2,g3⟩
 ·refine (List.pairwise_map.2 ?_:(t.own.map (·.key)).Nodup)
  exact (List.pairwise_map.1 k5).imp (fun h e=>h (by rw [e]))
 ·exact hs.sep _ (Vo h3 hy) _ (Vo h3 hz) (fun e=>hne (injO y hy z hz e))
 obtain ⟨c,hc,e,_⟩:=Vn h2 hx
 have:=hs.sepB c hc _ (Vo h3 hy)
 rw [e] at this;exact this
def A2u (us:List (Nat×AV)) (i:Nat):Option AV:=
 match us with
 | []=>none
 |(k,x)::r=>match Nat.beq k i with
  |true=>some x
  |false=>A2u r i
def C53 (fs:List Nat) (i:Nat):Bool:=
 match fs with
 | []=>false
 |k::r=>match Nat.beq k i with
  |true=>true
  |false=>C53 r i
def upx (x:AV) (i:Nat) (fs:List Nat) (us:List (Nat×AV)):AV:=
 match A2u us i with
 |some y=>y
 |none=>match C53 fs i with
  |true=> .any
  |false=>x
def upL (l:List AV) (i:Nat) (fs:List Nat) (us:List (Nat×AV)):List AV:=
 match l with
 | []=>[]
 |x::r=>upx x i fs us::upL r (i+1) fs us
def upK {α:Type} (l:List AV) (i:Nat) (fs:List Nat) (us:List (Nat×AV)) (k:List AV→α):α:=
 match l with
 | []=>k []
 |x::r=>Mb (i+1) fun j=>match A2u us i with
  |some y=>upK r j fs us fun r=>k (y::r)
  |none=>match C53 fs i with
   |true=>upK r j fs us fun r=>k (.any::r)
   |false=>upK r j fs us fun r=>k (x::r)
theorem C7n (l:List AV)(i:Nat)(fs:List Nat)(us:List (Nat×AV))(k:List AV→α):upK l i fs us k=k (upL l i fs us):=by
 induction l generalizing i k with
 |nil=>rfl
 |cons x r ih=>
  simp only [upK,J2,upL,upx,ih]
  split
  ·rfl
  split<;>rfl
def AS.upd (s:AS) (fs:List Nat) (us:List (Nat×AV)) (bs:List Bx) (os:List Ow):AS:= {s with ac:=upL s.ac 0 fs us,aw:=bs,own:=os}
def Vg (f:List (Nat×Nat)) (l:List AV) (us:List (Nat×AV)):Prop:=
 match us with
 | []=>True
 |(i,x)::r=>I4 l i=ren2 f x∧Vg f l r
variable {us : List (Nat × AV)}
theorem C15 (h:Vg f l us)(hm:(k,x)∈us):I4 l k=ren2 f x:=by
 induction us with
 |nil=>simp at hm
 |cons p r ih=>
  obtain ⟨i,y⟩:=p
  rcases C7.1 hm with e|hm
  ·simp only [Jh] at e
   obtain ⟨rfl,rfl⟩:=e;exact h.1
  exact ih h.2 hm
theorem C12 {i:Nat}(h:A2u us i=some x):(i,x)∈us:=by
 induction us with
 |nil=>simp [A2u] at h
 |cons p r ih=>
  obtain ⟨k,y⟩:=p;unfold A2u at h
  split at h
  ·rename_i e
   obtain rfl:=F7 e;obtain rfl:=Bv h
   simp
  exact Cq _ (ih h)
theorem A7w (l:List AV)(i:Nat)(fs:List Nat)(us:List (Nat×AV)):(upL l i fs us).length=l.length:=by
 induction l generalizing i with
 |nil=>rfl
 |cons x r ih=>simp [upL,ih]
def kx (x y:AV) (i:Nat) (fs:List Nat) (us:List (Nat×AV)):AV:=
 match y with
 | .any=> .any
 |_=>match A2u us i with
  |some _=> .any
  |none=>match C53 fs i with
   |true=> .any
   |false=>x
def Xu (xs ys:List AV) (i:Nat) (fs:List Nat) (us:List (Nat×AV)):List AV:=
 match xs,ys with
 |x::xs,y::ys=>kx x y i fs us::Xu xs ys (i+1) fs us
 | [],_=>[]
 |_::_,[]=>[.any]
def Xv (f:List (Nat×Nat)) (ys:List AV) (i:Nat) (fs:List Nat) (us:List (Nat×AV)):List AV:=
 match ys with
 |y::ys=>kx (ren2 f y) y i fs us::Xv f ys (i+1) fs us
 | []=>[]
variable {fs : List Nat}
theorem C5o:∀{xs:List AV} {i:Nat},Xu xs ys i fs us=Xv f ys i fs us→
  xs.length=ys.length∧∀(k:Nat) (y:AV),(upL ys i fs us)[k]? =some y→y= .any∨(i+k,y)∈us∨xs[k]? =some (ren2 f y):=by
 induction ys with
 |nil=>
  intro xs i h
  cases xs with
  |nil=>simp [upL]
  |cons x xs=>simp [Xu,Xv] at h
 |cons y ys ih=>
  intro xs i h
  cases xs with
  |nil=>simp [Xu,Xv] at h
  |cons x xs=>
   simp only [Xu,Xv,Nf] at h;obtain ⟨h1,h2⟩:=h;obtain ⟨g1,g2⟩:=ih h2;refine ⟨by simp [g1],fun k z hz=>?_⟩
   cases k with
   |zero=>
    simp only [upL,H3,Em] at hz;unfold upx at hz;unfold kx at h1
    cases hf:A2u us i with
    |some u=>
     rw [hf] at hz;subst hz;exact .inr (.inl (C12 hf))
    |none=>
     rw [hf] at hz
     cases hm:C53 fs i with
     |true=>rw [hm] at hz;exact .inl hz.symm
     |false=>
      rw [hm] at hz;subst hz
      cases y<;>first|exact .inl rfl|(simp only [hf,hm] at h1;right;right;simp [h1])
   |succ k=>
    have:=g2 k z (by simpa [upL] using hz)
    rw [Wm,Z8 1 k] at this
    simpa using this
theorem C8v (h:ys.length=xs.length)(hp:∀(i:Nat) (y:AV),ys[i]? =some y→y= .any∨xs[i]? =some (ren2 f y)):A1l f xs ys:=by
 induction xs generalizing ys with
 |nil=>
  cases ys with
  |nil=>trivial
  |cons y ys=>simp at h
 |cons x xs ih=>
  cases ys with
  |nil=>simp at h
  |cons y ys=>
   have h1:=ih (ys:=ys) (by simpa using h) (fun i z hz=>by simpa using hp (i+1) z (by simpa using hz));have h0:=hp 0 y Ef
   cases y<;>simp only [A1l]<;>first|exact h1|exact ⟨by simpa using h0,h1⟩
theorem B4y (hu:Vg f xs us)(hs:Xu xs ys 0 fs us=Xv f ys 0 fs us):A1l f xs (upL ys 0 fs us):=by
 obtain ⟨h1,h2⟩:=C5o hs;refine C8v (by rw [A7w,h1]) (fun i y hy=>?_)
 rcases h2 i y hy with h|h|h
 ·exact .inl h
 ·rw [Rw] at h
  have:=C15 hu h
  have hi:i<xs.length:=by rw [h1];have:=(Cu.1 hy).1;rwa [A7w] at this
  rw [Cb,Dh hi] at this
  right
  rw [Dh hi]
  simpa using this
 exact .inr h
theorem B5m (x:AV):ren0 [] x=x:=by cases x<;>rfl
theorem B96 {g:AV→AV}(hg:∀x,g x=x)(l:List AV):A62 g l=l:=by
 induction l with
 |nil=>rfl
 |cons x r ih=>simp [A62,ih,hg]
theorem B5n (x:AV):ren1 [] x=x:=by cases x<;>simp [ren1,B96 B5m,B5m]
theorem C6t (x:AV):ren2 [] x=x:=by cases x<;>simp [ren2,B96 B5n,B5n]
theorem C2b (l:List AV)(i:Nat)(fs:List Nat)(us:List (Nat×AV)):Xu l l i fs us=Xv [] l i fs us:=by
 induction l generalizing i with
 |nil=>rfl
 |cons x r ih=>simp [Xu,Xv,ih,C6t]
theorem Vq (hT:C0 P T)(wr:Bool){c:Code}(fs:List Nat)(us:J→List (Nat×AV))(bs:J→List Bx)(os:J→List Ow)(φ:J→Prop)(μ:J→Nat)(j0:J)(h0:φ j0)(hu:Vg [] s.ac (us j0))(hb:B4v [] s.aw (bs j0))(ho:B4z [] s.own (os j0))(hl:B4w [] s.ak s.ak)(hk:Yq [] s (s.upd fs (us j0) (bs j0) (os j0))=true)(body:∀j,φ j→vcW P B Q (upK s.ac 0 fs (us j) fun ac=>P7 T wr 100000 (.code c:: .loop (Inv B (fun j=>s.upd fs (us j) (bs j) (os j)) φ μ (μ j))::K) {s with ac:=ac,aw:=bs j,own:=os j})):
  GW P B Q (.code (.loop c)::K) s:=
 ⟨C2g (fun j=>s.upd fs (us j) (bs j) (os j)) φ μ j0 h0 (fun E a w hs=>⟨_,C5t (t:=s.upd fs (us j0) (bs j0) (os j0)) (B4y hu (C2b s.ac 0 fs (us j0))) hb ho hl hk hs⟩)
  (fun j hj=>(go hT wr (by have:=body j hj;rw [C7n] at this;exact this)).rec id)⟩
theorem A58 (f:List (Nat×Nat))(j:J){s':AS}{us:J→List (Nat×AV)}{bs:J→List Bx}{os:J→List Ow}{φ:J→Prop}{μ:J→Nat}{m:Nat}(hφ:φ j)(hμ:μ j<m)(hu:Vg f s'.ac (us j))(ho:B4z f s'.own (os j))(hb:B4v f s'.aw (bs j))(hs:Xu s'.ac s.ac 0 fs (us j)=Xv f s.ac 0 fs (us j))(hl:B4w f s'.ak s.ak)(hk:Yq f s' (s.upd fs (us j) (bs j) (os j))=true):GW P B Q (.loop (Inv B (fun j=>s.upd fs (us j) (bs j) (os j)) φ μ m)::K) s':=
 ⟨fun E _ _ hs'=>⟨j,hφ,hμ,E.ren f,C5t (t:=s.upd fs (us j) (bs j) (os j)) (B4y hu hs) hb ho hl hk hs'⟩⟩
open Go.RowKit (Below)
def B1c (S:TypeId→List Ad→Prop):List TypeId→List Ad→Prop
 | [],cs=>cs=[]
 |t::r,cs=>∃a b,cs=a++b∧S t a∧B1c S r b
def Ka (P:Program):Nat→TypeId→List Ad→Prop
 | 0,_,_=>False
 |f+1,t,cs=>match P.underlying t with
  |some .bool=>∃b,cs=[.val (.bool b)]
  |some (.int k)=>∃n,Js k n∧cs=[.val (.int k n)]
  |some .string=>∃b:ByteArray,b.size≤maxLen∧cs=[.val (.string b)]
  |some (.slice e)=>∃n row,n≤maxLen∧cs=[.sl n (P.cellsOf e) row]∧∀i,i<n→Ka P f e (row i)
  |some (.struct fs)=>B1c (Ka P f) (fs.toList.map (·.type)) cs
  |_=>False
def A40 (P:Program):Nat→List Field→Option Nat
 |o,[]=>some o
 |o,F::r=>if F.offset=o then A40 P (o+P.cellsOf F.type) r else none
def okT (P:Program):Nat→TypeId→Bool
 | 0,_=>false
 |f+1,t=>match P.underlying t with
  |some .bool=>true
  |some (.int _)=>true
  |some .string=>true
  |some (.slice e)=>Nat.blt 0 (P.cellsOf e)&&okT P f e
  |some (.struct fs)=>A40 P 0 fs.toList==some (P.cellsOf t)&&fs.toList.all fun F=>okT P f F.type
  |_=>false
theorem A1n {g:α→Option β}{l:List α}{r:List β}(h:l.mapM g=some r):r.length=l.length∧∀(i:Nat) (x:α),l[i]? =some x→∃y,g x=some y∧r[i]? =some y:=by
 induction l generalizing r with
 |nil=>simp at h;subst h;simp
 |cons a l ih=>
  rw [List.mapM_cons] at h
  cases ha:g a with
  |none=>simp [ha] at h
  |some b=>
   cases hb:l.mapM g with
   |none=>simp [ha,hb] at h
   |some bs=>
    simp [ha,hb] at h
    subst h;obtain ⟨h1,h2⟩:=ih hb;refine ⟨by simp [h1],fun i x hx=>?_⟩
    cases i with
    |zero=>simp only [H3,Em] at hx;subst hx;exact ⟨b,ha,by simp⟩
    |succ i=>simpa using h2 i x (by simpa using hx)
theorem D1u {k:IntKind}{n:Int}(h:(Lit.int k n).wf=true):Js k n:=by
 simp only [Lit.wf,Cj,Nq] at h
 cases k<;>simp only [IntKind.min,IntKind.max,IntKind.signed,IntKind.bits] at h<;>simp only [Js]<;>simp at h<;>omega
def Yf (w:World) (xs:List Ad) (cs:List Value):Prop:=xs.length=cs.length∧∀(i:Nat) (c:Ad),xs[i]? =some c→Qz w (fun _=>False) c (cs.getD i undef)
theorem Yf.one {w:World}(h:Qz w (fun _=>False) c v):Yf w [c] [v]:=by
 refine ⟨rfl,fun i x hx=>?_⟩
 cases i with
 |zero=>simp only [H3,Em] at hx;subst hx;exact h
 |succ i=>simp at hx
theorem Yf.append {w:World}{a b:List Ad}{u v:List Value}(h:Yf w a u)(k:Yf w b v):Yf w (a++b) (u++v):=by
 refine ⟨by simp [h.1,k.1],fun i c hc=>?_⟩
 by_cases hi:i<a.length
 ·rw [F3 hi] at hc
  have:=h.2 i c hc
  have hi':i<u.length:=by rw [←h.1];exact hi
  simp only [List.getD,F3 hi'] at this ⊢;exact this
 rw [F8 A7] at hc
 have:=k.2 _ c hc
 have hi':u.length≤i:=by rw [←h.1];omega
 rw [h.1] at this;simp only [List.getD,F8 hi'] at this ⊢;exact this
variable {H : Type} {enc : TypeId × Value → H} {w : World} {base : Nat} {held : Bool}
theorem C7k:∀(fuel:Nat) (t:TypeId) (cs:List Value) (r:DataW H×List MemPlace) (g:Nat),okT P g t=true→DataW.trod enc P w base (fun _=>true) held fuel t cs=some r→
  ∃xs,Yf w xs cs∧Ka P fuel t xs:=by
 intro fuel
 induction fuel with
 |zero=>intro t cs r g _ h;simp [DataW.trod] at h
 |succ fuel ih=>
  intro t cs r g hok h
  cases g with
  |zero=>simp [okT] at hok
  |succ g=>
   unfold okT at hok
   split at hok
   ·rename_i hu
    unfold DataW.trod at h;rw [hu] at h
    split at h<;>simp_all
    rename_i b
    exact ⟨[.val (.bool b)],.one (.val _ rfl),by simp [Ka,hu]⟩
   ·rename_i k hu
    unfold DataW.trod at h;rw [hu] at h
    split at h<;>simp_all
    rename_i n e
    subst e;obtain ⟨⟨_,hw⟩,_⟩:=h;exact ⟨[.val (.int k n)],.one (.val _ rfl),by simp [Ka,hu,D1u hw]⟩
   ·rename_i hu
    unfold DataW.trod at h;rw [hu] at h
    split at h<;>simp_all
    rename_i b
    exact ⟨[.val (.string b)],.one (.val _ rfl),by simp [Ka,hu,h.1]⟩
   ·rename_i e hu
    simp only [Cj] at hok;obtain ⟨hpos,hok⟩:=hok;have hpos:=Ko hpos;unfold DataW.trod at h;rw [hu] at h
    have key:(cs=[.slice none 0 0])∨∃a len cap,cs=[.slice (some a) len cap]∧len≤cap∧cap≤maxLen∧(0<cap→a.spot=none)∧
      ∀i,i<len→∃vs x,w.cells? base (a.add (i * P.cellsOf e)) (P.cellsOf e)=some vs∧DataW.trod enc P w base (fun _=>true) held fuel e vs=some x:=by
     split at h
     case h_7=>left;rfl
     case h_8 e' a len cap heq=>
      right
      simp only [Em,TypeDesc.slice.injEq] at heq;subst heq;refine ⟨a,len,cap,rfl,?_⟩
      simp only at h
      split at h
      ·rename_i hc
       obtain ⟨hb,hlc,hcm⟩:=hc;obtain ⟨elems,he,h⟩:=Wb.1 h;obtain ⟨rest,hr,_⟩:=E9.1 h;obtain ⟨e1,e2⟩:=A1n he;refine ⟨hlc,hcm,fun hcap=>?_,fun i hi=>?_⟩
       ·have spot0:∀vs,w.cells? base (a.add (0 * P.cellsOf e)) (P.cellsOf e)=some vs→a.spot=none:=by
         intro vs hv;obtain ⟨_,hl,hc⟩:=World.cells?_some hv;have h0:=hc 0 hpos;have hlt:0<vs.length:=by omega
         rw [Dh hlt] at h0
         have:=World.cell?_spot h0
         simpa [Addr.add] using this
        by_cases hl:0<len
        ·obtain ⟨y,hy,_⟩:=e2 0 0 (by simp [hl])
         obtain ⟨vs,hv,hy⟩:=Wb.1 hy;exact spot0 vs hv
        obtain rfl:len=0:=by omega
        simp only [Mo,Nat.sub_zero,Rw] at hr;obtain ⟨_,e4⟩:=A1n hr;obtain ⟨y,hy,_⟩:=e4 0 0 (by simp [hcap]);obtain ⟨vs,hv,hy⟩:=Wb.1 hy;exact spot0 vs hv
       obtain ⟨y,hy,_⟩:=e2 i i (by simp [hi]);obtain ⟨vs,hv,hy⟩:=Wb.1 hy;exact ⟨vs,y,hv,hy⟩
      simp at h
     all_goals simp_all
    rcases key with rfl|⟨a,len,cap,rfl,hlc,hcm,hspot,hel⟩
    ·exact ⟨[.sl 0 (P.cellsOf e) fun _=>[]],.one (.nil _ _),by simp only [Ka,hu];exact ⟨0,_,Ff _,rfl,fun _ h=>absurd h (Le _)⟩⟩
    by_cases hcap:cap=0
    ·subst hcap
     obtain rfl:len=0:=by omega
     exact ⟨[.sl 0 (P.cellsOf e) fun _=>[]],.one (.emp _ _ _),by simp only [Ka,hu];exact ⟨0,_,Ff _,rfl,fun _ h=>absurd h (Le _)⟩⟩
    obtain ⟨b,off,spot⟩:=a;obtain rfl:spot=none:=hspot A7
    have hex:∀i,∃vs xs,i<len→w.cells? base ((⟨b,off,none⟩:Addr).add (i * P.cellsOf e)) (P.cellsOf e)=some vs∧Yf w xs vs∧Ka P fuel e xs:=by
     intro i
     by_cases hi:i<len
     ·obtain ⟨vs,x,h1,h2⟩:=hel i hi
      obtain ⟨xs,h3,h4⟩:=ih e vs x g hok h2;exact ⟨vs,xs,fun _=>⟨h1,h3,h4⟩⟩
     exact ⟨[],[],fun h=>absurd h hi⟩
    have hex2:∀i,∃p:List Value×List Ad,i<len→w.cells? base ((⟨b,off,none⟩:Addr).add (i * P.cellsOf e)) (P.cellsOf e)=some p.1∧Yf w p.2 p.1∧Ka P fuel e p.2:=
     fun i=>let ⟨vs,xs,h⟩:=hex i;⟨(vs,xs),h⟩
    let p:=fun i=>Classical.choose (hex2 i)
    have hp:∀i,i<len→w.cells? base ((⟨b,off,none⟩:Addr).add (i * P.cellsOf e)) (P.cellsOf e)=some (p i).1∧Yf w (p i).2 (p i).1∧Ka P fuel e (p i).2:=fun i=>Classical.choose_spec (hex2 i);refine ⟨[.sl len (P.cellsOf e) fun i=>(p i).2],.one (.sl len (P.cellsOf e) _ b off cap (fun i j=>(p i).1.getD j undef) (fun _ h=>h) hlc hcm (fun i hi=>?_) (fun i j hi hj=>?_) (fun i j c hi hc=>?_)),?_⟩
    ·obtain ⟨h1,h2,_⟩:=hp i hi
     obtain ⟨_,hl,_⟩:=World.cells?_some h1;rw [h2.1,hl]
    ·obtain ⟨h1,h2,_⟩:=hp i hi
     obtain ⟨_,hl,hc⟩:=World.cells?_some h1;have h0:=hc j hj;have hlt:j<(p i).1.length:=by omega
     have e1:((⟨b,off,none⟩:Addr).add (i * P.cellsOf e)).add j=⟨b,off+i * P.cellsOf e+j,none⟩:=by
      simp only [Addr.add]
      split<;>split<;>simp_all<;>omega
     rw [e1] at h0;rw [h0,Dh hlt]
     simp [List.getD,hlt]
    ·exact (hp i hi).2.1.2 j c hc
    simp only [Ka,hu];exact ⟨len,_,by omega,rfl,fun i hi=>(hp i hi).2.2⟩
   ·rename_i fs hu
    simp only [Cj,Rv,Ja] at hok;obtain ⟨hct,hall⟩:=hok;unfold DataW.trod at h;rw [hu] at h
    have key:cs.length=P.cellsOf t∧∀F∈fs.toList,∃x,DataW.trod enc P w base (fun _=>true) held fuel F.type ((cs.drop F.offset).take (P.cellsOf F.type))=some x:=by
     split at h
     case h_9 fs' heq=>
      simp only [Em,TypeDesc.struct.injEq] at heq;subst heq
      split at h
      ·rename_i hl
       obtain ⟨xs,hx,_⟩:=E9.1 h;obtain ⟨_,e2⟩:=A1n hx;refine ⟨hl,fun F hF=>?_⟩;obtain ⟨i,hi⟩:=List.mem_iff_getElem?.1 hF;obtain ⟨y,hy,_⟩:=e2 i F hi;exact ⟨y,hy⟩
      simp at h
     all_goals simp_all
    obtain ⟨hlen,hf⟩:=key
    have main:∀(l:List Field) (o:Nat),A40 P o l=some (P.cellsOf t)→(∀F∈l,F∈fs.toList)→∃xs,Yf w xs (cs.drop o)∧B1c (Ka P fuel) (l.map (·.type)) xs:=by
     intro l
     induction l with
     |nil=>
      intro o ho _;simp only [A40,Em] at ho;refine ⟨[],⟨by simp [ho,hlen],by simp⟩,rfl⟩
     |cons F r ihl=>
      intro o ho hm;unfold A40 at ho
      split at ho
      ·rename_i hoff
       obtain ⟨x,hx⟩:=hf F (hm F Ef);obtain ⟨xs,h1,h2⟩:=ih F.type _ x g (hall F (hm F Ef)) hx;obtain ⟨ys,h3,h4⟩:=ihl _ ho (fun G hG=>hm G (by simp [hG]));refine ⟨xs++ys,?_,xs,ys,rfl,h2,h4⟩
       have e:cs.drop o=(cs.drop F.offset).take (P.cellsOf F.type)++cs.drop (o+P.cellsOf F.type):=by
        rw [hoff,←List.drop_drop,Qy]
       rw [e];exact h1.append h3
      simp at ho
    obtain ⟨xs,h1,h2⟩:=main fs.toList 0 hct (fun _ h=>h);exact ⟨xs,by simpa using h1,by simpa [Ka,hu] using h2⟩
   simp at hok
open Go.RowKit (Below)
abbrev vi (n:Int):Ad:= .val (.int .i64 n)
abbrev vb (b:Bool):Ad:= .val (.bool b)
abbrev vs (b:ByteArray):Ad:= .val (.string b)
def Mu {α:Type} [Inhabited α] (es:Nat) (e:α→List Ad) (xs:List α):Ad:= .sl xs.length es fun i=>e (xs.getD i default)
theorem A37 [Inhabited α] (es:Nat)(e:α→List Ad)(xs ys:List α):
  Ze xs.length ys.length es (fun i=>e (xs.getD i default)) (fun i=>e (ys.getD i default)) (Mu es e (xs++ys)):=by
 refine ⟨_,by rw [Mu,Dn],fun i hi=>?_,fun i hi=>?_⟩
 ·simp [List.getD,F3 hi]
 simp [List.getD,F8]
theorem An [Inhabited α] {e:α→List Ad}{xs:List α}{x:α}(h:row 0=e x):
  Ze xs.length 1 es (fun i=>e (xs.getD i default)) row (Mu es e (xs++[x])):=by
 refine ⟨_,by rw [Mu,Dn];rfl,fun i hi=>?_,fun i hi=>?_⟩
 ·simp [List.getD,F3 hi]
 obtain rfl:i=0:=by omega
 simp [List.getD,h]
theorem Cn [Inhabited α] {e:α→List Ad}{xs:List α}{j:Nat}{x:α}(hj:j<xs.length)(h:E6 (e (xs.getD j default)) off cs=e x):
  V5 xs.length es (fun i=>e (xs.getD i default)) j off cs (Mu es e (xs.set j x)):=by
 refine ⟨_,by rw [Mu,K1],fun i hi hne=>?_,?_⟩
 ·simp [List.getD,List.getElem?_set_ne (Ne.symm hne)]
 rw [h]
 simp [List.getD,hj]
open Go.RowKit (Below)
theorem Yo {w:World}(h:s.is B E a w)(hk:ks.Nodup)(hm:∀k∈ks,∃y∈s.own,y.key=k):(ks.flatMap E.fp).Nodup:=by
 refine Cg.2 ⟨fun k hk'=>?_,?_⟩
 ·obtain ⟨y,hy,rfl⟩:=hm k hk'
  exact (h.own y hy).2.2
 refine B3b ?_ hk;intro k j hk' hj' hne b hb hb';obtain ⟨y,hy,rfl⟩:=hm k hk';obtain ⟨z,hz,rfl⟩:=hm j hj';exact h.sep y hy z hz hne b hb hb'
open Go.RowKit (Below)
def D3d (n:Nat) (ins:List Hb):AS:= {next:=0,ac:=List.replicate (1+ins.length+(n-(1+ins.length))) .any,aw:=[],own:=[]}
structure D2v (W:World) (may:Nat→Prop) (v:Value) (y:Hb) (ax:List Value) (w':World) (e:Ending):Prop where
 res:e= .returned (J6 ax)
 own:∃fp',P2 w' y v fp'∧fp'.Nodup∧∀b∈fp',may b∨W.heap.size≤b
 kept:C0p may W w'
end Go.Sx
