/- Part 4 of the proof that each of the laws FnSpread returns true for every input. No conditions. -/
import Derived.Test.YtdendlkeiaccpaaGreatQ3

set_option linter.unusedSimpArgs false
set_option linter.unusedVariables false
set_option maxRecDepth 100000
namespace Go.Sx
open Go
variable {P : Program} {T : List (TypeId × TI)}
structure C5y (W:World) (B:Be) (c:Ai) (v:Value) (fp:List Nat):Prop where
 own:D3 B.w0 c v fp
 nodup:fp.Nodup
 new:∀b∈fp,W.heap.size≤b
 out:∀b∈fp,¬ B.may b
 below:∀w,B.rel w→Ju W.heap.size W w
 fresh:∀b,B.fresh b→W.heap.size≤b
structure A40 (B:Be) (w':World) (outs:List Gy) (e:Ending):Prop where
 rel:B.rel w'
 res:∃(rs:List Value) (fps:Nat→List Nat),e= .returned (Kp rs)∧rs.length=outs.length∧(∀i y,outs[i]? =some y→Mr w' y (rs.getD i undef) (fps i))∧
  (∀i,i<outs.length→(fps i).Nodup∧∀b∈fps i,B.fresh b)∧∀i j,i<outs.length→j<outs.length→i≠j→∀b∈fps i,b∉fps j
theorem C2n (hT:Cs P T){B:Be}{fn:Func}{outs:List Gy}{s:AS}{xs:List AV}(hx:Rq T fn.results.toList s=some xs)(hk:Gv (xs.flatMap E9)=true)(ho:Oy s.own xs outs):
  C0u B (bodyPost P fn fun e w'=>A40 B w' outs e) s:=by
 intro E a w h;obtain ⟨vs,h1,h2,h3,h4⟩:=Vp hT h fn.results.toList xs hx;obtain ⟨g1,g2⟩:=Mo ho;refine ⟨h.defers,Kp vs,?_,h.base,vs,fun i=>(E9 (Hs xs i)).flatMap E.fp,rfl,by omega,fun i y hy=>?_,fun i hi=>?_,fun i j hi hj hne b hb hb'=>?_⟩
 ·rw [Q6,Array.mapM_eq_mapM_toList]
  simp only [map_eq_pure_bind,Sem.run_bind,h1,Result.andThen_ok,Sem.run_pure];exact congrArg (fun v=>Result.ok v w) (Sh vs)
 ·obtain ⟨x,hx',hxo⟩:=g2 i y hy
  have:=(Jo h hxo (h4 i x hx')).1
  have e:Hs xs i=x:=by rw [Dc,hx'];rfl
  simp only [e];exact this
 ·have hi':i<xs.length:=by omega
  have hnd:=Eu hk;have hxi:=List.getElem?_eq_getElem hi';obtain ⟨x,hx',hxo⟩:=g2 i _ (List.getElem?_eq_getElem hi);have hkeys:=(Jo h hxo (h4 i x hx')).2
  show ((E9 (Hs xs i)).flatMap E.fp).Nodup∧∀b∈(E9 (Hs xs i)).flatMap E.fp,B.fresh b
  rw [show Hs xs i=x by rw [Dc,hx'];rfl]
  constructor
  ·have hsub:(E9 x).Nodup:=(Cw.1 hnd).1 x (List.mem_of_getElem? hx')
   refine Cw.2 ⟨fun k hk'=>?_,?_⟩
   ·obtain ⟨y,hy,rfl⟩:=hkeys k hk'
    exact (h.own y hy).2.2
   refine List.Pairwise.imp_of_mem ?_ hsub;intro k j hk' hj' hne b hb hb';obtain ⟨y,hy,rfl⟩:=hkeys k hk';obtain ⟨z,hz,rfl⟩:=hkeys j hj';exact h.sep y hy z hz hne b hb hb'
  intro b hb;obtain ⟨k,hk',hb⟩:=List.mem_flatMap.1 hb;obtain ⟨y,hy,rfl⟩:=hkeys k hk';exact h.fresh b (.inr ⟨y,hy,hb⟩)
 have hi':i<xs.length:=by omega
 have hj':j<xs.length:=by omega
 have hnd:=Eu hk;obtain ⟨x,hx',hxo⟩:=g2 i _ (List.getElem?_eq_getElem hi);obtain ⟨z,hz',hzo⟩:=g2 j _ (List.getElem?_eq_getElem hj)
 change b∈(E9 (Hs xs i)).flatMap E.fp at hb
 change b∈(E9 (Hs xs j)).flatMap E.fp at hb'
 rw [show Hs xs i=x by rw [Dc,hx'];rfl] at hb
 rw [show Hs xs j=z by rw [Dc,hz'];rfl] at hb'
 obtain ⟨k,hk1,hb⟩:=List.mem_flatMap.1 hb;obtain ⟨l,hl1,hb'⟩:=List.mem_flatMap.1 hb';obtain ⟨y1,hy1,rfl⟩:=(Jo h hxo (h4 i x hx')).2 k hk1;obtain ⟨y2,hy2,rfl⟩:=(Jo h hzo (h4 j z hz')).2 l hl1
 by_cases e:y1.key=y2.key
 ·have hpw:=(Cw.1 hnd).2
  have e1:xs[i]=x:=by rw [List.getElem?_eq_getElem hi'] at hx';exact Option.some.inj hx'
  have e2:xs[j]=z:=by rw [List.getElem?_eq_getElem hj'] at hz';exact Option.some.inj hz'
  rcases Nat.lt_or_gt_of_ne hne with hlt|hlt
  ·have:=List.pairwise_iff_getElem.1 hpw i j hi' hj' hlt
   rw [e1,e2] at this;exact this _ hk1 (e▸hl1)
  have:=List.pairwise_iff_getElem.1 hpw j i hj' hi' hlt
  rw [e1,e2] at this;exact this _ hl1 (e▸hk1)
 exact h.sep y1 hy1 y2 hy2 e b hb hb'
theorem A1n (own:List Ow)(v:Value):A81 own (.c (.val v)) (.val v):=by
 unfold A81
 split
 ·rename_i h;cases h
 ·rename_i h
  obtain rfl:=Ai.val.inj (AV.c.inj h);exact .inl rfl
 ·rename_i h
  exact (congrArg Ai.val (Ai.val.inj (AV.c.inj h)))
 rename_i h1 h2 h3
 exact h3 v rfl
end Go.Sx
set_option maxRecDepth 100000
namespace Go.Sx
open Go
variable {P : Program} {T : List (TypeId × TI)}
def Oh (n:Nat) (fps:Nat→List Nat):List Nat:=(List.range n).flatMap fps
def Zd (w:World) (A:Nat→Prop) (pins:List (Ai×Value)):Prop:=∀p∈pins,Qi w A p.1 p.2
def J6 (P:Program) (H:World→Prop) (f:FuncId) (pins:List (Ai×Value)) (xs ins:List Gy) {ι:Type} (φ:ι→Prop) (outs:ι→List Gy):Prop:=
 K9 P f∧∀(w:World) (vs:List Value) (fps:Nat→List Nat) (us:List Value),vs.length=xs.length→(∀i x,xs[i]? =some x→Mr w x (vs.getD i undef) (fps i))→
  (∀i,i<xs.length→(fps i).Nodup)→(∀i j,i<xs.length→j<xs.length→i≠j→∀b∈fps i,b∉fps j)→
  (∀w',Be.rel ⟨w,fun b=>b∈Oh xs.length fps⟩ w'→H w')→Zd w (fun b=>b∈Oh xs.length fps) pins→us.length=ins.length→
  (∀i z,ins[i]? =some z→Ms w (fun b=>b∈Oh xs.length fps) z (us.getD i undef))→
  Calls P f (vs++us).toArray w fun e w'=>∃i,φ i∧A40 ⟨w,fun b=>b∈Oh xs.length fps⟩ w' (outs i) e
structure B0h (B:Be) (b:Nat) (w':World) (cs:List Ai) (outs:List Gy) (e:Ending):Prop where
 rel:B.rel w'
 res:∃(vs:List Value) (ty:TypeId) (rs:List Value) (fps:Nat→List Nat),e= .returned (Kp rs)∧w'.heap[b]? =some (.cells vs.toArray ty (0,0))∧rs.length=outs.length∧
  (∀i y,(Gy.agg cs::outs)[i]? =some y→Mr w' y ((Value.agg vs.toArray::rs).getD i undef) (fps i))∧
  (∀i,i<outs.length+1→(fps i).Nodup∧∀x∈fps i,B.fresh x∧x≠b)∧
  ∀i j,i<outs.length+1→j<outs.length+1→i≠j→∀x∈fps i,x∉fps j
def E3 (P:Program) (H:World→Prop) (f:FuncId) (pins:List (Ai×Value)) (cs:List Ai) (ins:List Gy) {ι:Type} (φ:ι→Prop) (cs':ι→List Ai) (outs:ι→List Gy):Prop:=
 K9 P f∧∀(w:World) (b:Nat) (vs:List Value) (ty:TypeId) (fp:List Nat) (us:List Value),w.heap[b]? =some (.cells vs.toArray ty (0,0))→Mr w (.agg cs) (.agg vs.toArray) fp→fp.Nodup→b∉fp→
  (∀w',Be.rel ⟨w,fun x=>x=b∨x∈fp⟩ w'→H w')→Zd w (fun x=>x=b∨x∈fp) pins→us.length=ins.length→
  (∀i z,ins[i]? =some z→Ms w (fun x=>x=b∨x∈fp) z (us.getD i undef))→
  Calls P f (.pointer (some ⟨b,0,none⟩)::us).toArray w fun e w'=>∃i,φ i∧B0h ⟨w,fun x=>x=b∨x∈fp⟩ b w' (cs' i) (outs i) e
def M6 (B:Be) (pins:List (Ai×Value)):Prop:=Zd B.w0 B.may pins
theorem M6.now {B:Be}{pins:List (Ai×Value)}(h:M6 B pins){s:AS}{E:E7}{a:Act}{w:World}(hs:s.is B E a w){A:Nat→Prop}(hA:∀b,A b→s.avoid E b):Zd w A pins:=by
 intro p hp;refine (h p hp).move (fun b hm hb=>hs.base.block b hb hm) (fun b hb hav=>?_)
 rcases hs.fresh b (hA b hav) with h|h
 ·omega
 exact h
theorem Hu {B:Be}{pins:List (Ai×Value)}(hF:M6 B pins){Q:Exit→Act→World→Prop}{K:List KI}{s:AS}(j:Nat){c:Ai}{v:Value}(hj:pins[j]? =some (c,v))(i:Nat)(hi:Hs s.slots i= .c (.val v))
  (h:GW P B Q K {s with slots:=D6 s.slots i (.c c)}):GW P B Q K s:=by
 refine ⟨fun E a w hs=>h.rec fun g=>g E a w ⟨hs.defers,hs.links,by rw [hs.size];exact (Cn _ _ _).symm,fun m z hz=>?_,hs.boxes,hs.boxes2,hs.keys,hs.own,hs.ownkeys,hs.sep,hs.sepB,hs.one,hs.base,hs.fresh⟩⟩
 simp only at hz
 rw [Dv] at hz
 split at hz
 ·rename_i hm
  obtain ⟨rfl,hm⟩:=hm;obtain rfl:=Option.some.inj hz;have hd:=hs.slots i (.c (.val v)) (by rw [Dc,List.getElem?_eq_getElem hm] at hi;rw [List.getElem?_eq_getElem hm];simpa using hi);rw [Bo hd];exact Dr.c (A:=s.avoid E) (N:=s.next) (hF.now hs (fun _ h=>h) _ (List.mem_of_getElem? hj))
 exact hs.slots m z hz
def C0x (own:List Ow) (x:AV):Option Gy:=
 match x with
 | .agg xs=>match A3m own xs with
  |some cs=>some (.agg cs)
  |none=>none
 |x=>match A48 own x with
  |some c=>some (.one c)
  |none=>none
def Zn (own:List Ow) (l:List AV):Option (List Gy):=
 match l with
 | []=>some []
 |x::r=>match C0x own x with
  |some c=>match Zn own r with
   |some cs=>some (c::cs)
   |none=>none
  |none=>none
theorem A3n {own:List Ow}{l:List AV}{cs:List Gy}(h:Zn own l=some cs):l.length=cs.length∧∀(i:Nat) (c:Gy),cs[i]? =some c→∃x:AV,l[i]? =some x∧C0x own x=some c:=by
 induction l generalizing cs with
 |nil=>obtain rfl:=Option.some.inj h;simp
 |cons x r ih=>
  unfold Zn at h
  split at h
  ·rename_i c hc
   split at h
   ·rename_i cs' hcs
    obtain rfl:=Option.some.inj h;obtain ⟨h1,h2⟩:=ih hcs;refine ⟨by simp [h1],fun i d hd=>?_⟩
    cases i with
    |zero=>simp only [List.getElem?_cons_zero,Option.some.injEq] at hd;subst hd;exact ⟨x,by simp,hc⟩
    |succ i=>simpa using h2 i d (by simpa using hd)
   simp at h
  simp at h
structure A3j (s:AS) (E:E7) (ks:List Nat) (X:Nat→Prop):Prop where
 av:∀b,X b→s.avoid E b
 own:∀y∈s.own,y.key∉ks→∀b∈E.fp y.key,¬ X b
theorem B67 {B:Be}{E:E7}{s:AS}{a:Act}{w:World}(hs:s.is B E a w){ks:List Nat}{X:Nat→Prop}(hX:A3j s E ks X){x:AV}{c:Ai}(hx:A48 (Bz ks s.own) x=some c){v:Value}(hd:Dr E w (s.avoid E) s.next x v):Qi w X c v:=by
 unfold A48 at hx
 split at hx
 ·obtain rfl:=Option.some.inj hx
  cases hd with
  |c hr=>exact hr.move (fun _ _ _=>rfl) (fun b _ hb=>hX.av b hb)
 ·cases hd with
  |own hk=>
   obtain ⟨h1,h2⟩:=Cr.1 (Cp hx);exact (hs.own _ h1).2.1.rep (fun b hb=>hX.own _ h1 h2 b hb)
 simp at hx
theorem A7m {B:Be}{E:E7}{s:AS}{a:Act}{w:World}(hs:s.is B E a w){ks:List Nat}{X:Nat→Prop}(hX:A3j s E ks X){x:AV}{c:Gy}(hx:C0x (Bz ks s.own) x=some c){v:Value}(hd:Dr E w (s.avoid E) s.next x v):Ms w X c v:=by
 unfold C0x at hx
 split at hx
 ·rename_i xs
  split at hx
  ·rename_i cs hcs
   obtain rfl:=Option.some.inj hx;obtain ⟨g1,g2⟩:=Wi hcs
   cases hd with
   |agg vs hl hv=>
    refine ⟨vs,rfl,by omega,fun i c hc=>?_⟩;obtain ⟨y,hy,hyc⟩:=g2 i c hc;exact B67 hs hX hyc (hv i y hy)
  simp at hx
 split at hx
 ·rename_i c' hc
  obtain rfl:=Option.some.inj hx;exact B67 hs hX hc hd
 simp at hx
theorem A1q {B:Be}{E:E7}{s:AS}{a:Act}{w:World}(h:s.is B E a w){xs:List AV}{outs:List Gy}{vs:List Value}(h4:∀i x,xs[i]? =some x→Dr E w (s.avoid E) s.next x (vs.getD i undef))(hk:Gv (xs.flatMap E9)=true)(ho:Oy s.own xs outs):
  (∀i y,outs[i]? =some y→Mr w y (vs.getD i undef) ((E9 (Hs xs i)).flatMap E.fp))∧(∀i,i<outs.length→((E9 (Hs xs i)).flatMap E.fp).Nodup)∧(∀i,i<outs.length→∀k∈E9 (Hs xs i),∃y∈s.own,y.key=k)∧
   ∀i j,i<outs.length→j<outs.length→i≠j→∀b∈(E9 (Hs xs i)).flatMap E.fp,b∉(E9 (Hs xs j)).flatMap E.fp:=by
 obtain ⟨g1,g2⟩:=Mo ho;have hnd:=Eu hk
 have hkeys:∀i,i<outs.length→∀k∈E9 (Hs xs i),∃y∈s.own,y.key=k:=by
  intro i hi;obtain ⟨x,hx',hxo⟩:=g2 i _ (List.getElem?_eq_getElem hi);rw [show Hs xs i=x by rw [Dc,hx'];rfl]
  exact (Jo h hxo (h4 i x hx')).2
 have hsub:∀i,i<outs.length→(E9 (Hs xs i)).Nodup:=by
  intro i hi;obtain ⟨x,hx',hxo⟩:=g2 i _ (List.getElem?_eq_getElem hi);rw [show Hs xs i=x by rw [Dc,hx'];rfl]
  exact (Cw.1 hnd).1 x (List.mem_of_getElem? hx')
 refine ⟨fun i y hy=>?_,fun i hi=>Tu h (hsub i hi) (hkeys i hi),hkeys,fun i j hi hj hne b hb hb'=>?_⟩
 ·obtain ⟨x,hx',hxo⟩:=g2 i y hy
  rw [show Hs xs i=x by rw [Dc,hx'];rfl]
  exact (Jo h hxo (h4 i x hx')).1
 obtain ⟨k,hk1,hb⟩:=List.mem_flatMap.1 hb;obtain ⟨l,hl1,hb'⟩:=List.mem_flatMap.1 hb';obtain ⟨y1,hy1,rfl⟩:=hkeys i hi k hk1;obtain ⟨y2,hy2,rfl⟩:=hkeys j hj l hl1
 by_cases e:y1.key=y2.key
 ·have hpw:=(Cw.1 hnd).2
  have hi':i<xs.length:=by omega
  have hj':j<xs.length:=by omega
  have e1:Hs xs i=xs[i]:=by rw [Dc,List.getElem?_eq_getElem hi'];rfl
  have e2:Hs xs j=xs[j]:=by rw [Dc,List.getElem?_eq_getElem hj'];rfl
  rw [e1] at hk1;rw [e2] at hl1
  rcases Nat.lt_or_gt_of_ne hne with hlt|hlt
  ·exact List.pairwise_iff_getElem.1 hpw i j hi' hj' hlt _ hk1 (e▸hl1)
  exact List.pairwise_iff_getElem.1 hpw j i hj' hi' hlt _ hl1 (e▸hk1)
 exact h.sep y1 hy1 y2 hy2 e b hb hb'
theorem Vq (hT:Cs P T){B:Be}{fn:Func}{ι:Type}{φ:ι→Prop}{outs:ι→List Gy}{s:AS}{xs:List AV}(i:ι)(hi:φ i)(hx:Rq T fn.results.toList s=some xs)(hk:Gv (xs.flatMap E9)=true)(ho:Oy s.own xs (outs i)):
  RW B (bodyPost P fn fun e w'=>∃i,φ i∧A40 B w' (outs i) e) s:=
 RW.mono (fun _ _ ⟨h1,v,h2,h3⟩=>⟨h1,v,h2,i,hi,h3⟩) ⟨C2n hT hx hk ho⟩
theorem C3 (hT:Cs P T){B:Be}{b:Nat}{fn:Func}{ι:Type}{φ:ι→Prop}{cs':ι→List Ai}{outs:ι→List Gy}{s:AS}{xs:List AV}{bx:Bx}(i:ι)(hi:φ i)(hx:Rq T fn.results.toList s=some xs)
  (hb:Fl s.boxes 0=some bx)(hl:Ed s.links 0=some (.pointer (some ⟨b,0,none⟩)))(hk:Gv ((AV.agg bx.cells::xs).flatMap E9)=true)(ho:Oy s.own (.agg bx.cells::xs) (.agg (cs' i)::outs i)):
  RW B (bodyPost P fn fun e w'=>∃i,φ i∧B0h B b w' (cs' i) (outs i) e) s:=by
 refine ⟨fun E a w h=>?_⟩;obtain ⟨rs,h1,h2,h3,h4⟩:=Vp hT h fn.results.toList xs hx;obtain ⟨hm,hkey⟩:=F3 hb;obtain ⟨k1,vs,ty,k2,k3,k4⟩:=h.boxes bx hm;have hl0:=(h.links _ (Fy hl)).2;have hβ:E.β bx.key=b:=by rw [hkey];unfold E7.β;rw [show E.ov 0=_ from hl0];rfl
 rw [hβ] at k2
 have hd:∀i x,(AV.agg bx.cells::xs)[i]? =some x→Dr E w (s.avoid E) s.next x ((Value.agg vs.toList.toArray::rs).getD i undef):=by
  intro i x hx
  cases i with
  |zero=>
   simp only [List.getElem?_cons_zero,Option.some.injEq] at hx;subst hx;exact .agg vs.toList (by simpa using k3) (fun j y hj=>by rw [Cg];exact k4 j y hj)
  |succ i=>simpa using h4 i x (by simpa using hx)
 obtain ⟨o1,o2,o3,o4⟩:=A1q h hd hk ho;have hlen:xs.length=(outs i).length:=(Mo ho.2).1;refine ⟨h.defers,Kp rs,?_,i,hi,h.base,vs.toList,ty,rs,fun i=>(E9 (Hs (AV.agg bx.cells::xs) i)).flatMap E.fp,rfl,by simpa using k2,by omega,o1,fun j hj=>⟨o2 j (by simpa using hj),fun x hx=>?_⟩,fun j l hj hl hne=>o4 j l (by simpa using hj) (by simpa using hl) hne⟩
 ·rw [Q6,Array.mapM_eq_mapM_toList]
  simp only [map_eq_pure_bind,Sem.run_bind,h1,Result.andThen_ok,Sem.run_pure];exact congrArg (fun v=>Result.ok v w) (Sh rs)
 obtain ⟨k,hk',hx⟩:=List.mem_flatMap.1 hx;obtain ⟨y,hy,rfl⟩:=o3 j (by simpa using hj) k hk';refine ⟨h.fresh x (.inr ⟨y,hy,hx⟩),fun e=>?_⟩;subst e
 have:=h.sepB bx hm y hy
 rw [hβ] at this;exact this hx
def N0 (ks:List Nat) (s:AS):AS:= {s with own:=Bz ks s.own}
theorem B9v {B:Be}{s:AS}{E:E7}{a:Act}{w w':World}{X:Nat→Prop}(hs:s.is B E a w)(hX:∀b,X b→s.avoid E b)(hr:Be.rel ⟨w,X⟩ w'):B.rel w':=by
 have hB:=hs.base;refine ⟨hr.os.trans hB.os,hr.tape.trans hB.tape,hr.output.trans hB.output,Nat.le_trans hB.size hr.size,fun k hk hm=>?_,Nat.le_trans hB.drawn hr.drawn⟩
 rw [hr.block k (Nat.lt_of_lt_of_le hk hB.size) (fun hX'=>by
  rcases hs.fresh k (hX k hX') with h|h
  ·omega
  exact hm h)]
 exact hB.block k hk hm
theorem R8 {X:Nat→Prop}{w w':World}(h:Be.rel ⟨w,X⟩ w'):B4a X w w':=⟨h.os,h.tape,h.output,h.size,fun k hk hm=>h.block k hk hm,h.drawn⟩
theorem A7n {B:Be}{Q:Exit→Act→World→Prop}{H:World→Prop}{f:FuncId}{rest:List AV}{dst:Option Tmp}{K:List KI}{s:AS}{pins:List (Ai×Value)}{xs ins:List Gy}{ι:Type}{φ:ι→Prop}{outs:ι→List Gy}(x0s:List AV)
  (hf:J6 P H f pins xs ins φ outs)(hH:∀w,B.rel w→H w)(hp:M6 B pins)(ho:Oy s.own x0s xs)(hk:Gv (x0s.flatMap E9)=true)(hx:Zn (Bz (x0s.flatMap E9) s.own) rest=some ins)
  (h:∀i,φ i→GW P B Q K ((Iq (outs i) (N0 (x0s.flatMap E9) s)).2.put dst (Iq (outs i) (N0 (x0s.flatMap E9) s)).1)):CW P B Q false f (x0s++rest) dst K s:=by
 refine ⟨⟨hf.1,fun E a w hs vs hl hv=>?_⟩⟩;have hxl:=(Mo ho).1;obtain ⟨r1,r2⟩:=A3n hx;have hvl:vs.length=x0s.length+rest.length:=by simpa using hl
 have hd1:∀i x,x0s[i]? =some x→Dr E w (s.avoid E) s.next x ((vs.take x0s.length).getD i undef):=by
  intro i x hi;have hil:i<x0s.length:=(List.getElem?_eq_some_iff.1 hi).1
  have:=hv i x (by rw [List.getElem?_append_left hil];exact hi)
  simpa [List.getD,List.getElem?_take,hil] using this
 have hd2:∀i x,rest[i]? =some x→Dr E w (s.avoid E) s.next x ((vs.drop x0s.length).getD i undef):=by
  intro i x hi
  have:=hv (x0s.length+i) x (by rw [List.getElem?_append_right Ad];simpa using hi)
  simpa [List.getD] using this
 obtain ⟨o1,o2,o3,o4⟩:=A1q hs hd1 hk ho
 let fps:Nat→List Nat:=fun i=>(E9 (Hs x0s i)).flatMap E.fp
 have hin:∀b,b∈Oh xs.length fps→∃k∈x0s.flatMap E9,∃y∈s.own,y.key=k∧b∈E.fp k:=by
  intro b hb;obtain ⟨i,hi,hb⟩:=List.mem_flatMap.1 hb;have hi:=List.mem_range.1 hi;obtain ⟨k,hk1,hb⟩:=List.mem_flatMap.1 hb;obtain ⟨y,hy,e⟩:=o3 i hi k hk1;refine ⟨k,List.mem_flatMap.2 ⟨Hs x0s i,?_,hk1⟩,y,hy,e,hb⟩;have hil:i<x0s.length:=by omega
  rw [Dc,List.getElem?_eq_getElem hil];exact List.getElem_mem hil
 have hX:A3j s E (x0s.flatMap E9) (fun b=>b∈Oh xs.length fps):=by
  refine ⟨fun b hb=>?_,fun y hy hne b hb hb'=>?_⟩
  ·obtain ⟨k,_,y,hy,rfl,hb⟩:=hin b hb
   exact .inr ⟨y,hy,hb⟩
  obtain ⟨k,hk1,y2,hy2,rfl,hb2⟩:=hin b hb';exact hs.sep y hy y2 hy2 (fun e=>hne (e▸hk1)) b hb hb2
 have e:vs=vs.take x0s.length++vs.drop x0s.length:=(List.take_append_drop _ _).symm;rw [e];refine (hf.2 w (vs.take x0s.length) fps (vs.drop x0s.length) (by simp;omega) o1 o2 o4 (fun w' hr=>hH w' (B9v hs hX.av hr)) (hp.now hs hX.av) (by simp;omega) (fun i z hi=>?_)).mono (fun e w' ⟨i,hi,hg⟩=>?_)
 ·obtain ⟨y,hy,hro⟩:=r2 i z hi
  exact A7m hs hX hro (hd2 i y hy)
 obtain ⟨hrel,rs,gps,rfl,hrl,hro,hfr,hdis⟩:=hg;have hkept:=R8 hrel;have hI:=hs.drop (x0s.flatMap E9)
 have hX2:∀b,b∈Oh xs.length fps→s.avoid E b∧¬ (N0 (x0s.flatMap E9) s).avoid E b∧B.fresh b:=by
  intro b hb;refine ⟨hX.av b hb,?_,hs.fresh b (hX.av b hb)⟩
  rintro (⟨u,hu,rfl⟩|⟨u,hu,hb'⟩)
  ·obtain ⟨k,hk1,y,hy,rfl,hb⟩:=hin _ hb
   exact hs.sepB u hu y hy hb
  obtain ⟨q1,q2⟩:=Cr.1 hu;exact hX.own u q1 q2 b hb' hb
 have hI2:=hI.kept hkept hX2
 obtain ⟨E',hAd,hL,hD⟩:=Mu (outs i) rs gps (N0 (x0s.flatMap E9) s) E hI2 hrl hro (fun j hj=>(hfr j hj).1) hdis (fun j hj b hb=>by
  rcases (hfr j hj).2 b hb with h|h
  ·refine ⟨.inr h,fun hav=>?_,.inl (Nat.le_trans hs.base.size h)⟩
   have:=hs.avoid_lt (hI.sub b hav)
   have h:w.heap.size≤b:=h;omega
  obtain ⟨q1,q2,q3⟩:=hX2 b h
  exact ⟨.inl q1,q2,q3⟩)
 have hres:=Jz (outs i) (Ec (outs i) (N0 (x0s.flatMap E9) s)).1 rs hrl hL hD;have h:=h i hi;rw [Wh] at h;exact ⟨_,rfl,(fun h=>by cases h),h.rec fun g=>g E' _ w' ((hAd.isA.put dst hres).is)⟩
def Ro (k:Nat) (l:List Bx):List Bx:=
 match l with
 | []=>[]
 |b::r=>match Nat.beq b.key k with
  |true=>Ro k r
  |false=>b::Ro k r
theorem Ko {k:Nat}{l:List Bx}{b:Bx}:b∈Ro k l↔b∈l∧b.key≠k:=by
 induction l with
 |nil=>simp [Ro]
 |cons x r ih=>
  unfold Ro
  split
  ·rename_i h
   have:=Nat.eq_of_beq_eq_true h
   rw [ih]
   constructor
   ·rintro ⟨h1,h2⟩;exact ⟨List.mem_cons_of_mem _ h1,h2⟩
   rintro ⟨h1,h2⟩
   rcases List.mem_cons.1 h1 with rfl|h1
   ·exact absurd this h2
   exact ⟨h1,h2⟩
  rename_i h
  have hne:x.key≠k:=fun e=>by subst e;simp at h
  simp only [List.mem_cons,ih]
  constructor
  ·rintro (rfl|⟨h1,h2⟩)
   ·exact ⟨.inl rfl,hne⟩
   exact ⟨.inr h1,h2⟩
  rintro ⟨rfl|h1,h2⟩
  ·exact .inl rfl
  exact .inr ⟨h1,h2⟩
theorem B5w {k:Nat}{l:List Bx}(h:(l.map (·.key)).Nodup):((Ro k l).map (·.key)).Nodup:=by
 induction l with
 |nil=>simp [Ro]
 |cons x r ih=>
  simp only [List.map_cons,List.nodup_cons] at h;unfold Ro
  split
  ·exact ih h.2
  simp only [List.map_cons,List.nodup_cons];refine ⟨fun hm=>h.1 ?_,ih h.2⟩
  obtain ⟨o,ho,e⟩:=List.mem_map.1 hm;exact List.mem_map.2 ⟨o,(Ko.1 ho).1,e⟩
theorem AS.isA.addBox {s:AS}{B:Be}{E:E7}{A:Nat→Prop}{a:Act}{w:World}(h:s.isA B E A a w){k:Nat}(hk:k<s.next)(hn:∀x∈s.boxes,x.key≠k){cells:List AV}{vs:Array Value}{ty:TypeId}
  (hb:w.heap[E.β k]? =some (.cells vs ty (0,0)))(hl:vs.size=cells.length)(hd:∀i y,cells[i]? =some y→Dr E w A s.next y (vs.getD i undef))(hav:¬ s.avoid E (E.β k))(hA:A (E.β k))(hf:B.fresh (E.β k)):
  ({s with boxes:=⟨k,cells⟩::s.boxes}:AS).isA B E A a w:=by
 refine ⟨h.defers,h.links,h.size,h.slots,fun x hx=>?_,fun x hx y hy e=>?_,?_,h.own,h.ownkeys,h.sep,fun x hx y hy=>?_,h.one,h.base,fun b hb'=>?_,fun b hb'=>?_⟩
 ·rcases List.mem_cons.1 hx with rfl|hx
  ·exact ⟨hk,vs,ty,hb,hl,hd⟩
  exact h.boxes x hx
 ·rcases List.mem_cons.1 hx with rfl|hx<;>rcases List.mem_cons.1 hy with rfl|hy
  ·rfl
  ·exact absurd (.inl ⟨y,hy,e.symm⟩) hav
  ·exact absurd (.inl ⟨x,hx,e⟩) hav
  exact h.boxes2 x hx y hy e
 ·simp only [List.map_cons,List.nodup_cons]
  refine ⟨fun hm=>?_,h.keys⟩;obtain ⟨y,hy,e⟩:=List.mem_map.1 hm;exact hn y hy e
 ·rcases List.mem_cons.1 hx with rfl|hx
  ·exact fun hb'=>hav (.inr ⟨y,hy,hb'⟩)
  exact h.sepB x hx y hy
 ·rcases hb' with ⟨x,hx,rfl⟩|hb'
  ·rcases List.mem_cons.1 hx with rfl|hx
   ·exact hf
   exact h.fresh _ (.inl ⟨x,hx,rfl⟩)
  exact h.fresh _ (.inr hb')
 rcases hb' with ⟨x,hx,rfl⟩|hb'
 ·rcases List.mem_cons.1 hx with rfl|hx
  ·exact hA
  exact h.sub _ (.inl ⟨x,hx,rfl⟩)
 exact h.sub _ (.inr hb')
def dropP (k:Nat) (ks:List Nat) (s:AS):AS:= {s with own:=Bz ks s.own,boxes:=Ro k s.boxes}
theorem AS.is.dropP {s:AS}{B:Be}{E:E7}{a:Act}{w:World}(h:s.is B E a w)(k:Nat)(ks:List Nat):(Sx.dropP k ks s).isA B E (s.avoid E) a w:=by
 have av:∀b,(Sx.dropP k ks s).avoid E b→s.avoid E b:=by
  rintro b (⟨x,hx,hb⟩|⟨y,hy,hb⟩)
  ·exact .inl ⟨x,(Ko.1 hx).1,hb⟩
  exact .inr ⟨y,(Cr.1 hy).1,hb⟩
 exact ⟨h.defers,h.links,h.size,h.slots,fun x hx=>h.boxes x (Ko.1 hx).1,fun x hx y hy=>h.boxes2 x (Ko.1 hx).1 y (Ko.1 hy).1,B5w h.keys,fun y hy=>h.own y (Cr.1 hy).1,Y5 h.ownkeys,
  fun y hy z hz=>h.sep y (Cr.1 hy).1 z (Cr.1 hz).1,fun x hx y hy=>h.sepB x (Ko.1 hx).1 y (Cr.1 hy).1,h.one,h.base,fun b hb=>h.fresh b (av b hb),av⟩
def B34 (ys:List AV):AV:=
 match ys with
 | [y]=>y
 |ys=> .tup ys
def B60 (k:Nat) (ks:List Nat) (cs:List Ai) (outs:List Gy) (dst:Option Tmp) (s:AS):AS:=
 match Ec (.agg cs::outs) (dropP k ks s) with
 |(.agg zs::ys,s')=>({s' with boxes:=⟨k,zs⟩::s'.boxes}:AS).put dst (B34 ys)
 |(_,s')=>s'
theorem B2o (c:Ai)(s:AS):(A45 c s).2.boxes=s.boxes:=by cases c<;>rfl
theorem Qv:∀(cs:List Ai) (s:AS),(Gc cs s).2.boxes=s.boxes
 | [],_=>rfl
 |c::cs,s=>(Qv cs (A45 c s).2).trans (B2o c s)
theorem B4b (x:Gy)(s:AS):(P7 x s).2.boxes=s.boxes:=by
 cases x with
 |one c=>exact B2o c s
 |agg cs=>exact Qv cs s
 |ptr cs=>rfl
 |fn f caps=>rfl
theorem Zg:∀(l:List Gy) (s:AS),(Ec l s).2.boxes=s.boxes
 | [],_=>rfl
 |x::l,s=>(Zg l (P7 x s).2).trans (B4b x s)
theorem A7h (cs:List Ai)(outs:List Gy)(s:AS):Ec (.agg cs::outs) s=(.agg (Gc cs s).1::(Ec outs (Gc cs s).2).1,(Ec outs (Gc cs s).2).2):=rfl
theorem Ay {B:Be}{Q:Exit→Act→World→Prop}{H:World→Prop}{f:FuncId}{k:Nat}{rest:List AV}{dst:Option Tmp}{K:List KI}{s:AS}{pins:List (Ai×Value)}{cs:List Ai}{ins:List Gy}{ι:Type}{φ:ι→Prop}{cs':ι→List Ai}{outs:ι→List Gy}
  (hf:E3 P H f pins cs ins φ cs' outs)(hH:∀w,B.rel w→H w)(hp:M6 B pins){bx:Bx}(hb:Fl s.boxes k=some bx)(ho:A1o s.own bx.cells cs)(hk:Gv (bx.cells.flatMap J7)=true)
  (hx:Zn (Bz (bx.cells.flatMap J7) s.own) rest=some ins)(h:∀i,φ i→GW P B Q K (B60 k (bx.cells.flatMap J7) (cs' i) (outs i) dst s)):CW P B Q false f (.box k 0::rest) dst K s:=by
 refine ⟨⟨hf.1,fun E a w hs vs hl hv=>?_⟩⟩;obtain ⟨hm,hkey⟩:=F3 hb;obtain ⟨hklt,bvs,ty,b1,b2,b3⟩:=hs.boxes bx hm;rw [hkey] at b1 hklt;obtain ⟨r1,r2⟩:=A3n hx
 match vs,hl with
 |v::us,hl=>
  have hv0:=hv 0 (.box k 0) rfl;simp only [List.getD,List.getElem?_cons_zero,Option.getD_some] at hv0;have hdb:Dr E w (s.avoid E) s.next (.agg bx.cells) (.agg bvs.toList.toArray):= .agg bvs.toList (by simpa using b2) (fun i y hi=>by rw [Cg];exact b3 i y hi);obtain ⟨o1,o2⟩:=Jo (x:= .agg bx.cells) (o:= .agg cs) hs ho hdb;have hks:(bx.cells.flatMap J7).Nodup:=Eu hk
  let fp:=(bx.cells.flatMap J7).flatMap E.fp
  have hfn:fp.Nodup:=Tu hs hks o2
  have hin:∀b,b∈fp→∃y∈s.own,y.key∈bx.cells.flatMap J7∧b∈E.fp y.key:=by
   intro b hb';obtain ⟨j,hj,hb'⟩:=List.mem_flatMap.1 hb';obtain ⟨y,hy,rfl⟩:=o2 j hj;exact ⟨y,hy,hj,hb'⟩
  have hb0:E.β k∉fp:=by
   intro hb';obtain ⟨y,hy,_,hb'⟩:=hin _ hb'
   have:=hs.sepB bx hm y hy
   rw [hkey] at this;exact this hb'
  let X:Nat→Prop:=fun x=>x=E.β k∨x∈fp
  have hX:A3j s E (bx.cells.flatMap J7) X:=by
   refine ⟨fun b hb'=>?_,fun y hy hne b hb' hX'=>?_⟩
   ·rcases hb' with rfl|hb'
    ·exact .inl ⟨bx,hm,by rw [hkey]⟩
    obtain ⟨y,hy,_,hb'⟩:=hin b hb';exact .inr ⟨y,hy,hb'⟩
   rcases hX' with rfl|hX'
   ·have:=hs.sepB bx hm y hy
    rw [hkey] at this;exact this hb'
   obtain ⟨y2,hy2,hk2,hb2⟩:=hin b hX';exact hs.sep y hy y2 hy2 (fun e=>hne (e▸hk2)) b hb' hb2
  cases hv0 with
  |box _ _=>
   refine (hf.2 w (E.β k) bvs.toList ty fp us (by simpa using b1) o1 hfn hb0 (fun w' hr=>hH w' (B9v hs hX.av hr)) (hp.now hs hX.av) (by simp at hl;omega) (fun i z hi=>?_)).mono (fun e w' ⟨i,hi,hg⟩=>?_)
   ·obtain ⟨y,hy,hro⟩:=r2 i z hi
    have:=hv (i+1) y (by simpa using hy)
    exact A7m hs hX hro (by simpa [List.getD] using this)
   obtain ⟨hrel,nvs,nty,rs,gps,rfl,hheap,hrl,hro,hfr,hdis⟩:=hg;have hkept:=R8 hrel;have hI:=hs.dropP k (bx.cells.flatMap J7)
   have hX2:∀b,X b→s.avoid E b∧¬ (dropP k (bx.cells.flatMap J7) s).avoid E b∧B.fresh b:=by
    intro b hb';refine ⟨hX.av b hb',?_,hs.fresh b (hX.av b hb')⟩
    rintro (⟨u,hu,rfl⟩|⟨u,hu,hb2⟩)
    ·obtain ⟨q1,q2⟩:=Ko.1 hu
     rcases hb' with hb'|hb'
     ·exact q2 ((hs.boxes2 u q1 bx hm (by rw [hkey];exact hb')).trans hkey)
     obtain ⟨y,hy,_,hb'⟩:=hin _ hb';exact hs.sepB u q1 y hy hb'
    obtain ⟨q1,q2⟩:=Cr.1 hu;exact hX.own u q1 q2 b hb2 hb'
   have hI2:=hI.kept hkept hX2
   have hnew:∀j,j<(outs i).length+1→∀b∈gps j,(s.avoid E b∨w.heap.size≤b)∧¬ (dropP k (bx.cells.flatMap J7) s).avoid E b∧B.fresh b:=fun j hj b hb'=>by
    rcases ((hfr j hj).2 b hb').1 with h|h
    ·refine ⟨.inr h,fun hav=>?_,.inl (Nat.le_trans hs.base.size h)⟩
     have:=hs.avoid_lt (hI.sub b hav)
     have h:w.heap.size≤b:=h;omega
    obtain ⟨q1,q2,q3⟩:=hX2 b h;exact ⟨.inl q1,q2,q3⟩
   obtain ⟨E',hAd,hL,hD⟩:=Mu (.agg (cs' i)::outs i) (.agg nvs.toArray::rs) gps (dropP k (bx.cells.flatMap J7) s) E hI2 (by simp [hrl]) hro (fun j hj=>(hfr j (by simpa using hj)).1) (fun j l hj hl=>hdis j l (by simpa using hj) (by simpa using hl)) (fun j hj=>hnew j (by simpa using hj));have h:=h i hi;unfold B60 at h;rw [A7h] at h hAd hL hD
   simp only at h hAd hL hD
   have hbk:E'.β k=E.β k:=(hAd.keep k hklt).1;have hz0:=hD 0 _ rfl;simp only [List.getD,List.getElem?_cons_zero,Option.getD_some] at hz0;have hboxes:(Ec (outs i) (Gc (cs' i) (dropP k (bx.cells.flatMap J7) s)).2).2.boxes=Ro k s.boxes:=(Zg _ _).trans (Qv _ _)
   have hzs:nvs.length=(Gc (cs' i) (dropP k (bx.cells.flatMap J7) s)).1.length∧∀j y,(Gc (cs' i) (dropP k (bx.cells.flatMap J7) s)).1[j]? =some y→Dr E' w' (fun b=>s.avoid E b∨w.heap.size≤b) (Ec (outs i) (Gc (cs' i) (dropP k (bx.cells.flatMap J7) s)).2).2.next y (nvs.getD j undef):=by
    generalize hq:(Value.agg nvs.toArray)=q at hz0
    cases hz0 with
    |agg ws hwl hw=>
     have e:nvs=ws:=by simpa using hq
     subst e;exact ⟨hwl,hw⟩
   have hbox:=hAd.isA.addBox (k:=k) (Nat.lt_of_lt_of_le hklt hAd.next) (fun x hx e=>by
    rw [hboxes] at hx
    exact (Ko.1 hx).2 e) (vs:=nvs.toArray) (ty:=nty) (by rw [hbk];exact hheap) (by simpa using hzs.1) (fun j y hj=>by rw [←Cg];exact hzs.2 j y hj) (by
     rw [hbk];intro hav
     rcases hAd.avoid _ hav with h|h
     ·exact (hX2 _ (.inl rfl)).2.1 h
     obtain ⟨j,hj,hb'⟩:=List.mem_flatMap.1 h
     exact ((hfr j (by simpa using List.mem_range.1 hj)).2 _ hb').2 rfl) (by rw [hbk];exact .inl (hX.av _ (.inl rfl))) (by rw [hbk];exact hs.fresh _ (hX.av _ (.inl rfl)))
   have hLr:(Ec (outs i) (Gc (cs' i) (dropP k (bx.cells.flatMap J7) s)).2).1.length=(outs i).length:=by simpa using hL
   have hres:Dr E' w' (fun b=>s.avoid E b∨w.heap.size≤b) (Ec (outs i) (Gc (cs' i) (dropP k (bx.cells.flatMap J7) s)).2).2.next (B34 (Ec (outs i) (Gc (cs' i) (dropP k (bx.cells.flatMap J7) s)).2).1) (Kp rs):=Jz (outs i) (Ec (outs i) (Gc (cs' i) (dropP k (bx.cells.flatMap J7) s)).2).1 rs hrl hLr (fun j x hj=>by simpa [List.getD] using hD (j+1) x (by simpa using hj));exact ⟨_,rfl,(fun h=>by cases h),h.rec fun g=>g E' _ w' ((hbox.put dst hres).is)⟩
end Go.Sx
set_option maxRecDepth 100000
namespace Go.Sx
open Go
variable {P : Program} {T : List (TypeId × TI)}
theorem A5h {E:E7}{w:World}{A:Nat→Prop}{N:Nat}{ins:List Gy}{us:List Value}(_hl:us.length=ins.length)(hr:∀i z,ins[i]? =some z→Ms w A z (us.getD i undef))(i:Nat)(x:AV)(hx:(ins.map Nm)[i]? =some x):Dr E w A N x (us.getD i undef):=by
 simp only [List.getElem?_map,Option.map_eq_some_iff] at hx;obtain ⟨q,hq,rfl⟩:=hx;have hr:=hr i q hq
 cases q with
 |one c=>exact .c hr
 |agg cs=>
  obtain ⟨ws,hu,hul,hur⟩:=hr;rw [hu];refine .agg ws (by simp [hul]) (fun j x hj=>?_);simp only [List.getElem?_map,Option.map_eq_some_iff] at hj;obtain ⟨c,hc,rfl⟩:=hj;exact .c (hur j c hc)
 |ptr cs=>exact O5.den hr (fun _ h=>h)
 |fn f caps=>
  obtain ⟨ws,hu,hul,hur⟩:=hr;rw [hu];refine .fn ws (by simp [hul]) (fun j x hj=>?_);simp only [List.getElem?_map,Option.map_eq_some_iff] at hj;obtain ⟨c,hc,rfl⟩:=hj;have hr:=hur j c hc
  cases c with
  |one c=>exact .c hr
  |ptr cs=>exact O5.den hr (fun _ h=>h)
theorem Wr {E:E7}{w:World}{A:Nat→Prop}{N m:Nat}{ys:List AV}{vs:List Value}(hl:vs.length=ys.length)(hd:∀i x,ys[i]? =some x→Dr E w A N x (vs.getD i undef))(i:Nat)(x:AV)
  (hx:(ys++List.replicate m .any)[i]? =some x):Dr E w A N x ((vs.toArray++Array.replicate m undef).getD i undef):=by
 by_cases hi:i<ys.length
 ·rw [List.getElem?_append_left hi] at hx
  have e:(vs.toArray++Array.replicate m undef).getD i undef=vs.getD i undef:=by
   simp [Array.getD,List.getD,show i<vs.length by omega,show i<vs.length+m by omega]
  rw [e];exact hd i x hx
 rw [List.getElem?_append_right Ad] at hx;rw [List.eq_of_mem_replicate (List.mem_of_getElem? hx)];exact .any _
def Pb (n k:Nat):AS:= {next:=0,slots:=List.replicate (k+(n-k)) .any,boxes:=[],own:=[]}
theorem Tl {B:Be}{w:World}{E0:E7}{A:Nat→Prop}{a:Act}{m:Nat}(hd:a.defers=[])(hs:a.tmps.size=m){next:Nat}{links:List (Nat×Value)}(hl:∀p∈links,p.1<next∧E0.ov p.1=p.2)(h1:∀k,k<next→(E0.ov k).oneCell'=true)(hB:B.rel w):
  ({next:=next,slots:=List.replicate m .any,boxes:=[],own:=[],links:=links}:AS).isA B E0 A a w:=by
 have nav:∀b,¬ ({next:=next,slots:=List.replicate m .any,boxes:=[],own:=[],links:=links}:AS).avoid E0 b:=by
  rintro b (⟨x,hx,_⟩|⟨y,hy,_⟩)
  ·simp at hx
  simp at hy
 refine ⟨hd,hl,by simp [hs],fun i x hx=>?_,by simp,by simp,by simp,by simp,by simp,by simp,by simp,h1,hB,fun b hb=>absurd hb (nav b),fun b hb=>absurd hb (nav b)⟩;rw [List.eq_of_mem_replicate (List.mem_of_getElem? hx)];exact .any _
def C4e (n:Nat) (xs ins:List Gy):AS:=
 match Ec xs (Pb n (xs.length+ins.length)) with
 |(ys,s)=> {s with slots:=ys++ins.map Nm++List.replicate (n-(xs.length+ins.length)) .any}
theorem AS.isA.slotsAt {s:AS}{B:Be}{E:E7}{A:Nat→Prop}{a:Act}{w:World}(h:s.isA B E A a w){sl:List AV}(hsz:a.tmps.size=sl.length)(hd:∀i x,sl[i]? =some x→Dr E w A s.next x (a.tmps.getD i undef)):({s with slots:=sl}:AS).isA B E A a w:=
 ⟨h.defers,h.links,hsz,hd,h.boxes,h.boxes2,h.keys,h.own,h.ownkeys,h.sep,h.sepB,h.one,h.base,h.fresh,h.sub⟩
theorem O6 (hT:Cs P T)(wr:Bool){H:World→Prop}{f:FuncId}{fn:Func}{c:Code}{pins:List (Ai×Value)}{xs ins:List Gy}{ι:Type}{φ:ι→Prop}{outs:ι→List Gy}(hf:P.funcs[f]? =some fn)(hb:fn.body=some c)(hn:(fn.name== "runtime.NumGoroutine")=false)
  (h:∀B,(∀w,B.rel w→H w)→M6 B pins→vcW P B (bodyPost P fn fun e w'=>∃i,φ i∧A40 B w' (outs i) e) (Oz T wr 100000 [.code c] (C4e fn.ntmps xs ins))):J6 P H f pins xs ins φ outs:=by
 refine ⟨⟨fn,hf,hn,by simp [hb]⟩,fun w vs fps us hvl ho hnd hdis hH hp hul hro=>calls_of_wp hf hb ?_⟩
 let B:Be:=⟨w,fun b=>b∈Oh xs.length fps⟩
 have hrel:B.rel w:=⟨rfl,rfl,rfl,Nat.le_refl _,fun _ _ _=>rfl,Nat.le_refl _⟩
 let a:Act:= {tmps:=(vs++us).toArray++Array.replicate (fn.ntmps-(vs++us).toArray.size) undef,defers:=[]}
 have hsz:a.tmps.size=xs.length+ins.length+(fn.ntmps-(xs.length+ins.length)):=by simp [a,hvl,hul]
 let E0:E7:=⟨fun _=> .slice none 0 0,fun _=>[]⟩
 have h0:(Pb fn.ntmps (xs.length+ins.length)).isA B E0 (fun b=>b∈Oh xs.length fps) a w:=Tl rfl hsz C8 (fun _ _=>rfl) hrel
 have nav:∀b,¬ (Pb fn.ntmps (xs.length+ins.length)).avoid E0 b:=by
  rintro b (⟨x,hx,_⟩|⟨y,hy,_⟩)
  ·simp [Pb] at hx
  simp [Pb] at hy
 obtain ⟨E',hA,hL,hD⟩:=Mu xs vs fps (Pb fn.ntmps (xs.length+ins.length)) E0 h0 hvl ho hnd hdis (fun i hi b hb'=>⟨List.mem_flatMap.2 ⟨i,List.mem_range.2 hi,hb'⟩,nav b,.inr (List.mem_flatMap.2 ⟨i,List.mem_range.2 hi,hb'⟩)⟩)
 have hS:=hA.isA.slotsAt (sl:=(Ec xs (Pb fn.ntmps (xs.length+ins.length))).1++ins.map Nm++List.replicate (fn.ntmps-(xs.length+ins.length)) .any) (by rw [hsz];simp [hL];try omega) (fun i x hx=>by
  have hk:fn.ntmps-(xs.length+ins.length)=fn.ntmps-(vs++us).toArray.size:=by simp [hvl,hul]
  rw [hk] at hx;refine Wr (vs:=vs++us) (by simp [hL,hvl,hul]) (fun j y hj=>?_) i x hx
  by_cases hjl:j<xs.length
  ·rw [List.getElem?_append_left (by rw [hL];exact hjl)] at hj
   have:=hD j y hj
   rwa [show (vs++us).getD j undef=vs.getD j undef by simp [List.getD,List.getElem?_append_left (show j<vs.length by omega)]]
  rw [List.getElem?_append_right (by rw [hL];omega),hL] at hj
  have:=A5h (E:=E') (N:=(Ec xs (Pb fn.ntmps (xs.length+ins.length))).2.next) hul hro _ y hj
  rwa [show (vs++us).getD j undef=us.getD (j-xs.length) undef by simp [List.getD,List.getElem?_append_right (show vs.length≤j by omega),hvl]])
 exact (go hT wr (h B hH hp)).out E' a w hS.is
def Pc (n k b:Nat):AS:= {next:=1,slots:=List.replicate (k+(n-k)) .any,boxes:=[],own:=[],links:=[(0,.pointer (some ⟨b,0,none⟩))]}
def C4f (n b:Nat) (cs:List Ai) (ins:List Gy):AS:=
 match Gc cs (Pc n (1+ins.length) b) with
 |(zs,s)=> {s with boxes:=[⟨0,zs⟩],slots:= .box 0 0::ins.map Nm++List.replicate (n-(1+ins.length)) .any}
theorem Em (hT:Cs P T)(wr:Bool){H:World→Prop}{f:FuncId}{fn:Func}{c:Code}{pins:List (Ai×Value)}{cs:List Ai}{ins:List Gy}{ι:Type}{φ:ι→Prop}{cs':ι→List Ai}{outs:ι→List Gy}(hf:P.funcs[f]? =some fn)(hb:fn.body=some c)(hn:(fn.name== "runtime.NumGoroutine")=false)
  (h:∀B b,(∀w,B.rel w→H w)→M6 B pins→vcW P B (bodyPost P fn fun e w'=>∃i,φ i∧B0h B b w' (cs' i) (outs i) e) (Oz T wr 100000 [.code c] (C4f fn.ntmps b cs ins))):E3 P H f pins cs ins φ cs' outs:=by
 refine ⟨⟨fn,hf,hn,by simp [hb]⟩,fun w b vs ty fp us hheap ho hnd hbn hH hp hul hro=>calls_of_wp hf hb ?_⟩
 let B:Be:=⟨w,fun x=>x=b∨x∈fp⟩
 have hrel:B.rel w:=⟨rfl,rfl,rfl,Nat.le_refl _,fun _ _ _=>rfl,Nat.le_refl _⟩
 let pv:Value:= .pointer (some ⟨b,0,none⟩)
 let a:Act:= {tmps:=(pv::us).toArray++Array.replicate (fn.ntmps-(pv::us).toArray.size) undef,defers:=[]}
 have hsz:a.tmps.size=1+ins.length+(fn.ntmps-(1+ins.length)):=by simp [a,hul];omega
 let E0:E7:=⟨fun k=>if k=0 then pv else .slice none 0 0,fun _=>[]⟩
 have h0:(Pc fn.ntmps (1+ins.length) b).isA B E0 (fun x=>x=b∨x∈fp) a w:=Tl rfl hsz (fun p hp'=>by
  simp only [List.mem_singleton] at hp';subst hp'
  exact ⟨Nat.one_pos,rfl⟩) (fun k _=>by simp only [E0];split<;>rfl) hrel
 have nav:∀x,¬ (Pc fn.ntmps (1+ins.length) b).avoid E0 x:=by
  rintro b (⟨x,hx,_⟩|⟨y,hy,_⟩)
  ·simp [Pc] at hx
  simp [Pc] at hy
 obtain ⟨vs',fps,e1,hvl,hr,rfl⟩:=ho;obtain rfl:vs=vs':=by simpa using e1
 obtain ⟨E',hA,hL,hD⟩:=Zh cs vs fps (Pc fn.ntmps (1+ins.length) b) E0 h0 hvl hr hnd (fun x hx=>⟨.inr hx,nav x,.inr (.inr hx)⟩);have hk0:=hA.keep 0 Nat.one_pos;have hβ:E'.β 0=b:=by rw [hk0.1];rfl
 have hbx:(Gc cs (Pc fn.ntmps (1+ins.length) b)).2.boxes=[]:=Qv cs _
 have hB1:=hA.isA.addBox (k:=0) (Nat.lt_of_lt_of_le Nat.one_pos hA.next) (fun x hx=>by rw [hbx] at hx;cases hx) (cells:=(Gc cs (Pc fn.ntmps (1+ins.length) b)).1) (vs:=vs.toArray) (ty:=ty) (by rw [hβ];exact hheap) (by simp [hL,hvl])
  (fun i y hy=>by
   have:=hD i y hy
   rwa [show vs.toArray.getD i undef=vs.getD i undef by rw [←Cg]]) (by
   rw [hβ];intro hav
   rcases hA.avoid b hav with h|h
   ·exact nav _ h
   exact hbn h) (by rw [hβ];exact .inl rfl) (by rw [hβ];exact .inr (.inl rfl))
 rw [hbx] at hB1
 have hS:=hB1.slotsAt (sl:= .box 0 0::ins.map Nm++List.replicate (fn.ntmps-(1+ins.length)) .any) (by rw [hsz];simp;omega) (fun i x hx=>by
  have hk:fn.ntmps-(1+ins.length)=fn.ntmps-(pv::us).toArray.size:=by simp [hul];omega
  rw [hk] at hx;refine Wr (ys:= .box 0 0::ins.map Nm) (vs:=pv::us) (by simp [hul]) (fun j y hj=>?_) i x hx
  cases j with
  |zero=>
   simp only [List.getElem?_cons_zero,Option.some.injEq] at hj;subst hj
   have:=Dr.box (E:=E') (w:=w) (A:=fun x=>x=b∨x∈(List.range cs.length).flatMap fps) (N:=(Gc cs (Pc fn.ntmps (1+ins.length) b)).2.next) (k:=0) 0 (Nat.lt_of_lt_of_le Nat.one_pos hA.next)
   rw [hβ] at this;exact this
  |succ j=>exact A5h hul hro j y (by simpa using hj))
 exact (go hT wr (h B b hH hp)).out E' a w hS.is
structure B0g (w w':World) (cs:List Ai) (e:Ending):Prop where
 below:Ju w.heap.size w w'
 res:∃(b:Nat) (vs:List Value) (ty:TypeId) (fp:List Nat),e= .returned (.pointer (some ⟨b,0,none⟩))∧w.heap.size≤b∧w'.heap[b]? =some (.cells vs.toArray ty (0,0))∧Mr w' (.agg cs) (.agg vs.toArray) fp∧fp.Nodup∧b∉fp∧∀x∈fp,w.heap.size≤x
def A42 (P:Program) (f:FuncId) (pins:List (Ai×Value)) (ins:List Gy) {ι:Type} (φ:ι→Prop) (cs:ι→List Ai):Prop:=
 K9 P f∧∀(w:World) (us:List Value),us.length=ins.length→Zd w (fun _=>False) pins→(∀i z,ins[i]? =some z→Ms w (fun _=>False) z (us.getD i undef))→
  Calls P f us.toArray w fun e w'=>∃i,φ i∧B0g w w' (cs i) e
theorem B7x (hT:Cs P T)(wr:Bool){f:FuncId}{fn:Func}{c:Code}{pins:List (Ai×Value)}{ins:List Gy}{ι:Type}{φ:ι→Prop}{cs:ι→List Ai}(hf:P.funcs[f]? =some fn)(hb:fn.body=some c)(hn:(fn.name== "runtime.NumGoroutine")=false)
  (h:∀W,M6 ⟨W,fun _=>False⟩ pins→vcW P ⟨W,fun _=>False⟩ (bodyPost P fn fun e w'=>∃i,φ i∧B0g W w' (cs i) e) (Oz T wr 100000 [.code c] (start fn.ntmps ins))):A42 P f pins ins φ cs:=by
 refine ⟨⟨fn,hf,hn,by simp [hb]⟩,fun w us hl hp hr=>calls_of_wp hf hb ?_⟩
 let a:Act:= {tmps:=us.toArray++Array.replicate (fn.ntmps-us.toArray.size) undef,defers:=[]}
 have hsz:a.tmps.size=ins.length+(fn.ntmps-ins.length):=by simp [a,hl]
 let E0:E7:=⟨fun _=> .slice none 0 0,fun _=>[]⟩
 have h0:(Pb fn.ntmps ins.length).isA ⟨w,fun _=>False⟩ E0 (fun _=>False) a w:=Tl rfl hsz C8 (fun _ _=>rfl) ⟨rfl,rfl,rfl,Nat.le_refl _,fun _ _ _=>rfl,Nat.le_refl _⟩
 have hS:=h0.slotsAt (sl:=ins.map Nm++List.replicate (fn.ntmps-ins.length) .any) (by rw [hsz];simp) (fun i x hx=>by
  have hk:fn.ntmps-ins.length=fn.ntmps-us.toArray.size:=by simp [hl]
  rw [hk] at hx
  exact Wr (by simp [hl]) (fun j y hj=>A5h hl hr j y hj) i x hx)
 exact (go hT wr (h w hp)).out E0 a w hS.is
theorem C4a (hT:Cs P T){W:World}{fn:Func}{ι:Type}{φ:ι→Prop}{cs:ι→List Ai}{s:AS}{k:Nat}{bx:Bx}(i:ι)(hi:φ i)(hx:Rq T fn.results.toList s=some [.box k 0])(hb:Fl s.boxes k=some bx)(hk:Gv (bx.cells.flatMap J7)=true)(ho:A1o s.own bx.cells (cs i)):
  RW ⟨W,fun _=>False⟩ (bodyPost P fn fun e w'=>∃i,φ i∧B0g W w' (cs i) e) s:=by
 refine ⟨fun E a w h=>?_⟩;obtain ⟨rs,h1,h2,h3,h4⟩:=Vp hT h fn.results.toList _ hx;obtain ⟨hm,rfl⟩:=F3 hb;obtain ⟨k1,vs,ty,k2,k3,k4⟩:=h.boxes bx hm;have hd:Dr E w (s.avoid E) s.next (.agg bx.cells) (.agg vs.toList.toArray):= .agg vs.toList (by simpa using k3) (fun i y hi=>by rw [Cg];exact k4 i y hi);obtain ⟨o1,o2⟩:=Jo (x:= .agg bx.cells) (o:= .agg (cs i)) h ho hd;have h0:=h4 0 _ rfl;have hB:=h.base;have hnew:∀b,s.avoid E b→W.heap.size≤b:=fun b hb=>(h.fresh b hb).elim id False.elim;refine ⟨h.defers,Kp rs,?_,i,hi,⟨hB.os,hB.tape,hB.output,hB.size,fun k hk=>hB.block k hk (fun h=>h),hB.drawn⟩,E.β bx.key,vs.toList,ty,_,?_,hnew _ (.inl ⟨bx,hm,rfl⟩),by simpa using k2,o1,Tu h (Eu hk) o2,fun hb'=>?_,fun x hx=>?_⟩
 ·rw [Q6,Array.mapM_eq_mapM_toList]
  simp only [map_eq_pure_bind,Sem.run_bind,h1,Result.andThen_ok,Sem.run_pure];exact congrArg (fun v=>Result.ok v w) (Sh rs)
 ·match rs,h2 with
  | [r],_=>
   simp only [List.getD_cons_zero] at h0
   cases h0 with
   |box _ _=>rfl
 ·obtain ⟨j,hj,hb'⟩:=List.mem_flatMap.1 hb'
  obtain ⟨y,hy,rfl⟩:=o2 j hj;exact h.sepB bx hm y hy hb'
 obtain ⟨j,hj,hx⟩:=List.mem_flatMap.1 hx;obtain ⟨y,hy,rfl⟩:=o2 j hj;exact hnew x (.inr ⟨y,hy,hx⟩)
def B6z (cs:List Ai) (dst:Option Tmp) (s:AS):AS:=
 match Gc cs {s with next:=s.next+1} with
 |(zs,s')=>({s' with boxes:=⟨s.next,zs⟩::s'.boxes}:AS).put dst (.box s.next 0)
theorem Xn {B:Be}{Q:Exit→Act→World→Prop}{f:FuncId}{xs:List AV}{dst:Option Tmp}{K:List KI}{s:AS}{pins:List (Ai×Value)}{ins:List Gy}{ι:Type}{φ:ι→Prop}{cs:ι→List Ai}
  (hf:A42 P f pins ins φ cs)(hp:M6 B pins)(hx:P9 s xs=some ins)(h:∀i,φ i→GW P B Q K (B6z (cs i) dst s)):CW P B Q false f xs dst K s:=by
 refine ⟨⟨hf.1,fun E a w hs vs hl hv=>?_⟩⟩;obtain ⟨h1,h2⟩:=Pa hx;refine (hf.2 w vs Ad (hp.now hs (fun _ h=>h.elim)) (fun i x hi=>?_)).mono (fun e w' ⟨i,hi,hg⟩=>?_)
 ·obtain ⟨y,hy,hc⟩:=h2 i x hi
  exact S3 hs hc (hv i y hy)
 obtain ⟨hb,b,nvs,ty,fp,rfl,hge,hheap,ho,hnd,hbn,hfr⟩:=hg;have hA:=hs.call hb
 let E1:E7:=E.with s.next b
 have kE:=E7.with_keep E s.next b
 have hA1:({s with next:=s.next+1}:AS).isA B E1 (fun b=>s.avoid E b∨w.heap.size≤b) a w':=by
  have mv:∀x v,Dr E w' (fun b=>s.avoid E b∨w.heap.size≤b) s.next x v→Dr E1 w' (fun b=>s.avoid E b∨w.heap.size≤b) (s.next+1) x v:=fun x v hx=>hx.move (Nat.le_succ _) kE (fun _ _ _=>rfl) (fun _ _ h=>h);have kb:∀x∈s.boxes,E1.β x.key=E.β x.key:=fun x hx=>(kE _ (hs.boxes x hx).1).1
  have av:∀c,({s with next:=s.next+1}:AS).avoid E1 c→s.avoid E c:=by
   rintro c (⟨x,hx,hc⟩|hc)
   ·exact .inl ⟨x,hx,by rw [←kb x hx];exact hc⟩
   exact .inr hc
  refine ⟨hA.defers,fun p hp=>⟨Nat.lt_succ_of_lt (hA.links p hp).1,by rw [(kE _ (hA.links p hp).1).2];exact (hA.links p hp).2⟩,hA.size,fun i x hx=>mv _ _ (hA.slots i x hx),fun x hx=>?_,fun x hx y hy e=>hA.boxes2 x hx y hy (by rw [←kb x hx,←kb y hy];exact e),hA.keys,fun y hy=>?_,hA.ownkeys,hA.sep,fun x hx y hy=>?_,fun k hk=>?_,hA.base,fun c hc=>hA.fresh c (av c hc),fun c hc=>hA.sub c (av c hc)⟩
  ·obtain ⟨g1,ws,ty',g2,g3,g4⟩:=hA.boxes x hx
   exact ⟨Nat.lt_succ_of_lt g1,ws,ty',by rw [kb x hx];exact g2,g3,fun i y hy=>mv _ _ (g4 i y hy)⟩
  ·obtain ⟨g1,g2,g3⟩:=hA.own y hy
   exact ⟨Nat.lt_succ_of_lt g1,by rw [(kE _ g1).2];exact g2,g3⟩
  ·rw [kb x hx]
   exact hA.sepB x hx y hy
  by_cases e:k=s.next
  ·subst e;simp [E1,E7.with,Value.oneCell']
  have hk':k<s.next:=by have:k<s.next+1:=hk;omega
  rw [(kE _ hk').2];exact hA.one k hk'
 have nav:∀c,w.heap.size≤c→¬ ({s with next:=s.next+1}:AS).avoid E1 c:=by
  intro c hc hav
  have:s.avoid E c:=by
   rcases hav with ⟨x,hx,hc'⟩|hc'
   ·exact .inl ⟨x,hx,by rw [←(kE _ (hs.boxes x hx).1).1];exact hc'⟩
   exact .inr hc'
  have:=hs.avoid_lt this
  omega
 obtain ⟨vs',fps,e1,hvl,hr,rfl⟩:=ho;obtain rfl:nvs=vs':=by simpa using e1
 obtain ⟨E2,hAd,hL,hD⟩:=Zh (cs i) nvs fps {s with next:=s.next+1} E1 hA1 hvl hr hnd (fun c hc=>⟨.inr (hfr c hc),nav c (hfr c hc),.inl (Nat.le_trans hs.base.size (hfr c hc))⟩);have hkk:s.next<(Gc (cs i) {s with next:=s.next+1}).2.next:=Nat.lt_of_lt_of_le (Nat.lt_succ_self _) hAd.next;have hβ:E2.β s.next=b:=by rw [(hAd.keep s.next (Nat.lt_succ_self _)).1];exact E7.with_self _ _ _
 have hbx:(Gc (cs i) {s with next:=s.next+1}).2.boxes=s.boxes:=Qv _ _
 have hB1:=hAd.isA.addBox (k:=s.next) hkk (fun x hx e=>by
  rw [hbx] at hx
  have:=(hs.boxes x hx).1
  omega) (cells:=(Gc (cs i) {s with next:=s.next+1}).1) (vs:=nvs.toArray) (ty:=ty) (by rw [hβ];exact hheap) (by simp [hL,hvl])
  (fun j y hy=>by
   have:=hD j y hy
   rwa [show nvs.toArray.getD j undef=nvs.getD j undef by rw [←Cg]]) (by
   rw [hβ];intro hav
   rcases hAd.avoid b hav with h|h
   ·exact nav b hge h
   exact hbn h) (by rw [hβ];exact .inr hge) (by rw [hβ];exact .inl (Nat.le_trans hs.base.size hge))
 have hres:=Dr.box (E:=E2) (w:=w') (A:=fun b=>s.avoid E b∨w.heap.size≤b) (N:=(Gc (cs i) {s with next:=s.next+1}).2.next) (k:=s.next) 0 hkk;rw [hβ] at hres;have h:=h i hi;unfold B6z at h;exact ⟨_,rfl,(fun h=>by cases h),h.rec fun g=>g E2 _ w' ((hB1.put dst hres).is)⟩
theorem C44 (hT:Cs P T){B:Be}{pins:List (Ai×Value)}(hF:M6 B pins){Q:Exit→Act→World→Prop}{q:Bool}{all:Array Oper}{o:Oper}{rest:List Oper}{K:List KI}{s:AS}{x y:Operand}{t e:TypeId}{i i':TI}(j:Nat){n es:Nat}{row:Nat→List Ai}{v:Value}{ik:IntKind}{m:Int}
  (hj:pins[j]? =some (.sl n es row,v))(hg:o.guard=none)(ho:o.op= .indexAddr t x y)(hi:find T t=some i)(he:i.elem=some e)(hi':find T e=some i')(hes:Nat.beq i'.size es=true)(hx:s.ev x= .c (.val v))(hy:s.ev y= .c (.val (.int ik m)))(hm:0≤m∧m<(n:Int))
  (h:GW P B Q (.ops q all rest::K) (s.put o.dst (.el n es row m 0))):GW P B Q (.ops q all (o::rest)::K) s:=by
 refine ⟨Er hg (fun E a w hs=>?_)⟩;have hrep:Qi w (s.avoid E) (.sl n es row) v:=hF.now hs (fun _ h=>h) _ (List.mem_of_getElem? hj);have hdx:=hs.ev x;rw [hx] at hdx;have hdy:=hs.ev y;rw [hy] at hdy;have ex:=Bo hdx;have ey:=Bo hdy;have hes:=Nat.eq_of_beq_eq_true hes;have hund:=Cm (hT t i hi) he;have hel:P.elem t=e:=by simp [Program.elem,hund]
 obtain ⟨dst,op',ty,pos,after,guard⟩:=o
 simp only at ho
 subst ho
 have main:∀(u:Value),v=u→Qi w (s.avoid E) (.sl n es row) u→∃r,(∀w',Ez w w'→(execOp a.eval ⟨dst,.indexAddr t x y,ty,pos,after,guard⟩).run P w'= .ok (.value r) w')∧Dr E w (s.avoid E) s.next (.el n es row m 0) r:=by
  intro u hu hr
  cases hr with
  |nil=>exfalso;have:=hm.2;have:=hm.1;simp at *;omega
  |emp=>exfalso;have:=hm.2;have:=hm.1;simp at *;omega
  |sl _ _ _ b off cap u' hA hn hc hl hu' hr=>
   refine ⟨.pointer (some ⟨b,off+m.toNat * es+0,none⟩),fun w' _=>?_,.el 0 b off cap (.sl n es row b off cap u' hA hn hc hl hu' hr) hm.1 hm.2⟩
   have:=run_indexAt_slice (P:=P) w' t ⟨b,off,none⟩ n cap ik m (by rw [hel];exact hund)
   rw [if_pos hm,hel,C0 (hT _ _ hi')] at this;simp only [Result.andThen_ok,Hh] at this;simp only [execOp,ex,hu,ey,Sem.run_bind,this,Result.andThen_ok,hes];rfl
 obtain ⟨r,h1,h2⟩:=main v rfl hrep;exact ⟨r,h1,h.rec fun g=>g E _ w (hs.put dst h2)⟩
theorem B69 (x c:Int)(h0:0≤c)(h1:c≤4611686018427387904):∃r:Int,(∀w,(Op.intBits .and .i64 x c).run P w= .ok (.int .i64 r) w)∧0≤r∧r≤c:=by
 refine ⟨IntKind.i64.wrap (BitVec.ofInt 64 x&&& BitVec.ofInt 64 c).toNat,fun w=>rfl,?_⟩
 have hle:(BitVec.ofInt 64 x&&& BitVec.ofInt 64 c).toNat≤c.toNat:=by
  rw [BitVec.toNat_and];refine Nat.le_trans Nat.and_le_right ?_;rw [BitVec.toNat_ofInt];omega
 have:((BitVec.ofInt 64 x&&& BitVec.ofInt 64 c).toNat:Int)≤c:=by omega
 rw [IntKind.wrap_i64];omega
theorem C3f {B:Be}{Q:Exit→Act→World→Prop}{q:Bool}{all:Array Oper}{o:Oper}{rest:List Oper}{K:List KI}{s:AS}{x y:Operand}{t g:TypeId}{m c:Int}
  (hg:o.guard=none)(ho:o.op= .binOp .and t x y g)(hx:s.ev x= .c (.val (.int .i64 m)))(hy:s.ev y= .c (.val (.int .i64 c)))(h0:0≤c)(h1:c≤4611686018427387904)
  (h:∀r:Int,0≤r→r≤c→GW P B Q (.ops q all rest::K) (s.put o.dst (.c (.val (.int .i64 r))))):GW P B Q (.ops q all (o::rest)::K) s:=by
 refine ⟨Er hg (fun E a w hs=>?_)⟩;have hdx:=hs.ev x;rw [hx] at hdx;have hdy:=hs.ev y;rw [hy] at hdy;have ex:=Bo hdx;have ey:=Bo hdy;obtain ⟨dst,op',ty,pos,after,guard⟩:=o
 simp only at ho
 subst ho;obtain ⟨r,r1,r2,r3⟩:=B69 (P:=P) m c h0 h1;refine ⟨.int .i64 r,fun w' _=>?_,(h r r2 r3).rec fun g=>g E _ w (hs.put dst (.c (.val _ rfl)))⟩;have hb:binOp .and t (.int .i64 m) (.int .i64 c)=Op.intBits .and .i64 m c:=by simp [binOp]
 simp only [execOp,ex,ey,Sem.run_bind,Nr,Result.andThen_ok,hb,r1];rfl
theorem C6f {B:Be}{Q:Exit→Act→World→Prop}{q:Bool}{all:Array Oper}{o:Oper}{rest:List Oper}{K:List KI}{s:AS}{x y:Operand}{t g:TypeId}{m c:Int}
  (hg:o.guard=none)(ho:o.op= .binOp .xor t x y g)(hx:s.ev x= .c (.val (.int .i64 m)))(hy:s.ev y= .c (.val (.int .i64 c)))
  (h:∀r:Int,GW P B Q (.ops q all rest::K) (s.put o.dst (.c (.val (.int .i64 r))))):GW P B Q (.ops q all (o::rest)::K) s:=by
 refine ⟨Er hg (fun E a w hs=>?_)⟩;have hdx:=hs.ev x;rw [hx] at hdx;have hdy:=hs.ev y;rw [hy] at hdy;have ex:=Bo hdx;have ey:=Bo hdy;obtain ⟨dst,op',ty,pos,after,guard⟩:=o
 simp only at ho
 subst ho
 have hr:∀w,(binOp .xor t (.int .i64 m) (.int .i64 c)).run P w= .ok (.int .i64 (IntKind.i64.wrap (BitVec.ofInt 64 m ^^^ BitVec.ofInt 64 c).toNat)) w:=fun w=>by
  have hb:binOp .xor t (.int .i64 m) (.int .i64 c)=Op.intBits .xor .i64 m c:=by simp [binOp]
  rw [hb];rfl
 refine ⟨_,fun w' _=>?_,(h (IntKind.i64.wrap (BitVec.ofInt 64 m ^^^ BitVec.ofInt 64 c).toNat)).out E _ w (hs.put dst (.c (.val _ rfl)))⟩;simp only [execOp,ex,ey,Sem.run_bind,Nr,Result.andThen_ok,hr];rfl
theorem C5m {B:Be}{Q:Exit→Act→World→Prop}{q:Bool}{all:Array Oper}{o:Oper}{rest:List Oper}{K:List KI}{s:AS}{x y:Operand}{t g:TypeId}{m c:Int}{kc:IntKind}
  (hg:o.guard=none)(ho:o.op= .binOp .shr t x y g)(hx:s.ev x= .c (.val (.int .i64 m)))(hy:s.ev y= .c (.val (.int kc c)))(hc:0≤c)
  (h:∀r:Int,GW P B Q (.ops q all rest::K) (s.put o.dst (.c (.val (.int .i64 r))))):GW P B Q (.ops q all (o::rest)::K) s:=by
 refine ⟨Er hg (fun E a w hs=>?_)⟩;have hdx:=hs.ev x;rw [hx] at hdx;have hdy:=hs.ev y;rw [hy] at hdy;have ex:=Bo hdx;have ey:=Bo hdy;obtain ⟨dst,op',ty,pos,after,guard⟩:=o
 simp only at ho
 subst ho
 have hr:∀w,(binOp .shr t (.int .i64 m) (.int kc c)).run P w= .ok (.int .i64 (m.fdiv (2 ^ min c.toNat 64))) w:=fun w=>by
  have:¬ c<0:=by omega
  simp [binOp,Op.shift,this,IntKind.bits]
 refine ⟨_,fun w' _=>?_,(h (m.fdiv (2 ^ min c.toNat 64))).out E _ w (hs.put dst (.c (.val _ rfl)))⟩;simp only [execOp,ex,ey,Sem.run_bind,Nr,Result.andThen_ok,hr];rfl
end Go.Sx
set_option maxRecDepth 100000
namespace Go.Sx
open Go
variable {P : Program} {T : List (TypeId × TI)}
def QN (N:Act→World→Prop):Exit→Act→World→Prop
 | .normal,a,w=>N a w
 |_,_,_=>False
def QF:Exit→Act→World→Prop:=fun _ _ _=>False
inductive AW (P:Program) (B:Be) (N:Act→World→Prop) (ops:Array Oper) (fuel:Nat) (listed:Array Bool) (s:AS):Prop
 |mk (h:∀E a w,s.is B E a w→wpAny P .any ops (QN N) fuel listed a w):AW P B N ops fuel listed s
theorem AW.out {B:Be}{N:Act→World→Prop}{ops:Array Oper}{fuel:Nat}{listed:Array Bool}{s:AS}(h:AW P B N ops fuel listed s):∀E a w,s.is B E a w→wpAny P .any ops (QN N) fuel listed a w:=h.rec fun h=>h
theorem Oper.wp_Q {o:Oper}{a:Act}{w:World}{K:Act→World→Prop}{Q Q':Exit→Act→World→Prop}(hq:∀e a w,e≠ .normal→Q e a w→Q' e a w)(h:o.wp P a w K Q):o.wp P a w K Q':=by
 have hl:LetsOut Q→LetsOut Q':=fun ⟨a,w,h⟩=>⟨a,w,hq _ _ _ C8 h⟩
 unfold Oper.wp at *;generalize (execOp a.eval o).run P w=r at *
 cases r with
 |ok n w'=>
  cases n<;>simp only [Oper.upon] at h ⊢ <;>
   first
    |exact h
    |exact Calls.mono h (fun e w'' he=>by cases e<;>first|exact he|exact hq _ _ _ C8 he|exact hl he)
 |halt x w'=>cases x<;>simp only [Oper.upon] at h ⊢ <;>first|exact h|exact hq _ _ _ C8 h
theorem B38 {ops:Array Oper}{Q Q':Exit→Act→World→Prop}(hq:∀e a w,Q e a w→Q' e a w):∀(fuel:Nat) (listed:Array Bool) (a:Act) (w:World),wpAny P .any ops Q fuel listed a w→wpAny P .any ops Q' fuel listed a w
 | 0,_,_,_,h=>⟨h.1,hq _ _ _ h.2⟩
 |fuel+1,listed,a,w,h=>⟨fun h0=>hq _ _ _ (h.1 h0),fun i hi=>by
   have:=wpOp_mono (fun a w=>B38 hq fuel _ a w) (h.2 i hi)
   have hl:LetsOut Q→LetsOut Q':=fun ⟨a,w,h⟩=>⟨a,w,hq _ _ _ h⟩
   unfold wpOp at *
   split
   ·rename_i ho;simpa only [ho] using this
   rename_i o ho
   simp only [ho] at this
   split
   ·rename_i hw;simp only [hw,if_true] at this;exact this.imp (Oper.wp_Q fun e a w _=>hq e a w) (fun ⟨h1,h2⟩=>⟨h1,hl h2⟩)
   rename_i hw;rw [if_neg hw] at this;exact this⟩
theorem Gs (hm:P.follows .mixedOrders=true){B:Be}{Q:Exit→Act→World→Prop}{id:Nat}{ops:Array Oper}{K:List KI}{s:AS}(h:AW P B (fun a w=>D5 P Q K .normal a w) ops ops.size (Array.replicate ops.size false) s):GW P B Q (.code (.region id ops true)::K) s:=
 ⟨fun E a w hs=>wp_region_any hm (B38 (fun e a w he=>by cases e<;>first|exact he|exact he.elim) _ _ _ _ (h.out E a _ (hs.call (w':= {w with drawn:=w.drawn+1}) ⟨rfl,rfl,rfl,Nat.le_refl _,fun _ _=>rfl,Nat.le_succ _⟩).is))⟩
theorem Gr {B:Be}{Q:Exit→Act→World→Prop}{ops:Array Oper}{K:List KI}{s:AS}{listed:Array Bool}(hr:(Region.ready .any ops listed).isEmpty=true)(h:GW P B Q K s):AW P B (fun a w=>D5 P Q K .normal a w) ops 0 listed s:=
 ⟨fun E a w hs=>⟨by simpa using hr,h.out E a w hs⟩⟩
def B61 (P:Program) (B:Be) (N:Act→World→Prop) (ops:Array Oper) (fuel:Nat) (listed:Array Bool) (s:AS):List Nat→Prop
 | []=>True
 |i::r=>(match ops[i]? with
  |some o=>GW P B QF [.ops false ops [o],.loop (fun a w=>wpAny P .any ops (QN N) fuel (listed.setIfInBounds i true) a w)] s
  |none=>False)∧B61 P B N ops fuel listed s r
theorem B4e {B:Be}{N:Act→World→Prop}{ops:Array Oper}{fuel:Nat}{listed:Array Bool}{s:AS}{l:List Nat}(h:B61 P B N ops fuel listed s l){i:Nat}(hi:i∈l):
  ∃o,ops[i]? =some o∧GW P B QF [.ops false ops [o],.loop (fun a w=>wpAny P .any ops (QN N) fuel (listed.setIfInBounds i true) a w)] s:=by
 induction l with
 |nil=>simp at hi
 |cons j r ih=>
  obtain ⟨h1,h2⟩:=h
  rcases List.mem_cons.1 hi with rfl|hi
  ·split at h1
   ·rename_i o ho;exact ⟨o,ho,h1⟩
   exact h1.elim
  exact ih h2 hi
def eqL (a b:List Nat):Bool:=
 match a,b with
 | [],[]=>true
 |x::a,y::b=>match Nat.beq x y with
  |true=>eqL a b
  |false=>false
 |_,_=>false
theorem B7z {a b:List Nat}(h:eqL a b=true):a=b:=by
 induction a generalizing b with
 |nil=>cases b<;>simp_all [eqL]
 |cons x a ih=>
  cases b with
  |nil=>simp [eqL] at h
  |cons y b=>
   unfold eqL at h
   split at h
   ·rename_i e;rw [Nat.eq_of_beq_eq_true e,ih h]
   simp at h
theorem A5 {B:Be}{N:Act→World→Prop}{ops:Array Oper}{fuel:Nat}{listed:Array Bool}{s:AS}(l:List Nat)(hr:(eqL (Region.ready .any ops listed) l&&!l.isEmpty)=true)(h:B61 P B N ops fuel listed s l):AW P B N ops (fuel+1) listed s:=by
 simp only [Bool.and_eq_true,Bool.not_eq_true'] at hr;have hr1:=B7z hr.1;refine ⟨fun E a w hs=>⟨fun h0=>?_,fun i hi=>?_⟩⟩
 ·rw [hr1] at h0
  rw [h0] at hr
  simp at hr
 rw [hr1] at hi;obtain ⟨o,ho,hg⟩:=B4e h hi
 have:=hg.out E a w hs
 change wpList P ops (Exit.then _ QF) [o] a w at this
 unfold wpList at this;unfold wpOp;simp only [ho]
 split
 ·rename_i hw
  rw [if_pos hw] at this;refine .inl ?_
  rcases this with h1|⟨_,a',w',h1⟩
  ·exact Oper.wp_Q (fun e a w hne he=>by cases e<;>first|exact absurd rfl hne|exact he.elim) h1
  exact h1.elim
 rename_i hw
 rw [if_neg hw] at this;exact this
theorem Ag {B:Be}{N:Act→World→Prop}{ops:Array Oper}{fuel:Nat}{listed:Array Bool}{s:AS}(h:AW P B N ops fuel listed s):GW P B QF [.loop (fun a w=>wpAny P .any ops (QN N) fuel listed a w)] s:=
 ⟨fun E a w hs=>h.out E a w hs⟩
def A6h:Op→Bool
 | .move _=>true
 | .assign _=>true
 | .binOp _ _ _ _ _=>true
 | .fieldAddr _ _ _=>true
 | .nilCheck _=>true
 |_=>false
theorem A4q (hT:Cs P T){wr:Bool}{s:AS}{op:Op}{ps:List Prop}{x:AV}(hp0:A6h op=true)(hs:step T wr s op= .ok ps x)(hp:∀p∈ps,p){B:Be}{E:E7}{a:Act}{w:World}(h:s.is B E a w)
  (o:Oper)(ho:o.op=op):∃v,(∀w',(execOp a.eval o).run P w'= .ok (.value v) w')∧Dr E w (s.avoid E) s.next x v:=by
 obtain ⟨dst,op',ty,pos,after,guard⟩:=o
 simp only at ho
 subst ho
 cases op'<;>simp only [A6h,Bool.false_eq_true] at hp0
 case move y=>
  simp only [step,Fu.ok.injEq] at hs;obtain ⟨rfl,rfl⟩:=hs;exact ⟨a.eval y,fun w'=>by simp [execOp],h.ev y⟩
 case assign y=>
  simp only [step,Fu.ok.injEq] at hs;obtain ⟨rfl,rfl⟩:=hs;exact ⟨a.eval y,fun w'=>by simp [execOp],h.ev y⟩
 case binOp b t y z g=>
  simp only [step] at hs;obtain ⟨r,h1,h2⟩:=B68 hT hs hp (h.ev y) (h.ev z) y z;refine ⟨r,fun w'=>?_,h2⟩;have h1:=h1 w';simp only [execOp,Sem.run_bind];simp only [Sem.run_bind] at h1;rw [h1];rfl
 case fieldAddr t y f=>
  simp only [step] at hs;have hy:=h.ev y
  split at hs
  ·rename_i o u hf
   split at hs
   ·rename_i k off hsz e
    obtain ⟨j,hj,hjs⟩:=Option.map_eq_some_iff.1 hsz;rw [e] at hy;simp only [Fu.ok.injEq] at hs;obtain ⟨rfl,rfl⟩:=hs;generalize hv:a.eval y=v at hy
    cases hy with
    |box _ hk=>exact ⟨_,fun w'=>by simp only [execOp,hv,Sem.run_bind,K3 hT hf hj (Nat.le_of_ble_eq_true hjs),Result.andThen_ok];rfl,.box _ hk⟩
   ·rename_i n es row j' off hsz e
    obtain ⟨j,hj,hjs⟩:=Option.map_eq_some_iff.1 hsz;rw [e] at hy;simp only [Fu.ok.injEq] at hs;obtain ⟨rfl,rfl⟩:=hs;generalize hv:a.eval y=v at hy
    cases hy with
    |el _ b o' cap hr h0 hi=>exact ⟨_,fun w'=>by simp only [execOp,hv,Sem.run_bind,K3 hT hf hj (Nat.le_of_ble_eq_true hjs),Result.andThen_ok];rfl,by rw [Nat.add_assoc];exact .el _ b o' cap hr h0 hi⟩
   ·rename_i k es j' off hsz e
    obtain ⟨j,hj,hjs⟩:=Option.map_eq_some_iff.1 hsz;rw [e] at hy;simp only [Fu.ok.injEq] at hs;obtain ⟨rfl,rfl⟩:=hs;generalize hv:a.eval y=v at hy
    cases hy with
    |oel _ b o' n cap hk hov h0 hi=>exact ⟨_,fun w'=>by simp only [execOp,hv,Sem.run_bind,K3 hT hf hj (Nat.le_of_ble_eq_true hjs),Result.andThen_ok];rfl,by rw [Nat.add_assoc];exact .oel _ b o' n cap hk hov h0 hi⟩
   simp at hs
  simp at hs
 case nilCheck y=>
  simp only [step] at hs;have hy:=h.ev y
  split at hs
  ·rename_i k off e
   rw [e] at hy;simp only [Fu.ok.injEq] at hs;obtain ⟨rfl,rfl⟩:=hs;generalize hv:a.eval y=v at hy
   cases hy with
   |box _ hk=>exact ⟨_,fun w'=>by simp only [execOp,hv];rfl,.box _ hk⟩
  ·rename_i n es row j off e
   rw [e] at hy;simp only [Fu.ok.injEq] at hs;obtain ⟨rfl,rfl⟩:=hs;generalize hv:a.eval y=v at hy
   cases hy with
   |el _ b o' cap hr h0 hi=>exact ⟨_,fun w'=>by simp only [execOp,hv];rfl,.el _ b o' cap hr h0 hi⟩
  ·rename_i k es j off e
   rw [e] at hy;simp only [Fu.ok.injEq] at hs;obtain ⟨rfl,rfl⟩:=hs;generalize hv:a.eval y=v at hy
   cases hy with
   |oel _ b o' n cap hk hov h0 hi=>exact ⟨_,fun w'=>by simp only [execOp,hv];rfl,.oel _ b o' n cap hk hov h0 hi⟩
  simp at hs
def C42 (ops:Array Oper) (listed:Array Bool) (i:Nat) (oi:Oper):Bool:=
 (List.range ops.size).all fun j=>j==i||listed.getD j true||match ops[j]? with
  |some oj=>(oj.after.toList.any fun e=>Region.binds .any e&&e.on==i)||oi.apart ops oj
  |none=>true
theorem Bt (hT:Cs P T)(wr:Bool){B:Be}{N:Act→World→Prop}{ops:Array Oper}{fuel:Nat}{listed:Array Bool}{s:AS}(i:Nat){o:Oper}(hi:ops[i]? =some o)(hg:o.guard=none)(hk:A6h o.op=true)
  (hb:(Region.noSelect ops&&(Region.ready .any ops listed).contains i&&C42 ops listed i o)=true){ps:List Prop}{x:AV}(hst:step T wr s o.op= .ok ps x)(hp:∀p∈ps,p)
  (h:AW P B N ops fuel (listed.setIfInBounds i true) (s.put o.dst x)):AW P B N ops (fuel+1) listed s:=by
 simp only [Bool.and_eq_true,List.contains_iff_mem] at hb;obtain ⟨⟨h1,h2⟩,h3⟩:=hb;refine ⟨fun E a w hs=>?_⟩;obtain ⟨v,hv,hd⟩:=A4q hT hk hst hp hs o rfl;refine wpAny_first hi (Region.noSelect_spec h1) (fun c a w hq=>hq) fuel listed a w (fun j oj hoj hji hun hno=>?_) h2 (.inl ⟨by simp [Region.wanted,hg],hv⟩) (h.out E _ w (hs.put o.dst hd))
 have:=List.all_eq_true.1 h3 j (List.mem_range.2 (Array.getElem?_eq_some_iff.1 hoj).1)
 simp only [hoj,hun,Bool.or_false,Bool.or_eq_true,beq_iff_eq,hji,false_or,List.any_eq_true,Bool.and_eq_true] at this
 rcases this with ⟨e,he,hb,hon⟩|h
 ·exact absurd hon (hno e (Array.mem_toList_iff.1 he) hb)
 exact h
def C4x (ps:List Prop):Prop:=
 match ps with
 | []=>True
 |p::r=>p∧C4x r
theorem A4 {ps:List Prop}(h:C4x ps):∀p∈ps,p:=by
 induction ps with
 |nil=>simp
 |cons q r ih=>
  intro p hp
  rcases List.mem_cons.1 hp with rfl|hp
  ·exact h.1
  exact ih h.2 p hp
theorem Fx {B:Be}{Q:Exit→Act→World→Prop}{q:Bool}{f:FuncId}{xs:List AV}{dst:Option Tmp}{K:List KI}{s:AS}(k:Nat)(c':Ai){c:Ai}(hk:Cb s.own k=some c)(hc:Ii c c')
  (h:CW P B Q q f xs dst K {s with own:=Ht s.own k c'}):CW P B Q q f xs dst K s:=by
 obtain ⟨h0,h⟩:=h;refine ⟨⟨h0,fun E a w hs vs hl hv=>?_⟩⟩;have hm:=Cp hk
 have av:∀b,({s with own:=Ht s.own k c'}:AS).avoid E b→s.avoid E b:=by
  rintro b (hb|⟨y,hy,hb⟩)
  ·exact .inl hb
  obtain ⟨z,hz,e⟩:=H8 hy;exact .inr ⟨z,hz,by rw [e];exact hb⟩
 have mv:∀x v,Dr E w (s.avoid E) s.next x v→Dr E w (({s with own:=Ht s.own k c'}:AS).avoid E) s.next x v:=fun x v hx=>
  hx.move (Nat.le_refl _) (fun _ _=>⟨rfl,rfl⟩) (fun _ _ _=>rfl) (fun b _ hb=>av b hb)
 refine h E a w ⟨hs.defers,hs.links,hs.size,fun i x hx=>mv _ _ (hs.slots i x hx),fun x hx=>?_,hs.boxes2,hs.keys,fun y hy=>?_,by rw [U8];exact hs.ownkeys,fun y hy z hz hne=>?_,fun x hx y hy=>?_,hs.one,hs.base,fun b hb=>hs.fresh b (av b hb)⟩ vs hl (fun i x hx=>mv _ _ (hv i x hx))
 ·obtain ⟨h1,vs,ty,h2,h3,h4⟩:=hs.boxes x hx
  exact ⟨h1,vs,ty,h2,h3,fun i y hy=>mv _ _ (h4 i y hy)⟩
 ·rcases Sj hy with ⟨h1,h2,_⟩|⟨h1,_⟩
  ·obtain ⟨g1,g2,g3⟩:=hs.own _ hm
   rw [h1,h2];exact ⟨g1,hc.own g2,g3⟩
  exact hs.own y h1
 ·obtain ⟨y',hy',e1⟩:=H8 hy
  obtain ⟨z',hz',e2⟩:=H8 hz;rw [←e1,←e2];exact hs.sep y' hy' z' hz' (by rw [e1,e2];exact hne)
 obtain ⟨y',hy',e1⟩:=H8 hy;rw [←e1];exact hs.sepB x hx y' hy'
def A6n {α:Type} (e:α→List Ai) (row:Nat→List Ai):Nat→List α→Prop
 |_,[]=>True
 |k,x::r=>row k=e x∧A6n e row (k+1) r
theorem Y6 {α:Type} [Inhabited α] {e:α→List Ai}{row:Nat→List Ai}:∀{k:Nat} {xs:List α},A6n e row k xs→∀i,i<xs.length→row (k+i)=e (xs.getD i default)
 |_,[],_,i,hi=>by simp at hi
 |k,x::r,h,0,_=>h.1
 |k,x::r,h,i+1,hi=>by
  have:=Y6 h.2 i (by simpa using hi)
  rw [show k+(i+1)=k+1+i by omega]
  simpa using this
theorem Bu {α:Type} [Inhabited α] {n es:Nat}{e:α→List Ai}{row:Nat→List Ai}{xs:List α}(hn:n=xs.length)(h:A6n e row 0 xs):Ii (.sl n es row) (Kv es e xs):=by
 subst hn;refine A7o fun i hi=>?_
 have:=Y6 h i hi
 rw [Nat.zero_add] at this;rw [this];exact Gb.rfl' _
theorem Sg (l:List Ow):Bz [] l=l:=by
 induction l with
 |nil=>rfl
 |cons x r ih=>exact congrArg (x:: ·) ih
theorem A3w (s:AS):N0 [] s=s:=by
 obtain ⟨n,sl,bx,ow,lk⟩:=s;exact congrArg (fun o=>AS.mk n sl bx o lk) (Sg ow)
theorem C54 {B:Be}{Q:Exit→Act→World→Prop}{f:FuncId}{xs:List AV}{dst:Option Tmp}{K:List KI}{s:AS}{ins:List Gy}{ι:Type}{φ:ι→Prop}{outs:ι→List Gy}
  (hf:J6 P (fun _=>True) f [] [] ins φ outs)(hx:Zn s.own xs=some ins)(h:∀i,φ i→GW P B Q K ((Iq (outs i) s).2.put dst (Iq (outs i) s).1)):CW P B Q false f xs dst K s:=
 A7n [] hf (fun _ _=>trivial) (fun p hp=>by cases hp) trivial rfl (by
  rw [show Bz (([]:List AV).flatMap E9) s.own=s.own from Sg _];exact hx) (fun i hi=>by
  have:=h i hi
  rw [show N0 (([]:List AV).flatMap E9) s=s from A3w s]
  exact this)
theorem B2v {B:Be}{Q:Exit→Act→World→Prop}{K:List KI}{s:AS}(n:Nat)(h:GW P B Q K {s with next:=s.next+n}):GW P B Q K s:=by
 refine ⟨fun E a w hs=>?_⟩
 let E':E7:=⟨fun k=>if k<s.next then E.ov k else .slice none 0 0,E.fp⟩
 have kE:∀k,k<s.next→E'.β k=E.β k∧E'.ov k=E.ov k:=fun k hk=>by
  have h:E'.ov k=E.ov k:=by simp [E',hk]
  exact ⟨E7.β_of h,h⟩
 have kb:∀x∈s.boxes,E'.β x.key=E.β x.key:=fun x hx=>(kE _ (hs.boxes x hx).1).1
 have av:∀b,({s with next:=s.next+n}:AS).avoid E' b→s.avoid E b:=by
  rintro b (⟨x,hx,hb⟩|hb)
  ·exact .inl ⟨x,hx,by rw [←kb x hx];exact hb⟩
  exact .inr hb
 have mv:∀x v,Dr E w (s.avoid E) s.next x v→Dr E' w (({s with next:=s.next+n}:AS).avoid E') (s.next+n) x v:=fun x v hx=>
  hx.move (Nat.le_add_right _ _) kE (fun _ _ _=>rfl) (fun b _ hb=>av b hb)
 refine h.out E' a w ⟨hs.defers,fun p hp=>⟨Nat.lt_of_lt_of_le (hs.links p hp).1 (Nat.le_add_right _ _),by rw [(kE _ (hs.links p hp).1).2];exact (hs.links p hp).2⟩,hs.size,fun i x hx=>mv _ _ (hs.slots i x hx),fun x hx=>?_,fun x hx y hy e=>hs.boxes2 x hx y hy (by rw [←kb x hx,←kb y hy];exact e),hs.keys,fun y hy=>?_,hs.ownkeys,hs.sep,fun x hx y hy=>?_,fun k _=>?_,hs.base,fun b hb=>hs.fresh b (av b hb)⟩
 ·obtain ⟨h1,vs,ty,h2,h3,h4⟩:=hs.boxes x hx
  exact ⟨Nat.lt_of_lt_of_le h1 (Nat.le_add_right _ _),vs,ty,by rw [kb x hx];exact h2,h3,fun i y hy=>mv _ _ (h4 i y hy)⟩
 ·obtain ⟨h1,h2,h3⟩:=hs.own y hy
  exact ⟨Nat.lt_of_lt_of_le h1 (Nat.le_add_right _ _),by rw [(kE _ h1).2];exact h2,h3⟩
 ·rw [kb x hx]
  exact hs.sepB x hx y hy
 simp only [E']
 split
 ·rename_i hk;exact hs.one k hk
 rfl
def A15 {α:Type} (e:α→List Ai) (row:Nat→List Ai):Nat→List α→Prop
 |_,[]=>True
 |k,x::r=>Gb (row k) (e x)∧A15 e row (k+1) r
theorem Vr {α:Type} [Inhabited α] {e:α→List Ai}{row:Nat→List Ai}:∀{k:Nat} {xs:List α},A15 e row k xs→∀i,i<xs.length→Gb (row (k+i)) (e (xs.getD i default))
 |_,[],_,i,hi=>by simp at hi
 |k,x::r,h,0,_=>h.1
 |k,x::r,h,i+1,hi=>by
  have:=Vr h.2 i (by simpa using hi)
  rw [show k+(i+1)=k+1+i by omega]
  simpa using this
theorem Hx {α:Type} [Inhabited α] {n es:Nat}{e:α→List Ai}{row:Nat→List Ai}{xs:List α}(hn:n=xs.length)(h:A15 e row 0 xs):Ii (.sl n es row) (Kv es e xs):=by
 subst hn;refine A7o fun i hi=>?_
 have:=Vr h i hi
 rwa [Nat.zero_add] at this
theorem Tm {B:Be}{Q:Exit→Act→World→Prop}{H:World→Prop}{f:FuncId}{xs:List AV}{dst:Option Tmp}{K:List KI}{s:AS}{pins:List (Ai×Value)}{ins:List Gy}{ι:Type}{φ:ι→Prop}{outs:ι→List Gy}
  (hf:J6 P H f pins [] ins φ outs)(hH:∀w,B.rel w→H w)(hp:M6 B pins)(hx:Zn s.own xs=some ins)(h:∀i,φ i→GW P B Q K ((Iq (outs i) s).2.put dst (Iq (outs i) s).1)):CW P B Q false f xs dst K s:=
 A7n [] hf hH hp trivial rfl (by
  rw [show Bz (([]:List AV).flatMap E9) s.own=s.own from Sg _];exact hx) (fun i hi=>by
  have:=h i hi
  rw [show N0 (([]:List AV).flatMap E9) s=s from A3w s]
  exact this)
theorem C3r (hT:Cs P T)(wr:Bool){f:FuncId}{fn:Func}{c:Code}{n es:Nat}{row:Nat→List Ai}{outs:List Gy}(hf:P.funcs[f]? =some fn)(hb:fn.body=some c)(hn:(fn.name== "runtime.NumGoroutine")=false)
  (h:∀W a cp,M6 ⟨W,fun _=>False⟩ [(.sl n es row,.slice a n cp)]→vcW P ⟨W,fun _=>False⟩ (bodyPost P fn fun e w'=>Lr W w' outs e) (Oz T wr 100000 [.code c] (start fn.ntmps [.one (.val (.slice a n cp))]))):B3 P f [.one (.sl n es row)] outs:=by
 refine ⟨⟨fn,hf,hn,by simp [hb]⟩,fun w vs hl hv=>?_⟩;have h0:Qi w (fun _=>False) (.sl n es row) (vs.getD 0 undef):=hv 0 _ rfl
 have hs:∃a cp,vs.getD 0 undef= .slice a n cp:=by
  generalize vs.getD 0 undef=v at h0
  cases h0 with
  |nil=>exact ⟨_,_,rfl⟩
  |emp=>exact ⟨_,_,rfl⟩
  |sl=>exact ⟨_,_,rfl⟩
 obtain ⟨a,cp,he⟩:=hs
 have hpin:M6 ⟨w,fun _=>False⟩ [(.sl n es row,.slice a n cp)]:=fun p hp=>by
  simp only [List.mem_singleton] at hp;subst hp;rw [←he];exact h0
 have hm:Z8 P (fun w'=>M6 ⟨w',fun _=>False⟩ [(.sl n es row,.slice a n cp)]) f [.one (.val (.slice a n cp))] outs:=
  B7y hT wr hf hb hn fun W hW=>h W a cp hW
 refine hm.2 w hpin vs (by simpa using hl) (fun i x hi=>?_)
 match i,hi with
 | 0,hi=>
  simp only [List.getElem?_cons_zero,Option.some.injEq] at hi;subst hi;rw [he];exact .val _ rfl
theorem E3.weak {H:World→Prop}{f:FuncId}{pins:List (Ai×Value)}{cs:List Ai}{ins:List Gy}{ι:Type}{φ φ':ι→Prop}{cs':ι→List Ai}{outs:ι→List Gy}(h:E3 P H f pins cs ins φ cs' outs)(hφ:∀i,φ i→φ' i):E3 P H f pins cs ins φ' cs' outs:=
 ⟨h.1,fun w b vs ty fp us h1 h2 h3 h4 h5 h6 h7 h8=>(h.2 w b vs ty fp us h1 h2 h3 h4 h5 h6 h7 h8).mono fun _ _ ⟨i,hi,hg⟩=>⟨i,hφ i hi,hg⟩⟩
theorem A0u {α:Type}{p:α→Prop}:∀(xs:List α) (k:Nat) (d:α),(∀x∈xs,p x)→p d→p (xs.getD k d)
 | [],_,_,_,hd=>hd
 |x::_,0,_,h,_=>h x C8
 |_::r,k+1,d,h,hd=>by simpa using A0u r k d (fun y hy=>h y (List.mem_cons_of_mem _ hy)) hd
end Go.Sx
set_option maxRecDepth 100000
namespace Go.Sx
open Go
variable {P : Program} {T : List (TypeId × TI)}
theorem B9q (hT:Cs P T){B:Be}{Q:Exit→Act→World→Prop}{q:Bool}{all:Array Oper}{o:Oper}{rest:List Oper}{K:List KI}{s:AS}{t e:TypeId}{x y:Operand}{i j:TI}
  (hg:o.guard=none)(ho:o.op= .slice t x none (some y) none)(hi':find T t=some i)(he:i.elem=some e)(hj:find T e=some j)
  {k n es:Nat}{row:Nat→List Ai}(hx:s.ev x= .own k)(hk:Cb s.own k=some (.sl n es row))(hes:es=j.size){ik:IntKind}{m:Int}(hy:s.ev y= .c (.val (.int ik m)))
  (hm:0≤m∧m≤n)(hn:0<n)(c:Ai)(hc:c= .sl m.toNat es row)
  (hgo:GW P B Q (.ops q all rest::K) (({s with own:=⟨s.next,c⟩::Bz [k] s.own,next:=s.next+1}:AS).put o.dst (.own s.next))):GW P B Q (.ops q all (o::rest)::K) s:=by
 subst hes hc;refine ⟨Er hg (fun E a w hs=>?_)⟩;have hmem:=Cp hk;obtain ⟨hklt,o2,o3⟩:=hs.own _ hmem
 simp only at o2 o3 hklt
 have hev:=hs.ev x;rw [hx] at hev;generalize hv:a.eval x=v at hev
 cases hev with
 |own _=>
  have hdy:=hs.ev y;rw [hy] at hdy;have ey:=Bo hdy
  have hav:∀z,z∈E.fp k→s.avoid E z∧¬ ({s with own:=Bz [k] s.own}:AS).avoid E z∧B.fresh z:=by
   intro z hz;have h1:s.avoid E z:= .inr ⟨_,hmem,hz⟩;refine ⟨h1,?_,hs.fresh z h1⟩
   rintro (⟨b,hb,rfl⟩|⟨u,hu,hz'⟩)
   ·exact hs.sepB b hb _ hmem hz
   obtain ⟨h2,h3⟩:=Cr.1 hu;exact hs.sep _ hmem u h2 (fun e=>h3 (by rw [←e];exact List.mem_singleton.2 rfl)) z hz hz'
  generalize hfp:E.fp k=fp at o2 o3 hav;generalize E.ov k=v at o2 hv
  cases o2 with
  |nil=>omega
  |emp=>omega
  |sl _ _ _ b off cap ty cells fps hnc hcap hb hs' hl hr=>
   have hsub:∀z,z∈b::(List.range (m.toNat * j.size)).flatMap fps→z∈b::(List.range (n * j.size)).flatMap fps:=fun z hz=>by
    rcases List.mem_cons.1 hz with rfl|hz
    ·exact List.mem_cons_self ..
    obtain ⟨l,hl',hz⟩:=List.mem_flatMap.1 hz;exact List.mem_cons_of_mem _ (Ek (Nat.lt_of_lt_of_le (List.mem_range.1 hl') (Nat.mul_le_mul_right _ Ad)) hz)
   have hnd:(b::(List.range (m.toNat * j.size)).flatMap fps).Nodup:=by
    have hle:m.toNat * j.size≤n * j.size:=Nat.mul_le_mul_right _ Ad;obtain ⟨r,hr'⟩:=Nat.exists_eq_add_of_le hle;rw [hr',List.range_add,List.flatMap_append] at o3;exact List.Sublist.nodup (List.Sublist.cons_cons _ (List.sublist_append_left _ _)) o3
   have ho':D3 w (.sl m.toNat j.size row) (.slice (some ⟨b,off * j.size,none⟩) m.toNat cap) (b::(List.range (m.toNat * j.size)).flatMap fps):=
    .sl m.toNat j.size row b off cap ty cells fps Ad hcap hb hs' (fun i hi=>hl i Ad) (fun i l c hi hc=>hr i l c Ad hc)
   obtain ⟨k1,k2⟩:=(hs.drop [k]).addOwn ho' hnd (fun z hz=>hav z (hsub z hz));refine ⟨_,fun w' _=>?_,hgo.rec fun g=>g _ _ _ ((k1.put o.dst k2).is)⟩;have hrun:=Yy (a:=some ⟨b,off * j.size,none⟩) (len:=n) (cap:=cap) (lo:=none) (hi':=some (.int ik m)) (hT t i hi') he (hT e j hj) (.inl ⟨rfl,rfl⟩) (.inr ⟨ik,rfl⟩) (Int.le_refl 0) hm.1 hm.2 hnc w';obtain ⟨dst,op',ty',pos,after,guard⟩:=o
   simp only at ho
   subst ho;have hcp:¬ cap=0:=by omega
   have hsl:sliced (some (⟨b,off * j.size,none⟩:Addr)) (Int.toNat 0) m.toNat cap j.size= .slice (some ⟨b,off * j.size,none⟩) m.toNat cap:=by
    unfold sliced
    simp [hcp,Addr.add]
   rw [hsl] at hrun
   simp [execOp,hv,ey,hrun]
end Go.Sx
set_option maxRecDepth 100000
namespace Go.Sx
open Go
variable {P : Program} {T : List (TypeId × TI)} {ops : Array Oper}
inductive FK where
 |emp (es:Nat)
 |rd (v:Value)
 |ra (vs:List Value)
structure Qq where
 i:Nat
 d:Tmp
 k:FK
def B3l (T:List (TypeId×TI)) (op:Op):Bool:=
 match op with
 | .buildSlice t 0 ps=>ps.isEmpty&&match find T t with
  |some i=>match i.elem with
   |some e=>(find T e).isSome
   |none=>false
  |none=>false
 |_=>false
theorem C08 (hT:Cs P T){o:Oper}(h:B3l T o.op=true)(ρ:Operand→Value)(w:World):∃ob,(execOp ρ o).run P w= .ok (.value (.slice (some ⟨w.heap.size,0,none⟩) 0 0)) (w.alloc ob):=by
 obtain ⟨dst,op,ty,pos,after,guard⟩:=o
 simp only at h
 unfold B3l at h
 split at h
 ·rename_i t ps
  simp only [Bool.and_eq_true] at h;obtain ⟨h1,h2⟩:=h
  split at h2
  ·rename_i i hi
   split at h2
   ·rename_i e he
    obtain ⟨j,hj⟩:=Option.isSome_iff_exists.1 h2;have hps:ps= #[]:=by simpa using h1
    subst hps;refine ⟨.cells #[] e,?_⟩
    have hrun:(Instr.buildSlice t 0 ((#[]:Array (Nat×Operand)).map fun p=>(p.1,ρ p.2))).run P w= .ok (.slice (some ⟨w.heap.size,0,none⟩) 0 0) (w.alloc (.cells #[] e)):=by
     simp [Instr.buildSlice,run_underlying (Cm (hT t i hi) he),C0 (hT e j hj),newRow,Array.range_zero',Instr.fill]
    simp only [execOp,Sem.run_bind,hrun,Result.andThen_ok];rfl
   simp at h2
  simp at h2
 simp at h
def C45 (v:Value):Prop:=∃b,v= .slice (some ⟨b,0,none⟩) 0 0
def isF (k:FK) (v:Value):Prop:=
 match k with
 | .emp _=>C45 v
 | .rd x=>v=x
 | .ra xs=>v= .agg xs.toArray
def C0t (fs:List Qq) (u:List Nat) (a:Act):Prop:=∀f∈fs,f.i∉u→isF f.k (a.tmps.getD f.d undef)
inductive FW (P:Program) (B:Be) (N:Act→World→Prop) (ops:Array Oper) (chain:List Nat) (fs:List Qq) (s:AS):Prop
 |mk (h:∀fuel listed u E a w,s.is B E a w→chain.length+u.length≤fuel→u.Nodup→
   (∀j o,ops[j]? =some o→listed.getD j false=false→j∈chain∨j∈u)→(∀c∈chain,listed.getD c true=false)→(∀j∈u,listed.getD j true=false)→
   (∀j∈u,∃f∈fs,f.i=j)→C0t fs u a→P8 P ops N fuel listed a w):FW P B N ops chain fs s
theorem FW.out {B:Be}{N:Act→World→Prop}{chain:List Nat}{fs:List Qq}{s:AS}(h:FW P B N ops chain fs s):∀fuel listed u E a w,s.is B E a w→chain.length+u.length≤fuel→u.Nodup→
   (∀j o,ops[j]? =some o→listed.getD j false=false→j∈chain∨j∈u)→(∀c∈chain,listed.getD c true=false)→(∀j∈u,listed.getD j true=false)→
   (∀j∈u,∃f∈fs,f.i=j)→C0t fs u a→P8 P ops N fuel listed a w:=h.rec fun h=>h
def B20 (ops:Array Oper) (l:List Edge) (bad:Nat→Bool):Bool:=l.all fun e=>!Region.binds .any e||(Nat.blt e.on ops.size&&!bad e.on)
def B22 (T:List (TypeId×TI)) (ops:Array Oper) (chain:List Nat) (fs:List Qq) (s:AS) (f:Qq):Bool:=
 match ops[f.i]? with
 |some o=>o.guard.isNone&&(match o.dst with|some d=>Nat.beq d f.d|none=>false)&&(match f.k with| .emp _=>B3l T o.op|_=>true)&&B20 ops o.after.toList (fun k=>chain.contains k||fs.any fun g=>Nat.beq g.i k)&&
   !chain.contains f.i&&(fs.all fun g=>Nat.beq g.i f.i||!Nat.beq g.d f.d)&&Nat.blt f.d s.slots.length&&(match Hs s.slots f.d with| .any=>true|_=>false)
 |none=>false
def Pr (T:List (TypeId×TI)) (ops:Array Oper) (chain:List Nat) (fs:List Qq) (s:AS):Bool:=fs.all (B22 T ops chain fs s)&&Gv (fs.map (·.i))
theorem A0o {chain:List Nat}{fs:List Qq}{s:AS}(h:Pr T ops chain fs s=true):fs.all (B22 T ops chain fs s)=true:=by
 simp only [Pr,Bool.and_eq_true] at h;exact h.1
theorem B0w {chain:List Nat}{fs:List Qq}{s:AS}(h:Pr T ops chain fs s=true):∀g∈fs,∀f∈fs,g≠f→g.i≠f.i:=by
 simp only [Pr,Bool.and_eq_true] at h;have hn:=Eu h.2;intro g hg f hf hne e;obtain ⟨i,hi,rfl⟩:=List.getElem_of_mem hg;obtain ⟨j,hj,rfl⟩:=List.getElem_of_mem hf
 by_cases hij:i=j
 ·subst hij;exact hne rfl
 have h1:=List.pairwise_iff_getElem.1 hn
 rcases Nat.lt_or_gt_of_ne hij with hl|hl
 ·exact h1 i j (by simpa using hi) (by simpa using hj) hl (by simpa using e)
 exact h1 j i (by simpa using hj) (by simpa using hi) hl (by simpa using e.symm)
structure C4t (T:List (TypeId×TI)) (ops:Array Oper) (chain:List Nat) (fs:List Qq) (s:AS) (f:Qq) (o:Oper):Prop where
 get:ops[f.i]? =some o
 guard:o.guard=none
 dst:o.dst=some f.d
 emp:(match f.k with| .emp _=>B3l T o.op|_=>true)=true
 edges:∀e∈o.after,Region.binds .any e=true→e.on<ops.size∧e.on∉chain∧∀g∈fs,g.i≠e.on
 out:f.i∉chain
 apart:∀g∈fs,g.i≠f.i→g.d≠f.d
 lt:f.d<s.slots.length
 any:Hs s.slots f.d= .any
theorem L8 {chain:List Nat}{fs:List Qq}{s:AS}{f:Qq}(h:B22 T ops chain fs s f=true):∃o,C4t T ops chain fs s f o:=by
 unfold B22 at h
 split at h
 ·rename_i o ho
  simp only [Bool.and_eq_true] at h;obtain ⟨⟨⟨⟨⟨⟨⟨h1,h2⟩,h3⟩,h4⟩,h5⟩,h6⟩,h7⟩,h8⟩:=h;refine ⟨o,ho,by simpa using h1,?_,h3,fun e he hb=>?_,by simpa using h5,fun g hg hne=>?_,Nat.le_of_ble_eq_true h7,?_⟩
  ·split at h2
   ·rename_i d hd;rw [hd,Nat.eq_of_beq_eq_true h2]
   simp at h2
  ·have:=List.all_eq_true.1 h4 e (Array.mem_toList_iff.2 he)
   simp only [hb,Bool.not_true,Bool.false_or,Bool.and_eq_true,Bool.not_eq_true',Bool.or_eq_false_iff,List.any_eq_false] at this;obtain ⟨k1,k2,k3⟩:=this;refine ⟨by have:=Nat.le_of_ble_eq_true k1;omega,by simpa using k2,fun g hg e=>k3 g hg (by simp [e])⟩
  ·have:=List.all_eq_true.1 h6 g hg
   simp only [Bool.or_eq_true,Bool.not_eq_true'] at this
   rcases this with h|h
   ·exact absurd (Nat.eq_of_beq_eq_true h) hne
   intro e;rw [e] at h
   simp at h
  split at h8
  ·assumption
  simp at h8
 simp at h
def Y3 (T:List (TypeId×TI)) (ops:Array Oper) (s:AS) (fs:List Qq):Prop:=
 match fs with
 | []=>True
 |f::r=>(match f.k with
  | .emp _=>True
  | .rd v=>∃o,ops[f.i]? =some o∧step T false s o.op= .ok [] (.v v)∧Ho [v]=true
  | .ra vs=>∃o,ops[f.i]? =some o∧step T false s o.op= .ok [] (.agg (vs.map AV.v))∧∀v∈vs,Ho [v]=true)∧Y3 T ops s r
theorem A4h {s:AS}{fs:List Qq}(h:Y3 T ops s fs){f:Qq}(hf:f∈fs){v:Value}(hk:f.k= .rd v){o:Oper}(ho:ops[f.i]? =some o):step T false s o.op= .ok [] (.v v)∧Ho [v]=true:=by
 induction fs with
 |nil=>simp at hf
 |cons g r ih=>
  rcases List.mem_cons.1 hf with rfl|hf
  ·have h1:=h.1
   rw [hk] at h1;obtain ⟨o',h2,h3⟩:=h1;rw [ho] at h2;obtain rfl:=Option.some.inj h2;exact h3
  exact ih h.2 hf
theorem A1y {s:AS}{fs:List Qq}(h:Y3 T ops s fs){f:Qq}(hf:f∈fs){vs:List Value}(hk:f.k= .ra vs){o:Oper}(ho:ops[f.i]? =some o):step T false s o.op= .ok [] (.agg (vs.map AV.v))∧∀v∈vs,Ho [v]=true:=by
 induction fs with
 |nil=>simp at hf
 |cons g r ih=>
  rcases List.mem_cons.1 hf with rfl|hf
  ·have h1:=h.1
   rw [hk] at h1;obtain ⟨o',h2,h3⟩:=h1;rw [ho] at h2;obtain rfl:=Option.some.inj h2;exact h3
  exact ih h.2 hf
theorem B7r {E:E7}{w:World}{A:Nat→Prop}{N:Nat}{vs:List Value}{v:Value}(h:Dr E w A N (.agg (vs.map AV.v)) v):v= .agg vs.toArray:=by
 cases h with
 |agg us hl hu=>
  have:us=vs:=by
   apply List.ext_getElem
   ·simpa using hl
   intro i h1 h2
   have:=hu i (.v vs[i]) (by simp [h2])
   have:=Bo this
   simpa [List.getD,h1] using this
  rw [this]
theorem B1z {l:List AV}{i:Nat}(h:Hs l i= .any):D6 l i .any=l:=by
 induction l generalizing i with
 |nil=>rfl
 |cons x r ih=>cases i with
  |zero=>simp only [Hs] at h;simp [D6,h]
  |succ i=>simp only [Hs] at h;simp [D6,ih h]
theorem AS.is.putAny {s:AS}{B:Be}{E:E7}{a:Act}{w:World}(h:s.is B E a w){d:Tmp}(hd:Hs s.slots d= .any)(v:Value):s.is B E (a.put (some d) v) w:=by
 have:=h.put (some d) (x:= .any) (v:=v) (.any v)
 have e:s.put (some d) .any=s:=by simp only [AS.put,B1z hd]
 rwa [e] at this
theorem B8a {a:Act}{d:Tmp}{v:Value}(h:d<a.tmps.size):(a.put (some d) v).tmps.getD d undef=v:=by
 simp [Act.put,Array.getD,Array.size_setIfInBounds,h]
theorem Xs {a:Act}{d d':Tmp}{v:Value}(h:d≠d'):(a.put (some d) v).tmps.getD d' undef=a.tmps.getD d' undef:=by
 simp only [Act.put,Array.getD,Array.size_setIfInBounds]
 by_cases h':d'<a.tmps.size
 ·simp [h',h]
 simp [h']
theorem Uz {l:Array Bool}{j:Nat}(h:l.getD j true=false):l.getD j false=false:=by
 by_cases hj:j<l.size
 ·simp only [Array.getD,hj,dite_true] at h ⊢;exact h
 simp [Array.getD,hj]
theorem A0n (hT:Cs P T){B:Be}{N:Act→World→Prop}{chain:List Nat}{fs:List Qq}{s:AS}(hF:Pr T ops chain fs s=true)(hR:Y3 T ops s fs){fuel:Nat}
  (ih:∀listed u E a w,s.is B E a w→chain.length+u.length≤fuel→u.Nodup→
   (∀j o,ops[j]? =some o→listed.getD j false=false→j∈chain∨j∈u)→(∀c∈chain,listed.getD c true=false)→(∀j∈u,listed.getD j true=false)→
   (∀j∈u,∃f∈fs,f.i=j)→C0t fs u a→P8 P ops N fuel listed a w)
  {listed:Array Bool}{u:List Nat}{E:E7}{a:Act}{w:World}(hs:s.is B E a w)(hl:chain.length+u.length≤fuel+1)(hnd:u.Nodup)
  (hun:∀j o,ops[j]? =some o→listed.getD j false=false→j∈chain∨j∈u)(hch:∀c∈chain,listed.getD c true=false)(hul:∀j∈u,listed.getD j true=false)
  (huf:∀j∈u,∃f∈fs,f.i=j)(hI:C0t fs u a){j:Nat}(hj:j∈u):opM P ops j (P8 P ops N fuel (listed.setIfInBounds j true)) a w:=by
 obtain ⟨f,hf,rfl⟩:=huf j hj;have hD:=B0w hF;have hF:=A0o hF;obtain ⟨o,O⟩:=L8 (List.all_eq_true.1 hF f hf)
 have hrun:∃v w',(execOp a.eval o).run P w= .ok (.value v) w'∧Ju w.heap.size w w'∧isF f.k v:=by
  have hemp:=O.emp
  cases hk:f.k with
  |emp es=>
   rw [hk] at hemp;obtain ⟨ob,hrun⟩:=C08 hT hemp a.eval w;exact ⟨_,_,hrun,Jw w ob,⟨_,rfl⟩⟩
  |rd x=>
   obtain ⟨v,h1,h2⟩:=A6z hT (A4h hR hf hk O.get).1 (fun p hp=>by cases hp) hs o rfl
   have:=Bo h2
   subst this;exact ⟨_,_,h1 w (Ez.refl w),Ju.refl _ _,rfl⟩
  |ra xs=>
   obtain ⟨v,h1,h2⟩:=A6z hT (A1y hR hf hk O.get).1 (fun p hp=>by cases hp) hs o rfl
   have:=B7r h2
   subst this;exact ⟨_,_,h1 w (Ez.refl w),Ju.refl _ _,rfl⟩
 obtain ⟨v,w',hrun,hbel,hv⟩:=hrun;unfold opM;simp only [O.get];have hw:Region.wanted o (yielded ops a.tmps)=true:=by simp [Region.wanted,O.guard]
 simp only [hw,if_true];unfold J5;rw [hrun];refine ⟨fun _=>Ez.of_below hbel,?_⟩
 rw [O.dst];have hs':=((hs.call hbel).is).putAny O.any v;have hsz:f.d<a.tmps.size:=by rw [hs.size];exact O.lt
 refine ih _ (u.erase f.i) E _ _ hs' (by rw [List.length_erase_of_mem hj];have:=List.length_pos_of_mem hj;omega) (hnd.erase _) (fun k o' ho' hk=>?_) (fun c hc=>?_) (fun k hk=>?_) (fun k hk=>huf k (List.mem_of_mem_erase hk)) (fun g hg hgu=>?_)
 ·by_cases e:f.i=k
  ·subst e
   have hlt:f.i<listed.size:=by
    have:=hul _ hj
    by_cases h:f.i<listed.size
    ·exact h
    simp [Array.getD,h] at this
   simp [Array.getD,hlt] at hk
  rw [Go.getD_set_ne false e] at hk;refine (hun k o' ho' hk).imp id fun h=>?_;exact (List.mem_erase_of_ne (Ne.symm e)).2 h
 ·have e:f.i≠c:=fun e=>O.out (e▸hc)
  rw [Go.getD_set_ne true e];exact hch c hc
 ·have e:f.i≠k:=fun e=>by subst e;exact (List.Nodup.mem_erase_iff hnd).1 hk |>.1 rfl
  rw [Go.getD_set_ne true e];exact hul k (List.mem_of_mem_erase hk)
 by_cases e:g.i=f.i
 ·by_cases hgf:g=f
  ·subst hgf
   rw [B8a hsz];exact hv
  exact absurd e (hD g hg f hf hgf)
 have hne:=O.apart g hg e;rw [Xs (Ne.symm hne)];refine hI g hg fun h=>hgu ((List.mem_erase_of_ne e).2 h)
theorem Jf (hT:Cs P T){B:Be}{N:Act→World→Prop}{fs:List Qq}{s:AS}(hF:Pr T ops [] fs s=true)(hR:Y3 T ops s fs)(h:∀E a w,s.is B E a w→N a w):FW P B N ops [] fs s:=by
 refine ⟨fun fuel=>?_⟩
 induction fuel with
 |zero=>
  intro listed u E a w hs hl _ hun _ _ _ _;have hu:u=[]:=List.eq_nil_of_length_eq_zero (by simpa using hl);subst hu;refine ⟨?_,h E a w hs⟩
  match hr:Region.ready .any ops listed with
  | []=>rfl
  |i::r=>
   obtain ⟨h1,o,ho,_⟩:=mem_ready.1 (show i∈Region.ready .any ops listed by rw [hr];simp)
   rcases hun i o ho (Uz h1) with h|h<;>simp at h
 |succ fuel ih=>
  intro listed u E a w hs hl hnd hun hch hul huf hI;refine ⟨fun _=>h E a w hs,fun i hi=>?_⟩
  obtain ⟨h1,o,ho,_⟩:=mem_ready.1 hi
  have hiu:i∈u:=by
   rcases hun i o ho (Uz h1) with h|h
   ·simp at h
   exact h
  exact A0n hT hF hR ih hs hl hnd hun hch hul huf hI hiu
def Tz (o:Oper) (fs:List Qq):List Qq:=fs.filter fun f=>o.after.toList.any fun e=>Region.binds .any e&&Nat.beq e.on f.i
def Yz (o:Oper) (fs:List Qq):List Qq:=fs.filter fun f=>!o.after.toList.any fun e=>Region.binds .any e&&Nat.beq e.on f.i
def Zj (f:Qq) (s:AS):AS:=
 match f.k with
 | .emp es=> {s with slots:=D6 s.slots f.d (.own s.next),own:=⟨s.next,.sl 0 es fun _=>[]⟩::s.own,next:=s.next+1}
 | .rd v=> {s with slots:=D6 s.slots f.d (.v v)}
 | .ra vs=> {s with slots:=D6 s.slots f.d (.agg (vs.map AV.v))}
def A3l (fs:List Qq) (s:AS):AS:=
 match fs with
 | []=>s
 |f::r=>A3l r (Zj f s)
theorem A1x {a:Act}{d:Tmp}{v:Value}(hsz:d<a.tmps.size)(hv:a.tmps.getD d undef=v):a.put (some d) v=a:=by
 have:a.tmps.setIfInBounds d v=a.tmps:=by
  apply Array.ext
  ·rw [Array.size_setIfInBounds]
  intro i h1 h2;rw [Array.getElem_setIfInBounds]
  split
  ·rename_i e
   subst e;rw [←hv]
   simp [Array.getD,hsz]
  rfl
 show ({a with tmps:=a.tmps.setIfInBounds d v}:Act)=a
 rw [this]
theorem A46 (f:Qq)(s:AS):(Zj f s).slots.length=s.slots.length:=by
 unfold Zj
 split<;>simp [Cn]
theorem B4d {s:AS}{B:Be}{E:E7}{a:Act}{w:World}(h:s.is B E a w){f:Qq}(hd:f.d<s.slots.length)(h1:∀v,f.k= .rd v→v.oneCell'=true)(h2:∀vs,f.k= .ra vs→∀v∈vs,v.oneCell'=true)(hv:isF f.k (a.tmps.getD f.d undef)):∃E',(Zj f s).is B E' a w:=by
 have hsz:f.d<a.tmps.size:=by rw [h.size];exact hd
 unfold Zj
 cases hk:f.k with
 |emp es=>
  rw [hk] at hv;obtain ⟨b,hv⟩:=hv;have hI:s.isA B E (s.avoid E) a w:=⟨h.defers,h.links,h.size,h.slots,h.boxes,h.boxes2,h.keys,h.own,h.ownkeys,h.sep,h.sepB,h.one,h.base,h.fresh,fun _ h=>h⟩
  obtain ⟨k1,k2⟩:=hI.addOwn (.emp es (fun _=>[]) b 0) C8 C8;refine ⟨E.withOwn s.next (.slice (some ⟨b,0,none⟩) 0 0) [],?_⟩
  have:=((k1.put (some f.d) (x:= .own s.next) (v:= .slice (some ⟨b,0,none⟩) 0 0) k2).is)
  rw [A1x hsz hv] at this;exact this
 |rd v=>
  rw [hk] at hv;refine ⟨E,?_⟩
  have:=h.put (some f.d) (x:= .v v) (v:=v) (.c (.val v (h1 v hk)))
  rw [A1x hsz hv] at this;exact this
 |ra vs=>
  rw [hk] at hv;refine ⟨E,?_⟩
  have:=h.put (some f.d) (x:= .agg (vs.map AV.v)) (v:= .agg vs.toArray) (.agg vs C8 (fun i x hx=>by
   simp only [List.getElem?_map,Option.map_eq_some_iff] at hx;obtain ⟨v,hv,rfl⟩:=hx;have e:vs.getD i undef=v:=by simp [List.getD,hv]
   rw [e]
   exact .c (.val v (h2 vs hk v (List.mem_of_getElem? hv)))))
  rw [A1x hsz hv] at this;exact this
theorem A7j {B:Be}{a:Act}{w:World}:∀(fs:List Qq) {s:AS} {E:E7},s.is B E a w→(∀f∈fs,f.d<s.slots.length)→(∀f∈fs,∀v,f.k= .rd v→v.oneCell'=true)→(∀f∈fs,∀vs,f.k= .ra vs→∀v∈vs,v.oneCell'=true)→(∀f∈fs,isF f.k (a.tmps.getD f.d undef))→∃E',(A3l fs s).is B E' a w
 | [],_,E,h,_,_,_,_=>⟨E,h⟩
 |f::r,s,E,h,hd,h1,h3,hv=>by
  obtain ⟨E1,h2⟩:=B4d h (hd f C8) (h1 f C8) (h3 f C8) (hv f C8)
  exact A7j r h2 (fun g hg=>by
   rw [A46]
   exact hd g (List.mem_cons_of_mem _ hg)) (fun g hg=>h1 g (List.mem_cons_of_mem _ hg)) (fun g hg=>h3 g (List.mem_cons_of_mem _ hg)) (fun g hg=>hv g (List.mem_cons_of_mem _ hg))
def Wj (ops:Array Oper) (chain:List Nat) (fs:List Qq) (o:Oper):Bool:=
 B20 ops o.after.toList (fun j=>chain.contains j)&&fs.all fun f=>match o.dst with|some d=>!Nat.beq d f.d|none=>true
def A65 (ops:Array Oper) (chain cands:List Nat):Bool:=
 Gv chain&&(cands.all fun k=>chain.contains k)&&!cands.isEmpty&&chain.all fun c=>cands.contains c||match ops[c]? with
  |some oc=>oc.after.toList.any fun e=>Region.binds .any e&&chain.contains e.on
  |none=>false
def C5x (P:Program) (B:Be) (N:Act→World→Prop) (ops:Array Oper) (chain:List Nat) (fs:List Qq) (s:AS) (i:Nat):Prop:=
 ∃o s',ops[i]? =some o∧Wj ops chain fs o=true∧GW P B QF [.ops true ops [o],.loop (fun a w=>∃E,s'.is B E a w)] (A3l (Tz o fs) s)∧FW P B N ops (chain.erase i) (Yz o fs) s'
theorem C0c (hT:Cs P T){B:Be}{N:Act→World→Prop}{chain cands:List Nat}{fs:List Qq}{s:AS}(hF0:Pr T ops chain fs s=true)(hW:A65 ops chain cands=true)(hR:Y3 T ops s fs)
  (hS:∀i∈cands,C5x P B N ops chain fs s i):FW P B N ops chain fs s:=by
 have hF:=A0o hF0;unfold A65 at hW;simp only [Bool.and_eq_true] at hW;obtain ⟨⟨⟨w1,w2⟩,w3⟩,w4⟩:=hW;have wnd:=Eu w1;have wmem:∀k∈cands,k∈chain:=fun k hk=>by simpa using List.all_eq_true.1 w2 k hk
 refine ⟨fun fuel=>?_⟩
 have hne:∃k,k∈cands:=by
  cases hc:cands with
  |nil=>rw [hc] at w3;simp at w3
  |cons k r=>exact ⟨k,by simp⟩
 obtain ⟨k0,hk0⟩:=hne;have hlen:1≤chain.length:=List.length_pos_of_mem (wmem k0 hk0)
 induction fuel with
 |zero=>intro listed u E a w _ hl;omega
 |succ fuel ih=>
  intro listed u E a w hs hl hnd hun hch hul huf hI;refine ⟨fun h0=>?_,fun i hi=>?_⟩
  ·exfalso
   match u,hul,huf,hun with
   | [],_,_,hun=>
    obtain ⟨o,_,ho,hc,_⟩:=hS k0 hk0;simp only [Wj,Bool.and_eq_true] at hc
    have:k0∈Region.ready .any ops listed:=by
     refine mem_ready.2 ⟨hch k0 (wmem k0 hk0),o,ho,fun e he hb=>?_⟩
     have:=List.all_eq_true.1 hc.1 e (Array.mem_toList_iff.2 he)
     simp only [hb,Bool.not_true,Bool.false_or,Bool.and_eq_true,Bool.not_eq_true'] at this;have hlt:e.on<ops.size:=Nat.le_of_ble_eq_true this.1;refine Classical.byContradiction fun hne=>?_;have hne:listed.getD e.on false=false:=by simpa using hne
     rcases hun e.on _ (Array.getElem?_eq_getElem hlt) hne with h|h
     ·exact absurd h (by simpa using this.2)
     simp at h
    rw [h0] at this
    cases this
   |j::u',hul,huf,hun=>
    obtain ⟨f,hf,rfl⟩:=huf j C8;obtain ⟨of,O⟩:=L8 (List.all_eq_true.1 hF f hf)
    have:f.i∈Region.ready .any ops listed:=by
     refine mem_ready.2 ⟨hul f.i C8,of,O.get,fun e he hb=>?_⟩;obtain ⟨h1,h2,h3⟩:=O.edges e he hb;refine Classical.byContradiction fun hne=>?_;have hne:listed.getD e.on false=false:=by simpa using hne
     rcases hun e.on _ (Array.getElem?_eq_getElem h1) hne with h|h
     ·exact h2 h
     obtain ⟨g,hg,e⟩:=huf _ h;exact h3 g hg e
    rw [h0] at this
    cases this
  obtain ⟨h1,oi,hoi,hall⟩:=mem_ready.1 hi
  rcases hun i oi hoi (Uz h1) with hm|hm
  ·by_cases hcand:i∈cands
   ·obtain ⟨o,s',ho,hc,ht,h⟩:=hS i hcand
    rw [ho] at hoi;obtain rfl:=Option.some.inj hoi;simp only [Wj,Bool.and_eq_true] at hc;obtain ⟨_,hc5⟩:=hc
    have hneed:∀f∈Tz o fs,f∈fs∧listed.getD f.i false=true:=fun f hf=>by
     obtain ⟨hf1,hf2⟩:=List.mem_filter.1 hf;obtain ⟨e,he,hb⟩:=List.any_eq_true.1 hf2;simp only [Bool.and_eq_true] at hb;refine ⟨hf1,?_⟩;rw [←Nat.eq_of_beq_eq_true hb.2];exact hall e (Array.mem_toList_iff.1 he) hb.1
    have hnotu:∀f∈Tz o fs,f.i∉u:=fun f hf hu=>by
     have:=Uz (hul _ hu)
     rw [(hneed f hf).2] at this
     cases this
    obtain ⟨E1,hs1⟩:=A7j (Tz o fs) hs (fun f hf=>(L8 (List.all_eq_true.1 hF f (hneed f hf).1)).elim fun _ O=>O.lt) (fun f hf v hk=>(L8 (List.all_eq_true.1 hF f (hneed f hf).1)).elim fun _ O=>Ig (A4h hR (hneed f hf).1 hk O.get).2 v C8) (fun f hf vs hk v hv=>(L8 (List.all_eq_true.1 hF f (hneed f hf).1)).elim fun _ O=>Ig ((A1y hR (hneed f hf).1 hk O.get).2 v hv) v C8) (fun f hf=>hI f (hneed f hf).1 (hnotu f hf));have hg:Gj P ops (fun a w=>∃E,s'.is B E a w) [o] a w:=ht.out E1 a w hs1
    have hil:i<listed.size:=by
     by_cases h:i<listed.size
     ·exact h
     simp [Array.getD,h] at h1
    have next:∀v w',(∃E,s'.is B E (a.put o.dst v) w')→P8 P ops N fuel (listed.setIfInBounds i true) (a.put o.dst v) w':=by
     rintro v w' ⟨E',hs'⟩
     refine h.out fuel _ u E' _ w' hs' (by rw [List.length_erase_of_mem hm];omega) hnd (fun j oj hoj hj=>?_) (fun c hc=>?_) (fun j hj=>?_) (fun j hj=>?_) (fun f hf hfu=>?_)
     ·by_cases e:i=j
      ·subst e
       simp [Array.getD,hil] at hj
      rw [Go.getD_set_ne false e] at hj;exact (hun j oj hoj hj).imp (fun h=>(List.mem_erase_of_ne (Ne.symm e)).2 h) id
     ·obtain ⟨e,hc⟩:=(List.Nodup.mem_erase_iff wnd).1 hc
      rw [Go.getD_set_ne true (Ne.symm e)];exact hch c hc
     ·have e:i≠j:=fun e=>by
       subst e;obtain ⟨f,hf,e⟩:=huf _ hj;obtain ⟨_,O⟩:=L8 (List.all_eq_true.1 hF f hf);exact O.out (by rw [e];exact hm)
      rw [Go.getD_set_ne true e];exact hul j hj
     ·obtain ⟨f,hf,rfl⟩:=huf j hj
      refine ⟨f,List.mem_filter.2 ⟨hf,?_⟩,rfl⟩;simp only [Bool.not_eq_true'];refine Bool.eq_false_iff.2 fun hc=>?_;exact hnotu f (List.mem_filter.2 ⟨hf,hc⟩) hj
     obtain ⟨hf1,_⟩:=List.mem_filter.1 hf;have hv:=hI f hf1 hfu;have hd:=List.all_eq_true.1 hc5 f hf1
     cases hdst:o.dst with
     |none=>exact hv
     |some d=>
      rw [hdst] at hd;have hne:d≠f.d:=fun e=>by subst e;simp at hd
      rw [Xs hne];exact hv
    unfold opM;simp only [ho];unfold Gj at hg
    split
    ·rename_i hw
     rw [if_pos hw] at hg
     rcases hg with ⟨v,h1,h2⟩|⟨_,hd⟩
     ·unfold J5
      rw [h1 w (Ez.refl w)];exact ⟨fun _=>Ez.refl w,next v w h2⟩
     unfold J5 at hd ⊢;exact Tg.mono (fun v w' ⟨k1,k2⟩=>⟨k1,next v w' k2⟩) hd
    rename_i hw
    rw [if_neg hw] at hg;exact next undef w hg
   exfalso
   have:=List.all_eq_true.1 w4 i hm
   rw [hoi] at this;have hcf:cands.contains i=false:=by simpa using hcand
   rw [hcf,Bool.false_or] at this;obtain ⟨e,he,hb⟩:=List.any_eq_true.1 this;simp only [Bool.and_eq_true] at hb;have h2:=hall e (Array.mem_toList_iff.1 he) hb.1;have h3:=Uz (hch e.on (by simpa using hb.2));rw [h2] at h3
   cases h3
  exact A0n hT hF0 hR ih hs hl hnd hun hch hul huf hI hm
theorem Bl (hT:Cs P T){B:Be}{N:Act→World→Prop}{k:Nat}{rest:List Nat}{fs:List Qq}{s s':AS}{o:Oper}(ho:ops[k]? =some o)(hF:(Pr T ops (k::rest) fs s&&(A65 ops (k::rest) [k]&&Wj ops (k::rest) fs o))=true)(hR:Y3 T ops s fs)
  (ht:GW P B QF [.ops true ops [o],.loop (fun a w=>∃E,s'.is B E a w)] (A3l (Tz o fs) s))(h:FW P B N ops rest (Yz o fs) s'):FW P B N ops (k::rest) fs s:=by
 simp only [Bool.and_eq_true] at hF;refine C0c hT hF.1 hF.2.1 hR (fun i hi=>?_);obtain rfl:i=k:=by simpa using hi
 refine ⟨o,s',ho,hF.2.2,ht,?_⟩;rw [List.erase_cons_head];exact h
theorem Kr (hT:Cs P T){B:Be}{N:Act→World→Prop}(chain:List Nat)(k l:Nat)(c1 c2:List Nat){fs:List Qq}{s s1 s2:AS}{o1 o2:Oper}(ho1:ops[k]? =some o1)(ho2:ops[l]? =some o2)
  (hF:(Pr T ops chain fs s&&(A65 ops chain [k,l]&&(Wj ops chain fs o1&&Wj ops chain fs o2)))=true)(hR:Y3 T ops s fs)(e1:chain.erase k=c1)(e2:chain.erase l=c2)
  (t1:GW P B QF [.ops true ops [o1],.loop (fun a w=>∃E,s1.is B E a w)] (A3l (Tz o1 fs) s))(h1:FW P B N ops c1 (Yz o1 fs) s1)
  (t2:GW P B QF [.ops true ops [o2],.loop (fun a w=>∃E,s2.is B E a w)] (A3l (Tz o2 fs) s))(h2:FW P B N ops c2 (Yz o2 fs) s2):FW P B N ops chain fs s:=by
 simp only [Bool.and_eq_true] at hF;refine C0c hT hF.1 hF.2.1 hR (fun i hi=>?_);simp only [List.mem_cons,List.not_mem_nil,or_false] at hi
 rcases hi with rfl|rfl
 ·exact ⟨o1,s1,ho1,hF.2.2.1,t1,e1▸h1⟩
 exact ⟨o2,s2,ho2,hF.2.2.2,t2,e2▸h2⟩
theorem B6 {B:Be}{s:AS}:GW P B QF [.loop (fun a w=>∃E,s.is B E a w)] s:=⟨fun E _ _ hs=>⟨E,hs⟩⟩
def P6 (P:Program) (ops:Array Oper) (o:Oper) (v:Value) (a:Act):Prop:=
 (Region.wanted o (yielded ops a.tmps)=true∧∀w',(execOp a.eval o).run P w'= .ok (.value v) w')∨(Region.wanted o (yielded ops a.tmps)=false∧v=undef)
theorem P6.opM {i:Nat}{o:Oper}{v:Value}{a:Act}{w:World}(hi:ops[i]? =some o)(hy:P6 P ops o v a){K:Act→World→Prop}(h:K (a.put o.dst v) w):opM P ops i K a w:=by
 unfold Sx.opM;simp only [hi]
 rcases hy with ⟨hw,hv⟩|⟨hw,rfl⟩
 ·simp only [hw,if_true]
  unfold J5;rw [hv w];exact ⟨fun _=>Ez.refl w,h⟩
 simp only [hw,Bool.false_eq_true,if_false];exact h
theorem B9g {j:Nat}{oi oj:Oper}{v:Value}(hj:ops[j]? =some oj)(hap:oi.apart ops oj=true)
  (hsi:∀cs b,oi.op≠ .select cs b)(hsj:∀cs b,oj.op≠ .select cs b){K:Act→World→Prop}{a:Act}{w:World}
  (hy:P6 P ops oi v a)(h:opM P ops j K (a.put oi.dst v) w):
  opM P ops j (fun a' w'=>P6 P ops oi v a'∧K (a'.put oi.dst v) w') a w:=by
 obtain ⟨h1,h2,h3⟩:=Oper.apart_spec hap
 have keep:∀u,P6 P ops oi v (a.put oj.dst u):=fun u=>by
  unfold P6 at *;rw [execOp_put oi hsi a oj.dst u h3,wanted_put oi a oj.dst u h3];exact hy
 unfold opM at *;simp only [hj] at *;rw [wanted_put oj a oi.dst v h1] at h
 split
 ·rename_i hw
  simp only [hw,if_true] at h;unfold J5 at *;rw [execOp_put oj hsj a oi.dst v h1] at h;refine Tg.mono (fun u w' ⟨k1,k2⟩=>⟨k1,keep u,?_⟩) h;rw [←Act.put_comm a v u h2];exact k2
 rename_i hw
 simp only [hw] at h;exact ⟨keep _,by rw [←Act.put_comm a v undef h2];exact h⟩
def B23 (ops:Array Oper) (listed:Array Bool) (i:Nat) (oi:Oper):Bool:=
 (List.range ops.size).all fun j=>j==i||listed.getD j true||(match ops[j]? with
  |some oj=>oi.apart ops oj||(oj.after.toList.any fun e=>Region.binds .any e&&e.on==i)
  |none=>true)
theorem Qx {Q:Act→World→Prop}{i:Nat}{oi:Oper}{v:Value}(hi:ops[i]? =some oi)(hsel:∀(j:Nat) (o:Oper) cs b,ops[j]? =some o→o.op≠ .select cs b):
  ∀(fuel:Nat) (listed:Array Bool) (a:Act) (w:World),B23 ops listed i oi=true→
   i∈Region.ready .any ops listed→P6 P ops oi v a→P8 P ops Q fuel (listed.setIfInBounds i true) (a.put oi.dst v) w→P8 P ops Q (fuel+1) listed a w:=by
 intro fuel
 induction fuel with
 |zero=>
  intro listed a w _ hr hy H;refine ⟨fun h=>(by rw [h] at hr;cases hr),fun j hj=>?_⟩
  by_cases hji:j=i
  ·subst hji;exact hy.opM hi H
  have:=ready_mono hj hji
  rw [H.1] at this
  cases this
 |succ fuel ih=>
  intro listed a w hfree hr hy H;refine ⟨fun h=>(by rw [h] at hr;cases hr),fun j hj=>?_⟩
  by_cases hji:j=i
  ·subst hji;exact hy.opM hi H
  have h1:=H.2 j (ready_mono hj hji);obtain ⟨hjun,oj,hoj,hall⟩:=mem_ready.1 hj;have hun:=Rm hr
  have hf:oi.apart ops oj=true:=by
   have:=List.all_eq_true.1 hfree j (List.mem_range.2 (Array.getElem?_eq_some_iff.1 hoj).1)
   simp only [hoj,hjun,Bool.or_false,Bool.or_eq_true,beq_iff_eq,hji,false_or] at this
   rcases this with h|h
   ·exact h
   obtain ⟨e,he,hb⟩:=List.any_eq_true.1 h;simp only [Bool.and_eq_true,beq_iff_eq] at hb
   have:=hall e (Array.mem_toList_iff.1 he) hb.1
   rw [hb.2,hun] at this
   cases this
  have h2:=B9g hoj hf (fun cs b=>hsel i oi cs b hi) (fun cs b=>hsel j oj cs b hoj) hy h1
  have hfree':B23 ops (listed.setIfInBounds j true) i oi=true:=by
   refine List.all_eq_true.2 fun k hk=>?_
   have:=List.all_eq_true.1 hfree k hk
   by_cases hjk:j=k
   ·subst hjk
    have hlt:j<listed.size:=by
     by_cases h:j<listed.size
     ·exact h
     simp [Array.getD,h] at hjun
    have:(listed.setIfInBounds j true).getD j true=true:=by simp [Array.getD,hlt]
    simp only [this,Bool.or_true,Bool.true_or]
   rw [Go.getD_set_ne true hjk];exact this
  refine A80 (fun a' w' h3=>ih (listed.setIfInBounds j true) a' w' hfree' (ready_mono hr (Ne.symm hji)) h3.1 ?_) h2;rw [Array.setIfInBounds_comm _ _ hji];exact h3.2
def B1v (ops:Array Oper) (fin:Array Bool) (chain:List Nat) (fs:List Qq):Bool:=
 ((List.range ops.size).all fun j=>fin.getD j false||chain.contains j||fs.any fun f=>Nat.beq f.i j)&&(chain.all fun c=>!fin.getD c true)&&(fs.all fun f=>!fin.getD f.i true)&&Gv (fs.map (·.i))
theorem C47 {B:Be}{N:Act→World→Prop}{fin:Array Bool}{chain:List Nat}{fs:List Qq}{s:AS}(hr:B1v ops fin chain fs=true)(h:FW P B N ops chain fs s):GW P B QF [.loop (P8 P ops N (chain.length+fs.length) fin)] s:=by
 unfold B1v at hr;simp only [Bool.and_eq_true] at hr;obtain ⟨⟨⟨h1,h2⟩,h3⟩,h4⟩:=hr;refine ⟨fun E a w hs=>?_⟩
 show P8 P ops N (chain.length+fs.length) fin a w
 refine h.out _ fin (fs.map (·.i)) E a w hs C8 (Eu h4) (fun j o ho hj=>?_) (fun c hc=>by simpa using List.all_eq_true.1 h2 c hc) (fun j hj=>?_) (fun j hj=>?_) (fun f hf hn=>?_)
 ·have:=List.all_eq_true.1 h1 j (List.mem_range.2 (Array.getElem?_eq_some_iff.1 ho).1)
  simp only [hj,Bool.false_or,Bool.or_eq_true] at this
  rcases this with h|h
  ·exact .inl (by simpa using h)
  obtain ⟨f,hf,e⟩:=List.any_eq_true.1 h;exact .inr (List.mem_map.2 ⟨f,hf,Nat.eq_of_beq_eq_true e⟩)
 ·obtain ⟨f,hf,rfl⟩:=List.mem_map.1 hj
  simpa using List.all_eq_true.1 h3 f hf
 ·obtain ⟨f,hf,e⟩:=List.mem_map.1 hj
  exact ⟨f,hf,e⟩
 exact absurd (List.mem_map.2 ⟨f,hf,rfl⟩) hn
inductive BW (P:Program) (B:Be) (N:Act→World→Prop) (ops:Array Oper) (fuel:Nat) (listed:Array Bool) (s:AS):Prop
 |mk (h:∀E a w,s.is B E a w→P8 P ops N fuel listed a w):BW P B N ops fuel listed s
theorem BW.out {B:Be}{N:Act→World→Prop}{fuel:Nat}{listed:Array Bool}{s:AS}(h:BW P B N ops fuel listed s):∀E a w,s.is B E a w→P8 P ops N fuel listed a w:=h.rec fun h=>h
theorem Bp (hT:Cs P T)(wr:Bool){B:Be}{N:Act→World→Prop}{fuel:Nat}{listed:Array Bool}{s:AS}(i:Nat){o:Oper}(hi:ops[i]? =some o)(hk:A6h o.op=true)
  (hb:(o.guard.isNone&&Region.noSelect ops&&(Region.ready .any ops listed).contains i&&B23 ops listed i o)=true){ps:List Prop}{x:AV}(hst:step T wr s o.op= .ok ps x)(hp:∀p∈ps,p)
  (h:BW P B N ops fuel (listed.setIfInBounds i true) (s.put o.dst x)):BW P B N ops (fuel+1) listed s:=by
 simp only [Bool.and_eq_true,List.contains_iff_mem] at hb;obtain ⟨⟨⟨h0,h1⟩,h2⟩,h3⟩:=hb;refine ⟨fun E a w hs=>?_⟩;obtain ⟨v,hv,hd⟩:=A4q hT hk hst hp hs o rfl;have hg:o.guard=none:=by simpa using h0
 exact Qx hi (Region.noSelect_spec h1) fuel listed a w h3 h2 (.inl ⟨by simp [Region.wanted,hg],hv⟩) (h.out E _ w (hs.put o.dst hd))
theorem Kz {B:Be}{N:Act→World→Prop}(chain:List Nat)(fs:List Qq){fuel:Nat}{fin:Array Bool}{s:AS}(hr:(B1v ops fin chain fs&&Nat.beq (chain.length+fs.length) fuel)=true)(h:FW P B N ops chain fs s):BW P B N ops fuel fin s:=by
 simp only [Bool.and_eq_true] at hr;obtain ⟨hr,hfu⟩:=hr;obtain rfl:=Nat.eq_of_beq_eq_true hfu;exact ⟨fun E a w hs=>(C47 hr h).out E a w hs⟩
theorem H0 (hm:P.follows .mixedOrders=true){B:Be}{Q:Exit→Act→World→Prop}{id:Nat}{K:List KI}{s:AS}(h:BW P B (fun a w=>D5 P Q K .normal a w) ops ops.size (Array.replicate ops.size false) s):GW P B Q (.code (.region id ops true)::K) s:=by
 refine ⟨fun E a w hs=>?_⟩;refine wp_region_any hm (Uk (Q:=fun a w=>D5 P Q K .normal a w) (fun _ _ h=>h) _ _ _ _ ?_);exact h.out E a _ ((hs.call (w':= {w with drawn:=w.drawn+1}) ⟨rfl,rfl,rfl,Nat.le_refl _,fun _ _=>rfl,Nat.le_succ _⟩).is)
theorem A5l (hT:Cs P T)(wr:Bool){f:FuncId}{fn:Func}{c:Code}{cs:List Ai}{outs:List Gy}(hf:P.funcs[f]? =some fn)(hb:fn.body=some c)(hn:(fn.name== "runtime.NumGoroutine")=false)
  (h:∀W (us:List Value),us.length=cs.length→(∀(i:Nat) (x:Value),cs[i]? =some (.val x)→us.getD i undef=x)→(∀u∈us,Ho [u]=true)→M6 ⟨W,fun _=>False⟩ (cs.zip us)→
   vcW P ⟨W,fun _=>False⟩ (bodyPost P fn fun e w'=>Lr W w' outs e) (Oz T wr 100000 [.code c] (start fn.ntmps [.agg (us.map Ai.val)]))):B3 P f [.agg cs] outs:=by
 refine ⟨⟨fn,hf,hn,by simp [hb]⟩,fun w vs hl hv=>?_⟩;obtain ⟨us,he,hul,hus⟩:∃us:List Value,vs.getD 0 undef= .agg us.toArray∧us.length=cs.length∧∀i c,cs[i]? =some c→Qi w (fun _=>False) c (us.getD i undef):=hv 0 _ rfl
 have hone:∀u∈us,u.oneCell'=true:=fun u hu=>by
  obtain ⟨i,hi,rfl⟩:=List.getElem_of_mem hu
  have:=(hus i _ (List.getElem?_eq_getElem Ad)).one
  simpa [List.getD,hi] using this
 have hpin:M6 ⟨w,fun _=>False⟩ (cs.zip us):=fun p hp=>by
  obtain ⟨i,hi,rfl⟩:=List.getElem_of_mem hp;have hic:i<cs.length:=by simp at hi;omega
  have hiu:i<us.length:=by omega
  have:=hus i _ (List.getElem?_eq_getElem hic)
  simpa [List.getD,hiu] using this
 have hm:Z8 P (fun w'=>M6 ⟨w',fun _=>False⟩ (cs.zip us)) f [.agg (us.map Ai.val)] outs:=
  B7y hT wr hf hb hn fun W hW=>h W us hul (fun i x hi=>by
   have:=hus i _ hi
   generalize us.getD i undef=u at this
   cases this;rfl) (fun u hu=>by
   have:=hone u hu
   cases u<;>first|rfl|simp [Value.oneCell'] at this) hW
 refine hm.2 w hpin vs (by simpa using hl) (fun i x hi=>?_)
 match i,hi with
 | 0,hi=>
  simp only [List.getElem?_cons_zero,Option.some.injEq] at hi;subst hi;refine ⟨us,he,by simp,fun i c hc=>?_⟩;simp only [List.getElem?_map,Option.map_eq_some_iff] at hc;obtain ⟨u,hu,rfl⟩:=hc
  have:us.getD i undef=u:=by simp [List.getD,hu]
  rw [this];exact .val u (hone u (List.mem_of_getElem? hu))
theorem Mb {B:Be}{pins:List (Ai×Value)}(hF:M6 B pins){Q:Exit→Act→World→Prop}{q:Bool}{f:FuncId}{xs ys:List AV}{dst:Option Tmp}{K:List KI}{s:AS}(i j l:Nat){c:Ai}{v:Value}(hl:pins[l]? =some (c,v))(hi:Hs xs i= .agg ys)(hj:Hs ys j= .c (.val v))
  (h:CW P B Q q f (D6 xs i (.agg (D6 ys j (.c c)))) dst K s):CW P B Q q f xs dst K s:=by
 obtain ⟨h⟩:=h;refine ⟨h.1,fun E a w hs vs hl' hv=>h.2 E a w hs vs (by rw [Cn];exact hl') fun m z hz=>?_⟩;rw [Dv] at hz
 split at hz
 ·rename_i hm
  obtain ⟨rfl,hm⟩:=hm;obtain rfl:=Option.some.inj hz;have hd:=hv i (.agg ys) (by rw [Dc,List.getElem?_eq_getElem hm] at hi;rw [List.getElem?_eq_getElem hm];simpa using hi);generalize vs.getD i undef=u at hd
  cases hd with
  |agg ws hwl hw=>
   refine .agg ws (by rw [Cn];exact hwl) fun n y hy=>?_;rw [Dv] at hy
   split at hy
   ·rename_i hn
    obtain ⟨rfl,hn⟩:=hn;obtain rfl:=Option.some.inj hy;have hd2:=hw j (.c (.val v)) (by rw [Dc,List.getElem?_eq_getElem hn] at hj;rw [List.getElem?_eq_getElem hn];simpa using hj);rw [Bo hd2];exact Dr.c (A:=s.avoid E) (N:=s.next) (hF.now hs (fun _ h=>h) _ (List.mem_of_getElem? hl))
   exact hw n y hy
 exact hv m z hz
theorem C4z (hT:Cs P T)(wr:Bool){J:Type}{B:Be}{Q:Exit→Act→World→Prop}{c:Code}{K:List KI}{s:AS}(fs:List Nat)(us:J→List (Nat×AV))(bs:J→List Bx)(os:J→List Ow)(φ:J→Prop)
  (h1:vcW P B Q (Oz T wr 100000 (.code c:: .loop (Inv B (fun j=>s.upd fs (us j) (bs j) (os j)) φ (fun _=>0) 1)::K) s))
  (h2:∀j,φ j→GW P B Q K (s.upd fs (us j) (bs j) (os j))):GW P B Q (.code c::K) s:=by
 refine ⟨fun E a w hs=>?_⟩;have g1:G P B Q (.code c:: .loop (Inv B (fun j=>s.upd fs (us j) (bs j) (os j)) φ (fun _=>0) 1)::K) s:=(go hT wr h1).rec id;refine Code.wp_mono (fun e a' w' hq=>?_) (g1 E a w hs)
 cases e with
 |normal=>
  obtain ⟨j,hj,_,E',hE'⟩:=(hq:Inv B (fun j=>s.upd fs (us j) (bs j) (os j)) φ (fun _=>0) 1 a' w');exact (h2 j hj).out E' a' w' hE'
 |exit id=>exact hq
 |goto l=>exact hq
 |ret=>exact hq
 |panic c=>exact hq
 |outgrown=>exact hq
theorem A6p {B:Be}{pins:List (Ai×Value)}(hF:M6 B pins){Q:Exit→Act→World→Prop}{K:List KI}{s:AS}(k j l:Nat){c:Ai}{v:Value}{b:Bx}(hl:pins[l]? =some (c,v))(hb:Fl s.boxes k=some b)(hj:Hs b.cells j= .c (.val v))
  (h:GW P B Q K {s with boxes:=F7 s.boxes k (D6 b.cells j (.c c))}):GW P B Q K s:=by
 obtain ⟨hm,hk⟩:=F3 hb
 have keys:∀(l:List Bx) (cs:List AV),(F7 l k cs).map (·.key)=l.map (·.key):=fun l cs=>by
  induction l with
  |nil=>rfl
  |cons x r ih=>
   unfold F7
   split
   ·rfl
   simp [ih]
 have mem:∀(l:List Bx) (cs:List AV) (x:Bx),x∈F7 l k cs→x∈l∨(x=⟨k,cs⟩∧∃y,Fl l k=some y):=fun l cs=>by
  induction l with
  |nil=>intro x hx;simp [F7] at hx
  |cons y r ih=>
   intro x hx;unfold F7 at hx
   split at hx
   ·rename_i hy
    rcases List.mem_cons.1 hx with rfl|hx
    ·refine .inr ⟨by rw [←Nat.eq_of_beq_eq_true hy],y,by simp [Fl,hy]⟩
    exact .inl (List.mem_cons_of_mem _ hx)
   rename_i hy
   rcases List.mem_cons.1 hx with rfl|hx
   ·exact .inl C8
   rcases ih x hx with h|⟨h1,h2⟩
   ·exact .inl (List.mem_cons_of_mem _ h)
   exact .inr ⟨h1,by simpa [Fl,hy] using h2⟩
 refine ⟨fun E a w hs=>h.rec fun g=>g E a w ?_⟩
 have av:∀z,({s with boxes:=F7 s.boxes k (D6 b.cells j (.c c))}:AS).avoid E z↔s.avoid E z:=fun z=>by
  have hk2:(∃x∈F7 s.boxes k (D6 b.cells j (.c c)),E.β x.key=z)↔∃x∈s.boxes,E.β x.key=z:=by
   have e:=keys s.boxes (D6 b.cells j (.c c))
   constructor
   ·rintro ⟨x,hx,rfl⟩
    have:x.key∈s.boxes.map (·.key):=by rw [←e];exact List.mem_map_of_mem hx
    obtain ⟨y,hy,h2⟩:=List.mem_map.1 this;exact ⟨y,hy,by rw [h2]⟩
   rintro ⟨x,hx,rfl⟩
   have:x.key∈(F7 s.boxes k (D6 b.cells j (.c c))).map (·.key):=by rw [e];exact List.mem_map_of_mem hx
   obtain ⟨y,hy,h2⟩:=List.mem_map.1 this;exact ⟨y,hy,by rw [h2]⟩
  unfold AS.avoid;exact or_congr hk2 Iff.rfl
 have hav:({s with boxes:=F7 s.boxes k (D6 b.cells j (.c c))}:AS).avoid E=s.avoid E:=funext fun z=>propext (av z)
 have hbox:∀x∈F7 s.boxes k (D6 b.cells j (.c c)),x.key<s.next∧∃vs ty,w.heap[E.β x.key]? =some (.cells vs ty (0,0))∧vs.size=x.cells.length∧∀i y,x.cells[i]? =some y→Dr E w (s.avoid E) s.next y (vs.getD i undef):=fun x hx=>by
  rcases mem _ _ _ hx with h|⟨rfl,_⟩
  ·exact hs.boxes x h
  obtain ⟨h1,vs,ty,h2,h3,h4⟩:=hs.boxes b hm;refine ⟨hk▸h1,vs,ty,by rw [←hk];exact h2,by rw [Cn];exact h3,fun i y hy=>?_⟩;rw [Dv] at hy
  split at hy
  ·rename_i hi
   obtain ⟨rfl,hi⟩:=hi;obtain rfl:=Option.some.inj hy;have hd:=h4 j (.c (.val v)) (by rw [Dc,List.getElem?_eq_getElem hi] at hj;rw [List.getElem?_eq_getElem hi];simpa using hj);rw [Bo hd];exact .c (hF.now hs (fun _ h=>h) _ (List.mem_of_getElem? hl))
  exact h4 i y hy
 have hmk:∀x∈F7 s.boxes k (D6 b.cells j (.c c)),∃y∈s.boxes,y.key=x.key:=fun x hx=>by
  rcases mem _ _ _ hx with h|⟨rfl,_⟩
  ·exact ⟨x,h,rfl⟩
  exact ⟨b,hm,hk⟩
 refine ⟨hs.defers,hs.links,hs.size,fun i x hx=>by rw [hav];exact hs.slots i x hx,fun x hx=>by rw [hav];exact hbox x hx,fun x hx y hy e=>?_,by rw [keys];exact hs.keys,hs.own,hs.ownkeys,hs.sep,fun x hx y hy=>?_,hs.one,hs.base,fun z hz=>hs.fresh z (by rw [hav] at hz;exact hz)⟩
 ·obtain ⟨x',hx',ex⟩:=hmk x hx
  obtain ⟨y',hy',ey⟩:=hmk y hy;rw [←ex,←ey];exact hs.boxes2 x' hx' y' hy' (by rw [ex,ey];exact e)
 obtain ⟨x',hx',ex⟩:=hmk x hx;rw [←ex];exact hs.sepB x' hx' y hy
theorem A6q {B:Be}{pins:List (Ai×Value)}(hF:M6 B pins){Q:Exit→Act→World→Prop}{q:Bool}{f:FuncId}{xs:List AV}{dst:Option Tmp}{K:List KI}{s:AS}(i l:Nat){c:Ai}{v:Value}(hl:pins[l]? =some (c,v))(hi:Hs xs i= .c (.val v))
  (h:CW P B Q q f (D6 xs i (.c c)) dst K s):CW P B Q q f xs dst K s:=by
 obtain ⟨h⟩:=h;refine ⟨h.1,fun E a w hs vs hl' hv=>h.2 E a w hs vs (by rw [Cn];exact hl') fun m z hz=>?_⟩;rw [Dv] at hz
 split at hz
 ·rename_i hm
  obtain ⟨rfl,hm⟩:=hm;obtain rfl:=Option.some.inj hz;have hd:=hv i (.c (.val v)) (by rw [Dc,List.getElem?_eq_getElem hm] at hi;rw [List.getElem?_eq_getElem hm];simpa using hi);rw [Bo hd];exact Dr.c (A:=s.avoid E) (N:=s.next) (hF.now hs (fun _ h=>h) _ (List.mem_of_getElem? hl))
 exact hv m z hz
end Go.Sx
set_option maxRecDepth 100000
namespace Go.Sx
open Go
variable {P : Program} {T : List (TypeId × TI)}
theorem C1e {B:Be}{Q:Exit→Act→World→Prop}{K:List KI}{s:AS}(k jn off:Nat){es n:Nat}{row:Nat→List Ai}(hk:Cb s.own k=some (.sl n es row))(hj:jn<n){c:Ai}(hc:(row jn)[off]? =some c)
  (h:∀v,GW P B Q K {s with own:=⟨s.next,c⟩::⟨k,.sl n es fun i=>if i=jn then Ds (row i) off [.val v] else row i⟩::Bz [k] s.own,next:=s.next+1,links:=(s.next,v)::s.links}):GW P B Q K s:=by
 refine ⟨fun E a w hs=>?_⟩;have hm:=Cp hk;obtain ⟨hklt,o2,o3⟩:=hs.own _ hm
 simp only at o2 o3 hklt
 generalize hov:E.ov k=ovk at o2;generalize hfp:E.fp k=fp at o2 o3
 cases o2 with
 |nil=>exact absurd hj (Nat.not_lt_zero _)
 |emp=>exact absurd hj (Nat.not_lt_zero _)
 |sl _ _ _ b offb cap ty cells fps hn hcp hb hcs hl hr=>
  have hoff:off<es:=by have:=(List.getElem?_eq_some_iff.1 hc).1;rwa [hl jn hj] at this
  have hin:=hr jn off c hj hc;obtain ⟨hb0,hnd1⟩:=List.nodup_cons.1 o3;obtain ⟨f1,f2⟩:=Cw.1 hnd1;have hpos:jn * es+off<n * es:=Fz hj hoff
  have hcl:(offb+jn) * es+off<cells.size:=by
   have:=Fz (show offb+jn<offb+cap by omega) hoff
   omega
  generalize hu:cells.getD ((offb+jn) * es+off) undef=u at hin
  have hdis:∀z∈fps (jn * es+off),z≠b∧∀k,k<n * es→k≠jn * es+off→z∉fps k:=by
   intro z hz;refine ⟨fun e=>hb0 (e▸Ek hpos hz),fun k hk hne hz'=>?_⟩;have hp:=List.pairwise_iff_getElem.1 f2
   rcases Nat.lt_or_gt_of_ne hne with h'|h'
   ·have:=hp k (jn * es+off) (by simpa using hk) (by simpa using hpos) h' z
    simp only [List.getElem_range] at this;exact this hz' hz
   have:=hp (jn * es+off) k (by simpa using hpos) (by simpa using hk) h' z
   simp only [List.getElem_range] at this;exact this hz hz'
  have hone:u.oneCell'=true:=hin.one
  obtain ⟨s1,s2⟩:=A1s hn hcp hb hcs hl hr o3 hj hoff (c:= .val u) (g:=[]) (by rw [hu];exact .val u hone) C8 C8
   (c':= .sl n es fun i=>if i=jn then Ds (row i) off [.val u] else row i) ⟨_,rfl,fun i _ hne=>by simp [hne],by simp⟩
  have hI:=hs.drop [k]
  have key:∀z,z∈b::(List.range (n * es)).flatMap fps→s.avoid E z∧¬ ({s with own:=Bz [k] s.own}:AS).avoid E z∧B.fresh z:=by
   intro z hz;have hzk:z∈E.fp k:=by rw [hfp];exact hz
   have hav:s.avoid E z:= .inr ⟨_,hm,hzk⟩;refine ⟨hav,?_,hs.fresh z hav⟩
   rintro (⟨r,hr',rfl⟩|⟨r,hr',hz'⟩)
   ·exact hs.sepB r hr' _ hm hzk
   obtain ⟨q1,q2⟩:=Cr.1 hr';exact hs.sep _ hm r q1 (fun e=>q2 (by simp at e;simp [e])) z hzk hz'
  have sub1:∀z,z∈b::(List.range (n * es)).flatMap (fun k=>if k=jn * es+off then [] else fps k)→z∈b::(List.range (n * es)).flatMap fps:=by
   intro z hz
   rcases List.mem_cons.1 hz with rfl|hz
   ·simp
   obtain ⟨p,hp,hz⟩:=List.mem_flatMap.1 hz
   split at hz
   ·simp at hz
   exact List.mem_cons_of_mem _ (List.mem_flatMap.2 ⟨p,hp,hz⟩)
  have hI3:=hI.addAt (k:=k) hklt (fun y' hy=>fun e=>(Cr.1 hy).2 (by rw [e];simp)) (by rw [hov];exact s1) s2 (fun z hz=>key z (sub1 z hz))
  have hav3:∀z,z∈fps (jn * es+off)→¬ ({s with own:=⟨k,.sl n es fun i=>if i=jn then Ds (row i) off [.val u] else row i⟩::Bz [k] s.own}:AS).avoid (E.setFp k (b::(List.range (n * es)).flatMap (fun k=>if k=jn * es+off then [] else fps k))) z:=by
   intro z hz;have hzin:z∈b::(List.range (n * es)).flatMap fps:=List.mem_cons_of_mem _ (Ek hpos hz)
   rintro (⟨r,hr',rfl⟩|⟨r,hr',hz'⟩)
   ·exact (key _ hzin).2.1 (.inl ⟨r,hr',rfl⟩)
   rcases List.mem_cons.1 hr' with rfl|hr'
   ·simp only [E7.setFp,if_true] at hz'
    rcases List.mem_cons.1 hz' with rfl|hz'
    ·exact (hdis _ hz).1 rfl
    obtain ⟨p,hp,hz'⟩:=List.mem_flatMap.1 hz'
    split at hz'
    ·simp at hz'
    exact (hdis z hz).2 p (List.mem_range.1 hp) (by assumption) hz'
   have hne:r.key≠k:=fun e=>(Cr.1 hr').2 (by rw [e];simp);simp only [E7.setFp,hne,if_false] at hz';exact (key z hzin).2.1 (.inr ⟨r,hr',hz'⟩)
  obtain ⟨k1,k2⟩:=hI3.addOwn hin (f1 _ (List.mem_range.2 hpos)) (fun z hz=>⟨(key z (List.mem_cons_of_mem _ (Ek hpos hz))).1,hav3 z hz,(key z (List.mem_cons_of_mem _ (Ek hpos hz))).2.2⟩)
  have k3:({s with own:=⟨s.next,c⟩::⟨k,.sl n es fun i=>if i=jn then Ds (row i) off [.val u] else row i⟩::Bz [k] s.own,next:=s.next+1,links:=(s.next,u)::s.links}:AS).isA B
    ((E.setFp k (b::(List.range (n * es)).flatMap (fun k=>if k=jn * es+off then [] else fps k))).withOwn s.next u (fps (jn * es+off))) (s.avoid E) a w:=by
   refine ⟨k1.defers,fun p hp=>?_,k1.size,k1.slots,k1.boxes,k1.boxes2,k1.keys,k1.own,k1.ownkeys,k1.sep,k1.sepB,k1.one,k1.base,k1.fresh,k1.sub⟩
   rcases List.mem_cons.1 hp with rfl|hp
   ·exact ⟨Nat.lt_succ_self _,by simp [E7.withOwn]⟩
   exact k1.links p hp
  exact (h u).out _ _ w k3.is
theorem B8g (row:Nat→List Ai)(j off:Nat)(r:List Ai)(v:Value):(fun i=>if i=j then Ds (Ga row j r i) off [.val v] else Ga row j r i)=Ga row j (Ds r off [.val v]):=by
 funext i
 unfold Ga
 by_cases h:i=j
 ·subst h;simp
 simp [h]
theorem C5j {B:Be}{Q:Exit→Act→World→Prop}{K:List KI}{s:AS}(k j:Nat){es n:Nat}{row:Nat→List Ai}{r:List Ai}(hk:Cb s.own k=some (.sl n es row))(hr:row j=r)
  (h:GW P B Q K {s with own:=Ht s.own k (.sl n es (Ga row j r))}):GW P B Q K s:=by
 refine Es k (.sl n es (Ga row j r)) hk ⟨rfl,rfl,fun i _=>?_⟩ h;unfold Ga
 split
 ·rename_i e;subst e;rw [hr];exact Gb.refl _
 exact Gb.refl _
theorem C3v {B:Be}{Q:Exit→Act→World→Prop}{K:List KI}{s:AS}(k j off:Nat){es n:Nat}{row:Nat→List Ai}{r:List Ai}(hk:Cb s.own k=some (.sl n es (Ga row j r)))(hj:j<n){c:Ai}(hc:r[off]? =some c)
  (h:∀v,GW P B Q K {s with own:=⟨s.next,c⟩::⟨k,.sl n es (Ga row j (Ds r off [.val v]))⟩::Bz [k] s.own,next:=s.next+1,links:=(s.next,v)::s.links}):GW P B Q K s:=by
 refine C1e k j off hk hj (by rw [Dg];exact hc) (fun v=>?_)
 have:=h v
 rw [←B8g] at this;exact this
theorem Gd {B:Be}{Q:Exit→Act→World→Prop}{K:List KI}{s:AS}(i k:Nat){v:Value}(hl:Ed s.links k=some v)(hi:Hs s.slots i= .c (.val v))(h:GW P B Q K {s with slots:=D6 s.slots i (.own k)}):GW P B Q K s:=by
 refine ⟨fun E a w hs=>h.rec fun g=>g E a w ⟨hs.defers,hs.links,by rw [hs.size];exact (Cn _ _ _).symm,fun m z hz=>?_,hs.boxes,hs.boxes2,hs.keys,hs.own,hs.ownkeys,hs.sep,hs.sepB,hs.one,hs.base,hs.fresh⟩⟩
 simp only at hz
 rw [Dv] at hz
 split at hz
 ·rename_i hm
  obtain ⟨rfl,hm⟩:=hm;obtain rfl:=Option.some.inj hz;have hd:=hs.slots i (.c (.val v)) (by rw [Dc,List.getElem?_eq_getElem hm] at hi;rw [List.getElem?_eq_getElem hm];simpa using hi);obtain ⟨h1,h2⟩:=hs.links _ (Fy hl);have h2:E.ov k=v:=h2;rw [Bo hd,←h2];exact .own h1
 exact hs.slots m z hz
theorem C46 (hT:Cs P T){B:Be}{Q:Exit→Act→World→Prop}{q:Bool}{all:Array Oper}{o:Oper}{rest:List Oper}{K:List KI}{s:AS}{x:Operand}{t:TypeId}{i:TI}
  (hg:o.guard=none)(ho:o.op= .load t x)(hi:find T t=some i){k es off n jn:Nat}{j:Int}{row:Nat→List Ai}{r:List Ai}{xs:List AV}
  (hx:s.ev x= .oel k es j off)(hk:Cb s.own k=some (.sl n es (Ga row jn r)))(hjn:j.toNat=jn)(hf:M9 r=some xs)(hle:Nat.ble (off+i.size) r.length=true)
  (h:GW P B Q (.ops q all rest::K) (s.put o.dst (Le i xs off))):GW P B Q (.ops q all (o::rest)::K) s:=by
 refine ⟨Er hg (fun E a w hs=>?_)⟩;have hm:=Cp hk;obtain ⟨hklt,o2,o3⟩:=hs.own _ hm
 simp only at o2 o3 hklt
 have hev:=hs.ev x;rw [hx] at hev;generalize hv:a.eval x=v at hev
 cases hev with
 |oel _ b o' n' cap hkl hov h0 hj=>
  rw [hov] at o2;obtain ⟨m,rfl⟩:=Int.eq_ofNat_of_zero_le h0;simp only [Int.toNat_natCast,Int.ofNat_lt] at *;subst hjn;generalize E.fp k=fp at o2
  cases o2 with
  |emp=>exact absurd hj (Nat.not_lt_zero _)
  |sl _ _ _ _ offb _ ty cells fps hn hc hb hsz hl hr=>
   have hrow:Ga row m r m=r:=Dg _ _ _;have hrl:r.length=es:=by have:=hl m hj;rwa [hrow] at this
   have hle2:off+i.size≤r.length:=Nat.le_of_ble_eq_true hle;obtain ⟨f1,f2⟩:=Xr hf
   have hlt:∀p,p<es→(offb+m) * es+p<cells.size:=fun p hp=>by
    have:=Fz (show offb+m<offb+cap by omega) hp
    omega
   have hd:∀p y,xs[p]? =some y→Dr E w (s.avoid E) s.next y (((List.range es).map fun p=>cells.getD ((offb+m) * es+p) undef).getD p undef):=by
    intro p y hp;obtain ⟨v',hv1,rfl⟩:=f2 p y hp;have hpl:p<es:=by rw [←hrl];exact (List.getElem?_eq_some_iff.1 hv1).1
    have:=hr m p _ hj (by rw [hrow];exact hv1)
    simp only [List.getD,List.getElem?_map,List.getElem?_range,hpl,Option.map_some,Option.getD_some];generalize cells.getD ((offb+m) * es+p) undef=u,fps (m * es+p)=g at this
    cases this with
    |val _ h1=>exact .c (.val _ h1)
   have hread:=Qz xs ((List.range es).map fun p=>cells.getD ((offb+m) * es+p) undef) off i (by rw [f1];exact hle2) hd
   have hrun:∀w',Ez w w'→_:=fun w' hkw=>Hp (hT t i hi) w' b (offb * es+m * es+off) ((List.range i.size).map fun p=>((List.range es).map fun p=>cells.getD ((offb+m) * es+p) undef).getD (off+p) undef) C8 (fun p hp=>by
    have h1:off+p<es:=by omega
    have:=hlt (off+p) h1
    rw [show offb * es+m * es+off+p=(offb+m) * es+(off+p) by rw [Nat.add_mul];omega]
    refine hkw.cell ?_;rw [cell_of_row w b _ cells ty (0,0) hb]
    simp [List.getD,hp,h1,Array.getD,this])
   refine ⟨_,fun w' hkw=>?_,h.out E _ w (hs.put o.dst hread)⟩;obtain ⟨dst,op',ty',pos,after,guard⟩:=o
   simp only at ho
   subst ho;simp only [execOp,hv,Instr.loadAt,Instr.sureAddr,Sem.run_bind,Sem.run_pure,Result.andThen_ok,hrun w' hkw]
   cases hag:i.agg with
   |true=>rfl
   |false=>
    obtain ⟨f,d,z,S⟩:=TI.of_spec (hT t i hi);have h1:=S.one (by rw [←S.agg];exact hag)
    simp [h1]
end Go.Sx
