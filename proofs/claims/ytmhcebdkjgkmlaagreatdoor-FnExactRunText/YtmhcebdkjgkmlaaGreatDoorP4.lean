/- Part 4 of the proof that each of the laws FnExactWhoIsDone, FnExactResultText, FnExactRunText returns true for every input. No conditions. -/
import Derived.Test.YtmhcebdkjgkmlaaGreatDoorP3

set_option linter.unusedSimpArgs false
set_option linter.unusedVariables false
set_option maxRecDepth 100000
namespace Go.Sx
open Go
open Go.RowKit (Below)
variable {P : Program} {T : List (TypeId × TI)}
structure Lz (W:World) (B:Fa) (c:Ag) (v:Value) (fp:List Nat):Prop where
 own:Bp B.w0 c v fp
 nodup:fp.Nodup
 new:∀b∈fp,W.heap.size≤b
 out:∀b∈fp,¬ B.may b
 below:∀w,B.rel w→Below W.heap.size W w
 fresh:∀b,B.fresh b→W.heap.size≤b
variable {W : World} {B : Fa} {c : Ag} {v : Value} {fp : List Nat} {w : World}
theorem Lz.now (h:Lz W B c v fp)(hr:B.rel w):Bp w c v fp:=
 h.own.move fun b hb=>hr.block b (h.own.lt b hb) (h.out b hb)
theorem Lz.free (h:Lz W B c v fp){b:Nat}(hb:b∈fp):¬ B.fresh b:=by
 rintro (h1|h1)
 ·have:=h.own.lt b hb
  omega
 exact h.out b hb h1
variable {s : AS}
theorem Lz.rep (h:Lz W B c v fp){E:Fm}{a:Act}(hs:s.is B E a w):R2 w (s.ag E) c v:=
 (h.now hs.base).rep fun _ hb hav=>h.free hb (hs.fresh _ hav)
variable {Q : Exit → Act → World → Prop} {K : List KI}
theorem D25 (hF:Lz W B c v fp)(i:Nat)(hi:I7 s.af i= .c (.val v))(h:GW P B Q K {s with af:=C4 s.af i (.c c)}):GW P B Q K s:=by
 refine ⟨fun E a w hs=>h.rec fun g=>g E a w ⟨hs.defers,hs.ay,by rw [hs.size];exact (Bm _ _ _).symm,fun m z hz=>?_,hs.aw,hs.boxes2,hs.keys,hs.own,hs.ownkeys,hs.sep,hs.sepB,hs.one,hs.base,hs.fresh⟩⟩
 simp only at hz
 rw [Ck] at hz
 split at hz
 ·rename_i hm
  obtain ⟨rfl,hm⟩:=hm;obtain rfl:=D3 hz;have hd:=hs.af i (.c (.val v)) (by rw [C7,Cl hm] at hi;rw [Cl hm];simpa using hi);rw [B4 hd];exact Cm.c (A:=s.ag E) (N:=s.next) (hF.rep hs)
 exact hs.af m z hz
variable {xs : List AV} {dst : Option Tmp}
theorem D24 {q:Bool}{f:FuncId}(hF:Lz W B c v fp)(i:Nat)(hi:I7 xs i= .c (.val v))(h:CW P B Q q f (C4 xs i (.c c)) dst K s):CW P B Q q f xs dst K s:=by
 obtain ⟨h⟩:=h;refine ⟨h.1,fun E a w hs vs hl hv=>h.2 E a w hs vs (by rw [Bm];exact hl) fun m z hz=>?_⟩;rw [Ck] at hz
 split at hz
 ·rename_i hm
  obtain ⟨rfl,hm⟩:=hm;obtain rfl:=D3 hz;have hd:=hv i (.c (.val v)) (by rw [C7,Cl hm] at hi;rw [Cl hm];simpa using hi);rw [B4 hd];exact .c (hF.rep hs)
 exact hv m z hz
def C6l (k:Nat) (v:Value) (x:AV):AV:=
 match x with
 | .own j=>match Nat.beq j k with
  |true=> .c (.val v)
  |false=> .own j
 | .oel _ _ _ _=> .any
 | .agg _=> .any
 | .tup _=> .any
 | .fn _ _=> .any
 |x=>x
def A1a (k:Nat) (v:Value) (l:List AV):List AV:=
 match l with
 | []=>[]
 |x::r=>C6l k v x::A1a k v r
def C1j (k:Nat) (v:Value) (l:List Bx):List Bx:=
 match l with
 | []=>[]
 |b::r=>⟨b.key,A1a k v b.cells⟩::C1j k v r
theorem B1q (k:Nat)(v:Value)(l:List AV)(i:Nat):(A1a k v l)[i]? =l[i]?.map (C6l k v):=by
 induction l generalizing i with
 |nil=>simp [A1a]
 |cons x r ih=>cases i<;>simp [A1a,ih]
theorem A1b (k:Nat)(v:Value)(l:List AV):(A1a k v l).length=l.length:=by
 induction l with
 |nil=>rfl
 |cons x r ih=>simp [A1a,ih]
theorem Sr (k:Nat)(v:Value)(l:List Bx):C1j k v l=l.map fun b=>⟨b.key,A1a k v b.cells⟩:=by
 induction l with
 |nil=>rfl
 |cons x r ih=>simp [C1j,ih]
def AS.froz (s:AS) (k:Nat) (v:Value):AS:= {next:=s.next,af:=A1a k v s.af,aw:=C1j k v s.aw,own:=Ba [k] s.own,ay:=s.ay}
theorem Z8 {k:Nat}{E:Fm}{b:Nat}(h:(s.froz k v).ag E b):s.ag E b:=by
 rcases h with ⟨x,hx,hb⟩|⟨y,hy,hb⟩
 ·simp only [AS.froz,Sr,Fu] at hx
  obtain ⟨z,hz,rfl⟩:=hx;exact .inl ⟨z,hz,hb⟩
 exact .inr ⟨y,(Bh.1 hy).1,hb⟩
theorem B5y {k:Nat}{E:Fm}{x:AV}{u:Value}(h1:(E.ov k).oneCell'=true)(h:Cm E w (s.ag E) s.next x u):Cm E w ((s.froz k (E.ov k)).ag E) s.next (C6l k (E.ov k) x) u:=by
 have h:=h.move (E':=E) (A':=(s.froz k (E.ov k)).ag E) (Df _) (fun _ _=>⟨rfl,rfl⟩) (fun _ _ _=>rfl) (fun b _ hb=>Z8 hb)
 cases x with
 |own j=>
  show Cm E w _ s.next (match Nat.beq j k with|true=> .c (.val (E.ov k))|false=> .own j) u
  split
  ·rename_i he
   obtain rfl:=Fl he
   cases h with
   |own hk=>exact .c (.val _ h1)
  exact h
 |any=>exact .any _
 |c x=>exact h
 |box k o=>exact h
 |el n es row i off=>exact h
 |oel k es i off=>exact .any _
 |agg xs=>exact .any _
 |tup xs=>exact .any _
 |fn f xs=>exact .any _
theorem C9q (k:Nat)(hk:Bl s.own k=some c)(h:∀(B:Fa) (v:Value) (fp:List Nat),Lz W B c v fp→GW P B Q K (s.froz k v)):GW P ⟨W,fun _=>False⟩ Q K s:=by
 refine ⟨fun E a w hs=>?_⟩;have hm:=C2 hk;obtain ⟨g1,g2,g3⟩:=hs.own _ hm;have hnew:∀b,s.ag E b→W.heap.size≤b:=fun b hb=>(hs.fresh b hb).elim id False.elim
 have hF:Lz W ⟨w,fun b=>(s.froz k (E.ov k)).ag E b⟩ c (E.ov k) (E.fp k):=by
  refine ⟨g2,g3,fun b hb=>hnew b (.inr ⟨_,hm,hb⟩),fun b hb hav=>?_,fun w' hr=>?_,fun b hb=>?_⟩
  ·rcases hav with ⟨x,hx,rfl⟩|⟨y,hy,hb'⟩
   ·simp only [AS.froz,Sr,Fu] at hx
    obtain ⟨z,hz,rfl⟩:=hx;exact hs.sepB z hz _ hm hb
   obtain ⟨hy,hne⟩:=Bh.1 hy;exact hs.sep y hy _ hm (by simpa using hne) b hb' hb
  ·have hb:=hs.base
   refine ⟨hr.os.trans hb.os,hr.tape.trans hb.tape,hr.output.trans hb.output,Ew hb.size hr.size,fun j hj=>?_⟩;rw [hr.block j (Kc hj hb.size) (fun hav=>by have:=hnew j (Z8 hav);omega)];exact hb.block j hj (fun h=>h)
  rcases hb with hb|hb
  ·exact Ew hs.base.size hb
  exact hnew b (Z8 hb)
 have h1:=hs.one k g1;refine (h _ _ _ hF).rec fun g=>g E a w ⟨hs.defers,hs.ay,?_,fun i x hx=>?_,fun x hx=>?_,fun x hx y hy e=>?_,?_,fun y hy=>hs.own y (Bh.1 hy).1,Wi hs.ownkeys,fun y hy z hz=>hs.sep y (Bh.1 hy).1 z (Bh.1 hz).1,fun x hx y hy=>?_,hs.one,⟨rfl,rfl,rfl,Df _,fun _ _ _=>rfl⟩,fun b hb=> .inr hb⟩
 ·rw [hs.size];exact (A1b _ _ _).symm
 ·simp only [AS.froz,B1q,Ee] at hx
  obtain ⟨z,hz,rfl⟩:=hx;exact B5y h1 (hs.af i z hz)
 ·simp only [AS.froz,Sr,Fu] at hx
  obtain ⟨z,hz,rfl⟩:=hx;obtain ⟨k1,vs,ty,k2,k3,k4⟩:=hs.aw z hz;refine ⟨k1,vs,ty,k2,by rw [k3];exact (A1b _ _ _).symm,fun i y hy=>?_⟩;simp only [B1q,Ee] at hy;obtain ⟨u,hu,rfl⟩:=hy;exact B5y h1 (k4 i u hu)
 ·simp only [AS.froz,Sr,Fu] at hx hy
  obtain ⟨x,hx,rfl⟩:=hx;obtain ⟨y,hy,rfl⟩:=hy;exact hs.boxes2 x hx y hy e
 ·have e:((s.froz k (E.ov k)).aw.map (·.key))=s.aw.map (·.key):=by
   simp only [AS.froz,Sr,List.map_map];rfl
  rw [e];exact hs.keys
 simp only [AS.froz,Sr,Fu] at hx;obtain ⟨x,hx,rfl⟩:=hx;exact hs.sepB x hx y (Bh.1 hy).1
variable {ax : List Gl}
theorem D1k {H:World→Prop}{q:Bool}{f:FuncId}{ins:List Gl}(hF:Lz W B c v fp)(hf:Dy P H f ins ax)(hst:A6c H)(hW:H W)(hx:Ix s xs=some ins)(h:GW P B Q K (s.put dst (Pa ax))):CW P B Q q f xs dst K s:=by
 refine ⟨hf.1,fun E a w hs vs hl hv=>?_⟩;have hm:Px P f ins ax→True:=fun _=>trivial
 have hH:H w:=hst W w (hF.below w hs.base) hW;obtain ⟨h1,h2⟩:=Ji hx;refine (hf.2 w hH vs A7 (fun i x hi=>?_)).mono (fun e w' hg=>?_)
 ·obtain ⟨y,hy,hc⟩:=h2 i x hi
  exact Ku hs hc (hv i y hy)
 obtain ⟨hb,rs,fps,rfl,hrl,hro,hfr,hdis⟩:=hg;have hI:=(hs.call hb).is
 have hno:∀i,i<ax.length→∀b∈fps i,¬ s.ag E b:=fun i hi b hb' hav=>by
  have:=hs.avoid_lt hav
  have:=(hfr i hi).2 b hb'
  omega
 have hone:∀i y,ax[i]? =some y→Cm E w' (s.ag E) s.next (La y) (rs.getD i undef):=by
  intro i y hy;have hi:i<ax.length:=(Cq.1 hy).1;have ho:=hro i y hy
  cases y with
  |one c=>exact .c (Bp.rep ho (hno i hi))
  |agg cs=>
   obtain ⟨us,gps,hu,hul,hur,hfp⟩:=ho;rw [hu];refine .agg us (by simp [hul]) (fun j x hj=>?_);simp only [E8,Ee] at hj;obtain ⟨c,hc,rfl⟩:=hj;have hj:j<cs.length:=(Cq.1 hc).1;exact .c ((hur j c hc).rep (fun b hb'=>hno i hi b (by rw [hfp];exact Du hj hb')))
  |ptr cs=>exact ho.elim
  |fn f an=>exact ho.elim
 have hres:Cm E w' (s.ag E) s.next (Pa ax) (Ir rs):=by
  have:=Gp (E:=E) (A:=s.ag E) (N:=s.next) (w:=w') ax (ax.map La) rs hrl Bi (fun i x hi=>by
   simp only [E8,Ee] at hi;obtain ⟨y,hy,rfl⟩:=hi
   exact hone i y hy)
  match ax,this with
  | [],this=>exact this
  | [o],this=>exact this
  |o1::o2::r,this=>exact this
 exact ⟨_,rfl,fun _=> .of_below hb,h.rec fun g=>g E _ w' (hI.put dst hres)⟩
structure Vf (B:Fa) (w':World) (ax:List Gl) (e:Ending):Prop where
 rel:B.rel w'
 res:∃(rs:List Value) (fps:Nat→List Nat),e= .returned (Ir rs)∧rs.length=ax.length∧(∀i y,ax[i]? =some y→Mt w' y (rs.getD i undef) (fps i))∧
  (∀i,i<ax.length→(fps i).Nodup∧∀b∈fps i,B.fresh b)∧∀i j,i<ax.length→j<ax.length→i≠j→∀b∈fps i,b∉fps j
theorem Vf.gives (hF:Lz W B c v fp){w':World}{e:Ending}(h:Vf B w' ax e):Jb W w' ax e:=by
 obtain ⟨h1,rs,fps,h2,h3,h4,h5,h6⟩:=h;exact ⟨hF.below _ h1,rs,fps,h2,h3,h4,fun i hi=>⟨(h5 i hi).1,fun b hb=>hF.fresh b ((h5 i hi).2 b hb)⟩,h6⟩
theorem Vf.givesV (hF:Lz W B c v fp){w':World}{e:Ending}(j:Nat)(hj:ax[j]? =some (.one (.val v)))(h:Vf B w' ax e):Jb W w' (ax.set j (.one c)) e:=by
 obtain ⟨h1,rs,fps,h2,h3,h4,h5,h6⟩:=h;have hjl:j<ax.length:=(Cq.1 hj).1;refine ⟨hF.below _ h1,rs,fun i=>if i=j then fp else fps i,h2,by rw [Jz];exact h3,fun i y hy=>?_,fun i hi=>?_,fun i k hi hk hne b hb hb'=>?_⟩
 ·rw [List.getElem?_set] at hy
  by_cases e:i=j
  ·subst e
   rw [Ak rfl,Ak hjl] at hy;obtain rfl:=D3 hy;have ho:=h4 i _ hj
   have hv:rs.getD i undef=v:=by
    have ho:Bp w' (.val v) (rs.getD i undef) (fps i):=ho;generalize fps i=g at ho
    cases ho
    rfl
   simp only [Lt];rw [hv];exact hF.now h1
  rw [Ab (fun h=>e h.symm)] at hy;simp only [Ab e];exact h4 i y hy
 ·rw [Jz] at hi
  by_cases e:i=j
  ·simp only [Ak e]
   exact ⟨hF.nodup,hF.new⟩
  simp only [Ab e];exact ⟨(h5 i hi).1,fun b hb=>hF.fresh b ((h5 i hi).2 b hb)⟩
 rw [Jz] at hi hk
 by_cases e1:i=j
 ·have e2:k≠j:=fun e2=>hne (e1.trans e2.symm)
  simp only [Ak e1] at hb;simp only [Ab e2] at hb';exact hF.free hb ((h5 k hk).2 b hb')
 simp only [Ab e1] at hb
 by_cases e2:k=j
 ·simp only [Ak e2] at hb'
  exact hF.free hb' ((h5 i hi).2 b hb)
 simp only [Ab e2] at hb';exact h6 i k hi hk hne b hb hb'
variable {fn : Func}
theorem B4b (hT:Bw P T)(hx:Pb T fn.results.toList s=some xs)(hk:G2 (xs.flatMap Cd)=true)(ho:Ol s.own xs ax):
  C82 B (bodyPost P fn fun e w'=>Vf B w' ax e) s:=by
 intro E a w h;obtain ⟨vs,h1,h2,h3,h4⟩:=Wm hT h fn.results.toList xs hx;obtain ⟨g1,g2⟩:=Pu ho;refine ⟨h.defers,Ir vs,?_,h.base,vs,fun i=>(Cd (I7 xs i)).flatMap E.fp,rfl,by omega,fun i y hy=>?_,fun i hi=>?_,fun i j hi hj hne b hb hb'=>?_⟩
 ·rw [Qi,A3j]
  simp only [A3k,Sem.run_bind,h1,Result.andThen_ok,Sem.run_pure];exact A6 (fun v=>Result.ok v w) (T3 vs)
 ·obtain ⟨x,hx',hxo⟩:=g2 i y hy
  have:=(Kb h hxo (h4 i x hx')).1
  have e:I7 xs i=x:=by rw [C7,hx'];rfl
  simp only [e];exact this
 ·have hi':i<xs.length:=by omega
  have hnd:=Eg hk;have hxi:=Cl hi';obtain ⟨x,hx',hxo⟩:=g2 i _ (Cl hi);have hkeys:=(Kb h hxo (h4 i x hx')).2
  show ((Cd (I7 xs i)).flatMap E.fp).Nodup∧∀b∈(Cd (I7 xs i)).flatMap E.fp,B.fresh b
  rw [show I7 xs i=x by rw [C7,hx'];rfl]
  constructor
  ·have hsub:(Cd x).Nodup:=(C6.1 hnd).1 x (Gs hx')
   refine C6.2 ⟨fun k hk'=>?_,?_⟩
   ·obtain ⟨y,hy,rfl⟩:=hkeys k hk'
    exact (h.own y hy).2.2
   refine B42 ?_ hsub;intro k j hk' hj' hne b hb hb';obtain ⟨y,hy,rfl⟩:=hkeys k hk';obtain ⟨z,hz,rfl⟩:=hkeys j hj';exact h.sep y hy z hz hne b hb hb'
  intro b hb;obtain ⟨k,hk',hb⟩:=Ds.1 hb;obtain ⟨y,hy,rfl⟩:=hkeys k hk';exact h.fresh b (.inr ⟨y,hy,hb⟩)
 have hi':i<xs.length:=by omega
 have hj':j<xs.length:=by omega
 have hnd:=Eg hk;obtain ⟨x,hx',hxo⟩:=g2 i _ (Cl hi);obtain ⟨z,hz',hzo⟩:=g2 j _ (Cl hj)
 change b∈(Cd (I7 xs i)).flatMap E.fp at hb
 change b∈(Cd (I7 xs j)).flatMap E.fp at hb'
 rw [show I7 xs i=x by rw [C7,hx'];rfl] at hb
 rw [show I7 xs j=z by rw [C7,hz'];rfl] at hb'
 obtain ⟨k,hk1,hb⟩:=Ds.1 hb;obtain ⟨l,hl1,hb'⟩:=Ds.1 hb';obtain ⟨y1,hy1,rfl⟩:=(Kb h hxo (h4 i x hx')).2 k hk1;obtain ⟨y2,hy2,rfl⟩:=(Kb h hzo (h4 j z hz')).2 l hl1
 by_cases e:y1.key=y2.key
 ·have hpw:=(C6.1 hnd).2
  have e1:xs[i]=x:=by rw [Cl hi'] at hx';exact D3 hx'
  have e2:xs[j]=z:=by rw [Cl hj'] at hz';exact D3 hz'
  rcases Si hne with hlt|hlt
  ·have:=Rx.1 hpw i j hi' hj' hlt
   rw [e1,e2] at this;exact this _ hk1 (e▸hl1)
  have:=Rx.1 hpw j i hj' hi' hlt
  rw [e1,e2] at this;exact this _ hl1 (e▸hk1)
 exact h.sep y1 hy1 y2 hy2 e b hb hb'
theorem B63 (own:List Ow)(v:Value):B62 own (.c (.val v)) (.val v):=by
 unfold B62
 split
 ·rename_i h;cases h
 ·rename_i h
  obtain rfl:=Ag.val.inj (AV.c.inj h);exact .inl rfl
 ·rename_i h
  exact (A6 Ag.val (Ag.val.inj (AV.c.inj h)))
 rename_i h1 h2 h3
 exact h3 v rfl
theorem D3o (hT:Bw P T)(hF:Lz W B c v fp)(hx:Pb T fn.results.toList s=some xs)(hk:G2 (xs.flatMap Cd)=true)(ho:Ol s.own xs ax):
  RW B (bodyPost P fn fun e w'=>Jb W w' ax e) s:=
 RW.mono (fun _ _ ⟨h1,v,h2,h3⟩=>⟨h1,v,h2,h3.gives hF⟩) ⟨B4b hT hx hk ho⟩
theorem D3q (hT:Bw P T)(hF:Lz W B c v fp)(j:Nat)(hj:ax[j]? =some (.one c))(hx:Pb T fn.results.toList s=some xs)(hk:G2 (xs.flatMap Cd)=true)(ho:Ol s.own xs (ax.set j (.one (.val v)))):
  RW B (bodyPost P fn fun e w'=>Jb W w' ax e) s:=by
 have hjl:j<ax.length:=(Cq.1 hj).1
 have e:(ax.set j (.one (.val v))).set j (.one c)=ax:=by
  rw [List.set_set]
  apply A3i
  intro i;rw [List.getElem?_set]
  split
  ·rename_i h
   subst h;exact hj.symm
  rfl
 refine RW.mono (fun _ _ ⟨h1,u,h2,h3⟩=>⟨h1,u,h2,?_⟩) ⟨B4b hT hx hk ho⟩;have h:=h3.givesV hF j (by rw [List.getElem?_set,Ak rfl,Ak hjl])
 rwa [e] at h
end Go.Sx
set_option maxRecDepth 100000
namespace Go.Sx
open Go
open Go.RowKit (Below)
variable {P : Program} {T : List (TypeId × TI)}
def Sm (n:Nat) (fps:Nat→List Nat):List Nat:=(List.range n).flatMap fps
def A6b (w:World) (A:Nat→Prop) (pins:List (Ag×Value)):Prop:=∀p∈pins,R2 w A p.1 p.2
def Vh (P:Program) (H:World→Prop) (f:FuncId) (pins:List (Ag×Value)) (xs ins:List Gl) {ι:Type} (φ:ι→Prop) (ax:ι→List Gl):Prop:=
 Lk P f∧∀(w:World) (vs:List Value) (fps:Nat→List Nat) (us:List Value),vs.length=xs.length→(∀i x,xs[i]? =some x→Mt w x (vs.getD i undef) (fps i))→
  (∀i,i<xs.length→(fps i).Nodup)→(∀i j,i<xs.length→j<xs.length→i≠j→∀b∈fps i,b∉fps j)→
  (∀w',Fa.rel ⟨w,fun b=>b∈Sm xs.length fps⟩ w'→H w')→A6b w (fun b=>b∈Sm xs.length fps) pins→us.length=ins.length→
  (∀i z,ins[i]? =some z→Lf w (fun b=>b∈Sm xs.length fps) z (us.getD i undef))→
  Calls P f (vs++us).toArray w fun e w'=>∃i,φ i∧Vf ⟨w,fun b=>b∈Sm xs.length fps⟩ w' (ax i) e
structure A54 (B:Fa) (b:Nat) (w':World) (cs:List Ag) (ax:List Gl) (e:Ending):Prop where
 rel:B.rel w'
 res:∃(vs:List Value) (ty:TypeId) (rs:List Value) (fps:Nat→List Nat),e= .returned (Ir rs)∧w'.heap[b]? =some (.cells vs.toArray ty (0,0))∧rs.length=ax.length∧
  (∀i y,(Gl.agg cs::ax)[i]? =some y→Mt w' y ((Value.agg vs.toArray::rs).getD i undef) (fps i))∧
  (∀i,i<ax.length+1→(fps i).Nodup∧∀x∈fps i,B.fresh x∧x≠b)∧
  ∀i j,i<ax.length+1→j<ax.length+1→i≠j→∀x∈fps i,x∉fps j
def A58 (P:Program) (H:World→Prop) (f:FuncId) (pins:List (Ag×Value)) (cs:List Ag) (ins:List Gl) {ι:Type} (φ:ι→Prop) (cs':ι→List Ag) (ax:ι→List Gl):Prop:=
 Lk P f∧∀(w:World) (b:Nat) (vs:List Value) (ty:TypeId) (fp:List Nat) (us:List Value),w.heap[b]? =some (.cells vs.toArray ty (0,0))→Mt w (.agg cs) (.agg vs.toArray) fp→fp.Nodup→b∉fp→
  (∀w',Fa.rel ⟨w,fun x=>x=b∨x∈fp⟩ w'→H w')→A6b w (fun x=>x=b∨x∈fp) pins→us.length=ins.length→
  (∀i z,ins[i]? =some z→Lf w (fun x=>x=b∨x∈fp) z (us.getD i undef))→
  Calls P f (.pointer (some ⟨b,0,none⟩)::us).toArray w fun e w'=>∃i,φ i∧A54 ⟨w,fun x=>x=b∨x∈fp⟩ b w' (cs' i) (ax i) e
def Py (B:Fa) (pins:List (Ag×Value)):Prop:=A6b B.w0 B.may pins
variable {B : Fa} {pins : List (Ag × Value)} {s : AS} {E : Fm} {a : Act} {w : World}
theorem Py.now (h:Py B pins)(hs:s.is B E a w){A:Nat→Prop}(hA:∀b,A b→s.ag E b):A6b w A pins:=by
 intro p hp;refine (h p hp).move (fun b hm hb=>hs.base.block b hb hm) (fun b hb hav=>?_)
 rcases hs.fresh b (hA b hav) with h|h
 ·omega
 exact h
variable {Q : Exit → Act → World → Prop} {K : List KI} {v : Value}
theorem Jf (hF:Py B pins)(j:Nat){c:Ag}(hj:pins[j]? =some (c,v))(i:Nat)(hi:I7 s.af i= .c (.val v))(h:GW P B Q K {s with af:=C4 s.af i (.c c)}):GW P B Q K s:=by
 refine ⟨fun E a w hs=>h.rec fun g=>g E a w ⟨hs.defers,hs.ay,by rw [hs.size];exact (Bm _ _ _).symm,fun m z hz=>?_,hs.aw,hs.boxes2,hs.keys,hs.own,hs.ownkeys,hs.sep,hs.sepB,hs.one,hs.base,hs.fresh⟩⟩
 simp only at hz
 rw [Ck] at hz
 split at hz
 ·rename_i hm
  obtain ⟨rfl,hm⟩:=hm;obtain rfl:=D3 hz;have hd:=hs.af i (.c (.val v)) (by rw [C7,Cl hm] at hi;rw [Cl hm];simpa using hi);rw [B4 hd];exact Cm.c (A:=s.ag E) (N:=s.next) (hF.now hs (fun _ h=>h) _ (Gs hj))
 exact hs.af m z hz
def C87 (own:List Ow) (x:AV):Option Gl:=
 match x with
 | .agg xs=>match A0x own xs with
  |some cs=>some (.agg cs)
  |none=>none
 |x=>match A5a own x with
  |some c=>some (.one c)
  |none=>none
def B06 (own:List Ow) (l:List AV):Option (List Gl):=
 match l with
 | []=>some []
 |x::r=>match C87 own x with
  |some c=>match B06 own r with
   |some cs=>some (c::cs)
   |none=>none
  |none=>none
theorem B07 {own:List Ow}{l:List AV}{cs:List Gl}(h:B06 own l=some cs):l.length=cs.length∧∀(i:Nat) (c:Gl),cs[i]? =some c→∃x:AV,l[i]? =some x∧C87 own x=some c:=by
 induction l generalizing cs with
 |nil=>obtain rfl:=D3 h;simp
 |cons x r ih=>
  unfold B06 at h
  split at h
  ·rename_i c hc
   split at h
   ·rename_i cs' hcs
    obtain rfl:=D3 h;obtain ⟨h1,h2⟩:=ih hcs;refine ⟨by simp [h1],fun i d hd=>?_⟩
    cases i with
    |zero=>simp only [Fq,Ei] at hd;subst hd;exact ⟨x,by simp,hc⟩
    |succ i=>simpa using h2 i d (by simpa using hd)
   simp at h
  simp at h
structure B00 (s:AS) (E:Fm) (ks:List Nat) (X:Nat→Prop):Prop where
 av:∀b,X b→s.ag E b
 own:∀y∈s.own,y.key∉ks→∀b∈E.fp y.key,¬ X b
variable {X : Nat → Prop}
theorem C5k (hs:s.is B E a w){ks:List Nat}(hX:B00 s E ks X){x:AV}{c:Ag}(hx:A5a (Ba ks s.own) x=some c)(hd:Cm E w (s.ag E) s.next x v):R2 w X c v:=by
 unfold A5a at hx
 split at hx
 ·obtain rfl:=D3 hx
  cases hd with
  |c hr=>exact hr.move (fun _ _ _=>rfl) (fun b _ hb=>hX.av b hb)
 ·cases hd with
  |own hk=>
   obtain ⟨h1,h2⟩:=Bh.1 (C2 hx);exact (hs.own _ h1).2.1.rep (fun b hb=>hX.own _ h1 h2 b hb)
 simp at hx
theorem B5h (hs:s.is B E a w){ks:List Nat}(hX:B00 s E ks X){x:AV}{c:Gl}(hx:C87 (Ba ks s.own) x=some c)(hd:Cm E w (s.ag E) s.next x v):Lf w X c v:=by
 unfold C87 at hx
 split at hx
 ·rename_i xs
  split at hx
  ·rename_i cs hcs
   obtain rfl:=D3 hx;obtain ⟨g1,g2⟩:=A2k hcs
   cases hd with
   |agg vs hl hv=>
    refine ⟨vs,rfl,by omega,fun i c hc=>?_⟩;obtain ⟨y,hy,hyc⟩:=g2 i c hc;exact C5k hs hX hyc (hv i y hy)
  simp at hx
 split at hx
 ·rename_i c' hc
  obtain rfl:=D3 hx;exact C5k hs hX hc hd
 simp at hx
variable {xs : List AV}
theorem A8e (h:s.is B E a w){ax:List Gl}{vs:List Value}(h4:∀i x,xs[i]? =some x→Cm E w (s.ag E) s.next x (vs.getD i undef))(hk:G2 (xs.flatMap Cd)=true)(ho:Ol s.own xs ax):
  (∀i y,ax[i]? =some y→Mt w y (vs.getD i undef) ((Cd (I7 xs i)).flatMap E.fp))∧(∀i,i<ax.length→((Cd (I7 xs i)).flatMap E.fp).Nodup)∧(∀i,i<ax.length→∀k∈Cd (I7 xs i),∃y∈s.own,y.key=k)∧
   ∀i j,i<ax.length→j<ax.length→i≠j→∀b∈(Cd (I7 xs i)).flatMap E.fp,b∉(Cd (I7 xs j)).flatMap E.fp:=by
 obtain ⟨g1,g2⟩:=Pu ho;have hnd:=Eg hk
 have hkeys:∀i,i<ax.length→∀k∈Cd (I7 xs i),∃y∈s.own,y.key=k:=by
  intro i hi;obtain ⟨x,hx',hxo⟩:=g2 i _ (Cl hi);rw [show I7 xs i=x by rw [C7,hx'];rfl]
  exact (Kb h hxo (h4 i x hx')).2
 have hsub:∀i,i<ax.length→(Cd (I7 xs i)).Nodup:=by
  intro i hi;obtain ⟨x,hx',hxo⟩:=g2 i _ (Cl hi);rw [show I7 xs i=x by rw [C7,hx'];rfl]
  exact (C6.1 hnd).1 x (Gs hx')
 refine ⟨fun i y hy=>?_,fun i hi=>Q8 h (hsub i hi) (hkeys i hi),hkeys,fun i j hi hj hne b hb hb'=>?_⟩
 ·obtain ⟨x,hx',hxo⟩:=g2 i y hy
  rw [show I7 xs i=x by rw [C7,hx'];rfl]
  exact (Kb h hxo (h4 i x hx')).1
 obtain ⟨k,hk1,hb⟩:=Ds.1 hb;obtain ⟨l,hl1,hb'⟩:=Ds.1 hb';obtain ⟨y1,hy1,rfl⟩:=hkeys i hi k hk1;obtain ⟨y2,hy2,rfl⟩:=hkeys j hj l hl1
 by_cases e:y1.key=y2.key
 ·have hpw:=(C6.1 hnd).2
  have hi':i<xs.length:=by omega
  have hj':j<xs.length:=by omega
  have e1:I7 xs i=xs[i]:=by rw [C7,Cl hi'];rfl
  have e2:I7 xs j=xs[j]:=by rw [C7,Cl hj'];rfl
  rw [e1] at hk1;rw [e2] at hl1
  rcases Si hne with hlt|hlt
  ·exact Rx.1 hpw i j hi' hj' hlt _ hk1 (e▸hl1)
  exact Rx.1 hpw j i hj' hi' hlt _ hl1 (e▸hk1)
 exact h.sep y1 hy1 y2 hy2 e b hb hb'
variable {ι : Type}
theorem Zo (hT:Bw P T){fn:Func}{φ:ι→Prop}{ax:ι→List Gl}(i:ι)(hi:φ i)(hx:Pb T fn.results.toList s=some xs)(hk:G2 (xs.flatMap Cd)=true)(ho:Ol s.own xs (ax i)):
  RW B (bodyPost P fn fun e w'=>∃i,φ i∧Vf B w' (ax i) e) s:=
 RW.mono (fun _ _ ⟨h1,v,h2,h3⟩=>⟨h1,v,h2,i,hi,h3⟩) ⟨B4b hT hx hk ho⟩
theorem C0b (hT:Bw P T){b:Nat}{fn:Func}{φ:ι→Prop}{cs':ι→List Ag}{ax:ι→List Gl}{bx:Bx}(i:ι)(hi:φ i)(hx:Pb T fn.results.toList s=some xs)(hb:Fs s.aw 0=some bx)(hl:Dm s.ay 0=some (.pointer (some ⟨b,0,none⟩)))(hk:G2 ((AV.agg bx.cells::xs).flatMap Cd)=true)(ho:Ol s.own (.agg bx.cells::xs) (.agg (cs' i)::ax i)):
  RW B (bodyPost P fn fun e w'=>∃i,φ i∧A54 B b w' (cs' i) (ax i) e) s:=by
 refine ⟨fun E a w h=>?_⟩;obtain ⟨rs,h1,h2,h3,h4⟩:=Wm hT h fn.results.toList xs hx;obtain ⟨hm,hkey⟩:=Fb hb;obtain ⟨k1,vs,ty,k2,k3,k4⟩:=h.aw bx hm;have hl0:=(h.ay _ (G1 hl)).2;have hβ:E.β bx.key=b:=by rw [hkey];unfold Fm.β;rw [show E.ov 0=_ from hl0];rfl
 rw [hβ] at k2
 have hd:∀i x,(AV.agg bx.cells::xs)[i]? =some x→Cm E w (s.ag E) s.next x ((Value.agg vs.toList.toArray::rs).getD i undef):=by
  intro i x hx
  cases i with
  |zero=>
   simp only [Fq,Ei] at hx;subst hx;exact .agg vs.toList (by simpa using k3) (fun j y hj=>by rw [Bn];exact k4 j y hj)
  |succ i=>simpa using h4 i x (by simpa using hx)
 obtain ⟨o1,o2,o3,o4⟩:=A8e h hd hk ho;have hlen:xs.length=(ax i).length:=(Pu ho.2).1;refine ⟨h.defers,Ir rs,?_,i,hi,h.base,vs.toList,ty,rs,fun i=>(Cd (I7 (AV.agg bx.cells::xs) i)).flatMap E.fp,rfl,by simpa using k2,by omega,o1,fun j hj=>⟨o2 j (by simpa using hj),fun x hx=>?_⟩,fun j l hj hl hne=>o4 j l (by simpa using hj) (by simpa using hl) hne⟩
 ·rw [Qi,A3j]
  simp only [A3k,Sem.run_bind,h1,Result.andThen_ok,Sem.run_pure];exact A6 (fun v=>Result.ok v w) (T3 rs)
 obtain ⟨k,hk',hx⟩:=Ds.1 hx;obtain ⟨y,hy,rfl⟩:=o3 j (by simpa using hj) k hk';refine ⟨h.fresh x (.inr ⟨y,hy,hx⟩),fun e=>?_⟩;subst e
 have:=h.sepB bx hm y hy
 rw [hβ] at this;exact this hx
def Uy (ks:List Nat) (s:AS):AS:= {s with own:=Ba ks s.own}
theorem C74 {w':World}(hs:s.is B E a w)(hX:∀b,X b→s.ag E b)(hr:Fa.rel ⟨w,X⟩ w'):B.rel w':=by
 have hB:=hs.base;refine ⟨hr.os.trans hB.os,hr.tape.trans hB.tape,hr.output.trans hB.output,Ew hB.size hr.size,fun k hk hm=>?_⟩
 rw [hr.block k (Kc hk hB.size) (fun hX'=>by
  rcases hs.fresh k (hX k hX') with h|h
  ·omega
  exact hm h)]
 exact hB.block k hk hm
theorem W1 {w':World}(h:Fa.rel ⟨w,X⟩ w'):B49 X w w':=⟨h.os,h.tape,h.output,h.size,fun k hk hm=>h.block k hk hm⟩
variable {H : World → Prop} {dst : Option Tmp}
theorem B5i {f:FuncId}{rest:List AV}{xs ins:List Gl}{φ:ι→Prop}{ax:ι→List Gl}(x0s:List AV)(hf:Vh P H f pins xs ins φ ax)(hH:∀w,B.rel w→H w)(hp:Py B pins)(ho:Ol s.own x0s xs)(hk:G2 (x0s.flatMap Cd)=true)(hx:B06 (Ba (x0s.flatMap Cd) s.own) rest=some ins)(h:∀i,φ i→GW P B Q K ((Ho (ax i) (Uy (x0s.flatMap Cd) s)).2.put dst (Ho (ax i) (Uy (x0s.flatMap Cd) s)).1)):CW P B Q false f (x0s++rest) dst K s:=by
 refine ⟨⟨hf.1,fun E a w hs vs hl hv=>?_⟩⟩;have hxl:=(Pu ho).1;obtain ⟨r1,r2⟩:=B07 hx;have hvl:vs.length=x0s.length+rest.length:=by simpa using hl
 have hd1:∀i x,x0s[i]? =some x→Cm E w (s.ag E) s.next x ((vs.take x0s.length).getD i undef):=by
  intro i x hi;have hil:i<x0s.length:=(Cq.1 hi).1
  have:=hv i x (by rw [F2 hil];exact hi)
  simpa [List.getD,X6,hil] using this
 have hd2:∀i x,rest[i]? =some x→Cm E w (s.ag E) s.next x ((vs.drop x0s.length).getD i undef):=by
  intro i x hi
  have:=hv (x0s.length+i) x (by rw [F1 A7];simpa using hi)
  simpa [List.getD] using this
 obtain ⟨o1,o2,o3,o4⟩:=A8e hs hd1 hk ho
 let fps:Nat→List Nat:=fun i=>(Cd (I7 x0s i)).flatMap E.fp
 have hin:∀b,b∈Sm xs.length fps→∃k∈x0s.flatMap Cd,∃y∈s.own,y.key=k∧b∈E.fp k:=by
  intro b hb;obtain ⟨i,hi,hb⟩:=Ds.1 hb;have hi:=Ft.1 hi;obtain ⟨k,hk1,hb⟩:=Ds.1 hb;obtain ⟨y,hy,e⟩:=o3 i hi k hk1;refine ⟨k,Ds.2 ⟨I7 x0s i,?_,hk1⟩,y,hy,e,hb⟩;have hil:i<x0s.length:=by omega
  rw [C7,Cl hil];exact A3h hil
 have hX:B00 s E (x0s.flatMap Cd) (fun b=>b∈Sm xs.length fps):=by
  refine ⟨fun b hb=>?_,fun y hy hne b hb hb'=>?_⟩
  ·obtain ⟨k,_,y,hy,rfl,hb⟩:=hin b hb
   exact .inr ⟨y,hy,hb⟩
  obtain ⟨k,hk1,y2,hy2,rfl,hb2⟩:=hin b hb';exact hs.sep y hy y2 hy2 (fun e=>hne (e▸hk1)) b hb hb2
 have e:vs=vs.take x0s.length++vs.drop x0s.length:=(Pe _ _).symm;rw [e];refine (hf.2 w (vs.take x0s.length) fps (vs.drop x0s.length) Qv o1 o2 o4 (fun w' hr=>hH w' (C74 hs hX.av hr)) (hp.now hs hX.av) Qv (fun i z hi=>?_)).mono (fun e w' ⟨i,hi,hg⟩=>?_)
 ·obtain ⟨y,hy,hro⟩:=r2 i z hi
  exact B5h hs hX hro (hd2 i y hy)
 obtain ⟨hrel,rs,gps,rfl,hrl,hro,hfr,hdis⟩:=hg;have hkept:=W1 hrel;have hI:=hs.drop (x0s.flatMap Cd)
 have hX2:∀b,b∈Sm xs.length fps→s.ag E b∧¬ (Uy (x0s.flatMap Cd) s).ag E b∧B.fresh b:=by
  intro b hb;refine ⟨hX.av b hb,?_,hs.fresh b (hX.av b hb)⟩
  rintro (⟨u,hu,rfl⟩|⟨u,hu,hb'⟩)
  ·obtain ⟨k,hk1,y,hy,rfl,hb⟩:=hin _ hb
   exact hs.sepB u hu y hy hb
  obtain ⟨q1,q2⟩:=Bh.1 hu;exact hX.own u q1 q2 b hb' hb
 have hI2:=hI.kept hkept hX2
 obtain ⟨E',hAd,hL,hD⟩:=M3 (ax i) rs gps (Uy (x0s.flatMap Cd) s) E hI2 hrl hro (fun j hj=>(hfr j hj).1) hdis (fun j hj b hb=>by
  rcases (hfr j hj).2 b hb with h|h
  ·refine ⟨.inr h,fun hav=>?_,.inl (Ew hs.base.size h)⟩
   have:=hs.avoid_lt (hI.sub b hav)
   have h:w.heap.size≤b:=h;omega
  obtain ⟨q1,q2,q3⟩:=hX2 b h
  exact ⟨.inl q1,q2,q3⟩)
 have hres:=Gp (ax i) (Dk (ax i) (Uy (x0s.flatMap Cd) s)).1 rs hrl hL hD;have h:=h i hi;rw [Sk] at h;exact ⟨_,rfl,(fun h=>by cases h),h.rec fun g=>g E' _ w' ((hAd.isA.put dst hres).is)⟩
def Wh (k:Nat) (l:List Bx):List Bx:=
 match l with
 | []=>[]
 |b::r=>match Nat.beq b.key k with
  |true=>Wh k r
  |false=>b::Wh k r
variable {k : Nat}
theorem N9 {l:List Bx}{b:Bx}:b∈Wh k l↔b∈l∧b.key≠k:=by
 induction l with
 |nil=>simp [Wh]
 |cons x r ih=>
  unfold Wh
  split
  ·rename_i h
   have:=Fl h
   rw [ih]
   constructor
   ·rintro ⟨h1,h2⟩;exact ⟨Da _ h1,h2⟩
   rintro ⟨h1,h2⟩
   rcases Ca.1 h1 with rfl|h1
   ·exact absurd this h2
   exact ⟨h1,h2⟩
  rename_i h
  have hne:x.key≠k:=fun e=>by subst e;simp at h
  simp only [Ca,ih]
  constructor
  ·rintro (rfl|⟨h1,h2⟩)
   ·exact ⟨.inl rfl,hne⟩
   exact ⟨.inr h1,h2⟩
  rintro ⟨rfl|h1,h2⟩
  ·exact .inl rfl
  exact .inr ⟨h1,h2⟩
theorem C4g {l:List Bx}(h:(l.map (·.key)).Nodup):((Wh k l).map (·.key)).Nodup:=by
 induction l with
 |nil=>simp [Wh]
 |cons x r ih=>
  simp only [Gz,Ip] at h;unfold Wh
  split
  ·exact ih h.2
  simp only [Gz,Ip];refine ⟨fun hm=>h.1 ?_,ih h.2⟩
  obtain ⟨o,ho,e⟩:=Fu.1 hm;exact Fu.2 ⟨o,(N9.1 ho).1,e⟩
theorem AS.isA.addBox {A:Nat→Prop}(h:s.isA B E A a w)(hk:k<s.next)(hn:∀x∈s.aw,x.key≠k){cells:List AV}{vs:Array Value}{ty:TypeId}(hb:w.heap[E.β k]? =some (.cells vs ty (0,0)))(hl:vs.size=cells.length)(hd:∀i y,cells[i]? =some y→Cm E w A s.next y (vs.getD i undef))(hav:¬ s.ag E (E.β k))(hA:A (E.β k))(hf:B.fresh (E.β k)):
  ({s with aw:=⟨k,cells⟩::s.aw}:AS).isA B E A a w:=by
 refine ⟨h.defers,h.ay,h.size,h.af,fun x hx=>?_,fun x hx y hy e=>?_,?_,h.own,h.ownkeys,h.sep,fun x hx y hy=>?_,h.one,h.base,fun b hb'=>?_,fun b hb'=>?_⟩
 ·rcases Ca.1 hx with rfl|hx
  ·exact ⟨hk,vs,ty,hb,hl,hd⟩
  exact h.aw x hx
 ·rcases Ca.1 hx with rfl|hx<;>rcases Ca.1 hy with rfl|hy
  ·rfl
  ·exact absurd (.inl ⟨y,hy,e.symm⟩) hav
  ·exact absurd (.inl ⟨x,hx,e⟩) hav
  exact h.boxes2 x hx y hy e
 ·simp only [Gz,Ip]
  refine ⟨fun hm=>?_,h.keys⟩;obtain ⟨y,hy,e⟩:=Fu.1 hm;exact hn y hy e
 ·rcases Ca.1 hx with rfl|hx
  ·exact fun hb'=>hav (.inr ⟨y,hy,hb'⟩)
  exact h.sepB x hx y hy
 ·rcases hb' with ⟨x,hx,rfl⟩|hb'
  ·rcases Ca.1 hx with rfl|hx
   ·exact hf
   exact h.fresh _ (.inl ⟨x,hx,rfl⟩)
  exact h.fresh _ (.inr hb')
 rcases hb' with ⟨x,hx,rfl⟩|hb'
 ·rcases Ca.1 hx with rfl|hx
  ·exact hA
  exact h.sub _ (.inl ⟨x,hx,rfl⟩)
 exact h.sub _ (.inr hb')
def dropP (k:Nat) (ks:List Nat) (s:AS):AS:= {s with own:=Ba ks s.own,aw:=Wh k s.aw}
theorem AS.is.dropP (h:s.is B E a w)(k:Nat)(ks:List Nat):(Sx.dropP k ks s).isA B E (s.ag E) a w:=by
 have av:∀b,(Sx.dropP k ks s).ag E b→s.ag E b:=by
  rintro b (⟨x,hx,hb⟩|⟨y,hy,hb⟩)
  ·exact .inl ⟨x,(N9.1 hx).1,hb⟩
  exact .inr ⟨y,(Bh.1 hy).1,hb⟩
 exact ⟨h.defers,h.ay,h.size,h.af,fun x hx=>h.aw x (N9.1 hx).1,fun x hx y hy=>h.boxes2 x (N9.1 hx).1 y (N9.1 hy).1,C4g h.keys,fun y hy=>h.own y (Bh.1 hy).1,Wi h.ownkeys,
  fun y hy z hz=>h.sep y (Bh.1 hy).1 z (Bh.1 hz).1,fun x hx y hy=>h.sepB x (N9.1 hx).1 y (Bh.1 hy).1,h.one,h.base,fun b hb=>h.fresh b (av b hb),av⟩
def C2j (ys:List AV):AV:=
 match ys with
 | [y]=>y
 |ys=> .tup ys
def B8p (k:Nat) (ks:List Nat) (cs:List Ag) (ax:List Gl) (dst:Option Tmp) (s:AS):AS:=
 match Dk (.agg cs::ax) (dropP k ks s) with
 |(.agg zs::ys,s')=>({s' with aw:=⟨k,zs⟩::s'.aw}:AS).put dst (C2j ys)
 |(_,s')=>s'
theorem C02 (c:Ag)(s:AS):(Xx c s).2.aw=s.aw:=by cases c<;>rfl
theorem Vj:∀(cs:List Ag) (s:AS),(Fg cs s).2.aw=s.aw
 | [],_=>rfl
 |c::cs,s=>(Vj cs (Xx c s).2).trans (C02 c s)
theorem C2s (x:Gl)(s:AS):(Lg x s).2.aw=s.aw:=by
 cases x with
 |one c=>exact C02 c s
 |agg cs=>exact Vj cs s
 |ptr cs=>rfl
 |fn f an=>rfl
theorem A6e:∀(l:List Gl) (s:AS),(Dk l s).2.aw=s.aw
 | [],_=>rfl
 |x::l,s=>(A6e l (Lg x s).2).trans (C2s x s)
theorem B5c (cs:List Ag)(ax:List Gl)(s:AS):Dk (.agg cs::ax) s=(.agg (Fg cs s).1::(Dk ax (Fg cs s).2).1,(Dk ax (Fg cs s).2).2):=rfl
theorem D06 {f:FuncId}{rest:List AV}{cs:List Ag}{ins:List Gl}{φ:ι→Prop}{cs':ι→List Ag}{ax:ι→List Gl}(hf:A58 P H f pins cs ins φ cs' ax)(hH:∀w,B.rel w→H w)(hp:Py B pins){bx:Bx}(hb:Fs s.aw k=some bx)(ho:A4o s.own bx.cells cs)(hk:G2 (bx.cells.flatMap I6)=true)(hx:B06 (Ba (bx.cells.flatMap I6) s.own) rest=some ins)(h:∀i,φ i→GW P B Q K (B8p k (bx.cells.flatMap I6) (cs' i) (ax i) dst s)):CW P B Q false f (.box k 0::rest) dst K s:=by
 refine ⟨⟨hf.1,fun E a w hs vs hl hv=>?_⟩⟩;obtain ⟨hm,hkey⟩:=Fb hb;obtain ⟨hklt,bvs,ty,b1,b2,b3⟩:=hs.aw bx hm;rw [hkey] at b1 hklt;obtain ⟨r1,r2⟩:=B07 hx
 match vs,hl with
 |v::us,hl=>
  have hv0:=hv 0 (.box k 0) rfl;simp only [List.getD,Fq,Nn] at hv0;have hdb:Cm E w (s.ag E) s.next (.agg bx.cells) (.agg bvs.toList.toArray):= .agg bvs.toList (by simpa using b2) (fun i y hi=>by rw [Bn];exact b3 i y hi);obtain ⟨o1,o2⟩:=Kb (x:= .agg bx.cells) (o:= .agg cs) hs ho hdb;have hks:(bx.cells.flatMap I6).Nodup:=Eg hk
  let fp:=(bx.cells.flatMap I6).flatMap E.fp
  have hfn:fp.Nodup:=Q8 hs hks o2
  have hin:∀b,b∈fp→∃y∈s.own,y.key∈bx.cells.flatMap I6∧b∈E.fp y.key:=by
   intro b hb';obtain ⟨j,hj,hb'⟩:=Ds.1 hb';obtain ⟨y,hy,rfl⟩:=o2 j hj;exact ⟨y,hy,hj,hb'⟩
  have hb0:E.β k∉fp:=by
   intro hb';obtain ⟨y,hy,_,hb'⟩:=hin _ hb'
   have:=hs.sepB bx hm y hy
   rw [hkey] at this;exact this hb'
  let X:Nat→Prop:=fun x=>x=E.β k∨x∈fp
  have hX:B00 s E (bx.cells.flatMap I6) X:=by
   refine ⟨fun b hb'=>?_,fun y hy hne b hb' hX'=>?_⟩
   ·rcases hb' with rfl|hb'
    ·exact .inl ⟨bx,hm,by rw [hkey]⟩
    obtain ⟨y,hy,_,hb'⟩:=hin b hb';exact .inr ⟨y,hy,hb'⟩
   rcases hX' with rfl|hX'
   ·have:=hs.sepB bx hm y hy
    rw [hkey] at this;exact this hb'
   obtain ⟨y2,hy2,hk2,hb2⟩:=hin b hX';exact hs.sep y hy y2 hy2 (fun e=>hne (e▸hk2)) b hb' hb2
  cases hv0 with
  |box _ _=>
   refine (hf.2 w (E.β k) bvs.toList ty fp us (by simpa using b1) o1 hfn hb0 (fun w' hr=>hH w' (C74 hs hX.av hr)) (hp.now hs hX.av) (by simp at hl;omega) (fun i z hi=>?_)).mono (fun e w' ⟨i,hi,hg⟩=>?_)
   ·obtain ⟨y,hy,hro⟩:=r2 i z hi
    have:=hv (i+1) y (by simpa using hy)
    exact B5h hs hX hro (by simpa [List.getD] using this)
   obtain ⟨hrel,nvs,nty,rs,gps,rfl,hheap,hrl,hro,hfr,hdis⟩:=hg;have hkept:=W1 hrel;have hI:=hs.dropP k (bx.cells.flatMap I6)
   have hX2:∀b,X b→s.ag E b∧¬ (dropP k (bx.cells.flatMap I6) s).ag E b∧B.fresh b:=by
    intro b hb';refine ⟨hX.av b hb',?_,hs.fresh b (hX.av b hb')⟩
    rintro (⟨u,hu,rfl⟩|⟨u,hu,hb2⟩)
    ·obtain ⟨q1,q2⟩:=N9.1 hu
     rcases hb' with hb'|hb'
     ·exact q2 ((hs.boxes2 u q1 bx hm (by rw [hkey];exact hb')).trans hkey)
     obtain ⟨y,hy,_,hb'⟩:=hin _ hb';exact hs.sepB u q1 y hy hb'
    obtain ⟨q1,q2⟩:=Bh.1 hu;exact hX.own u q1 q2 b hb2 hb'
   have hI2:=hI.kept hkept hX2
   have hnew:∀j,j<(ax i).length+1→∀b∈gps j,(s.ag E b∨w.heap.size≤b)∧¬ (dropP k (bx.cells.flatMap I6) s).ag E b∧B.fresh b:=fun j hj b hb'=>by
    rcases ((hfr j hj).2 b hb').1 with h|h
    ·refine ⟨.inr h,fun hav=>?_,.inl (Ew hs.base.size h)⟩
     have:=hs.avoid_lt (hI.sub b hav)
     have h:w.heap.size≤b:=h;omega
    obtain ⟨q1,q2,q3⟩:=hX2 b h;exact ⟨.inl q1,q2,q3⟩
   obtain ⟨E',hAd,hL,hD⟩:=M3 (.agg (cs' i)::ax i) (.agg nvs.toArray::rs) gps (dropP k (bx.cells.flatMap I6) s) E hI2 (by simp [hrl]) hro (fun j hj=>(hfr j (by simpa using hj)).1) (fun j l hj hl=>hdis j l (by simpa using hj) (by simpa using hl)) (fun j hj=>hnew j (by simpa using hj));have h:=h i hi;unfold B8p at h;rw [B5c] at h hAd hL hD
   simp only at h hAd hL hD
   have hbk:E'.β k=E.β k:=(hAd.keep k hklt).1;have hz0:=hD 0 _ rfl;simp only [List.getD,Fq,Nn] at hz0;have hboxes:(Dk (ax i) (Fg (cs' i) (dropP k (bx.cells.flatMap I6) s)).2).2.aw=Wh k s.aw:=(A6e _ _).trans (Vj _ _)
   have hzs:nvs.length=(Fg (cs' i) (dropP k (bx.cells.flatMap I6) s)).1.length∧∀j y,(Fg (cs' i) (dropP k (bx.cells.flatMap I6) s)).1[j]? =some y→Cm E' w' (fun b=>s.ag E b∨w.heap.size≤b) (Dk (ax i) (Fg (cs' i) (dropP k (bx.cells.flatMap I6) s)).2).2.next y (nvs.getD j undef):=by
    generalize hq:(Value.agg nvs.toArray)=q at hz0
    cases hz0 with
    |agg ws hwl hw=>
     have e:nvs=ws:=by simpa using hq
     subst e;exact ⟨hwl,hw⟩
   have hbox:=hAd.isA.addBox (k:=k) (Kc hklt hAd.next) (fun x hx e=>by
    rw [hboxes] at hx
    exact (N9.1 hx).2 e) (vs:=nvs.toArray) (ty:=nty) (by rw [hbk];exact hheap) (by simpa using hzs.1) (fun j y hj=>by rw [←Bn];exact hzs.2 j y hj) (by
     rw [hbk];intro hav
     rcases hAd.ag _ hav with h|h
     ·exact (hX2 _ (.inl rfl)).2.1 h
     obtain ⟨j,hj,hb'⟩:=Ds.1 h
     exact ((hfr j (by simpa using List.mem_range.1 hj)).2 _ hb').2 rfl) (by rw [hbk];exact .inl (hX.av _ (.inl rfl))) (by rw [hbk];exact hs.fresh _ (hX.av _ (.inl rfl)))
   have hLr:(Dk (ax i) (Fg (cs' i) (dropP k (bx.cells.flatMap I6) s)).2).1.length=(ax i).length:=by simpa using hL
   have hres:Cm E' w' (fun b=>s.ag E b∨w.heap.size≤b) (Dk (ax i) (Fg (cs' i) (dropP k (bx.cells.flatMap I6) s)).2).2.next (C2j (Dk (ax i) (Fg (cs' i) (dropP k (bx.cells.flatMap I6) s)).2).1) (Ir rs):=Gp (ax i) (Dk (ax i) (Fg (cs' i) (dropP k (bx.cells.flatMap I6) s)).2).1 rs hrl hLr (fun j x hj=>by simpa [List.getD] using hD (j+1) x (by simpa using hj));exact ⟨_,rfl,(fun h=>by cases h),h.rec fun g=>g E' _ w' ((hbox.put dst hres).is)⟩
end Go.Sx
set_option maxRecDepth 100000
namespace Go.Sx
open Go
open Go.RowKit (Below)
variable {P : Program} {T : List (TypeId × TI)}
variable {w : World} {A : Nat → Prop} {ins : List Gl}
theorem B22 {E:Fm}{N:Nat}{us:List Value}(_hl:us.length=ins.length)(hr:∀i z,ins[i]? =some z→Lf w A z (us.getD i undef))(i:Nat)(x:AV)(hx:(ins.map La)[i]? =some x):Cm E w A N x (us.getD i undef):=by
 simp only [E8,Ee] at hx;obtain ⟨q,hq,rfl⟩:=hx;have hr:=hr i q hq
 cases q with
 |one c=>exact .c hr
 |agg cs=>
  obtain ⟨ws,hu,hul,hur⟩:=hr;rw [hu];refine .agg ws (by simp [hul]) (fun j x hj=>?_);simp only [E8,Ee] at hj;obtain ⟨c,hc,rfl⟩:=hj;exact .c (hur j c hc)
 |ptr cs=>exact Oz.den hr (fun _ h=>h)
 |fn f an=>
  obtain ⟨ws,hu,hul,hur⟩:=hr;rw [hu];refine .fn ws (by simp [hul]) (fun j x hj=>?_);simp only [E8,Ee] at hj;obtain ⟨c,hc,rfl⟩:=hj;have hr:=hur j c hc
  cases c with
  |one c=>exact .c hr
  |ptr cs=>exact Oz.den hr (fun _ h=>h)
theorem A2o {E:Fm}{N m:Nat}{ys:List AV}{vs:List Value}(hl:vs.length=ys.length)(hd:∀i x,ys[i]? =some x→Cm E w A N x (vs.getD i undef))(i:Nat)(x:AV)(hx:(ys++List.replicate m .any)[i]? =some x):Cm E w A N x ((vs.toArray++Array.replicate m undef).getD i undef):=by
 by_cases hi:i<ys.length
 ·rw [F2 hi] at hx
  have e:(vs.toArray++Array.replicate m undef).getD i undef=vs.getD i undef:=by
   simp [Array.getD,List.getD,show i<vs.length by omega,show i<vs.length+m by omega]
  rw [e];exact hd i x hx
 rw [F1 A7] at hx;rw [Te (Gs hx)];exact .any _
def Tl (n k:Nat):AS:= {next:=0,af:=List.replicate (k+(n-k)) .any,aw:=[],own:=[]}
variable {B : Fa}
theorem Z0 {E0:Fm}{a:Act}{m:Nat}(hd:a.defers=[])(hs:a.tmps.size=m){next:Nat}{ay:List (Nat×Value)}(hl:∀p∈ay,p.1<next∧E0.ov p.1=p.2)(h1:∀k,k<next→(E0.ov k).oneCell'=true)(hB:B.rel w):
  ({next:=next,af:=List.replicate m .any,aw:=[],own:=[],ay:=ay}:AS).isA B E0 A a w:=by
 have nav:∀b,¬ ({next:=next,af:=List.replicate m .any,aw:=[],own:=[],ay:=ay}:AS).ag E0 b:=by
  rintro b (⟨x,hx,_⟩|⟨y,hy,_⟩)
  ·simp at hx
  simp at hy
 refine ⟨hd,hl,by simp [hs],fun i x hx=>?_,by simp,by simp,by simp,by simp,by simp,by simp,by simp,h1,hB,fun b hb=>absurd hb (nav b),fun b hb=>absurd hb (nav b)⟩;rw [Te (Gs hx)];exact .any _
def D16 (n:Nat) (xs ins:List Gl):AS:=
 match Dk xs (Tl n (xs.length+ins.length)) with
 |(ys,s)=> {s with af:=ys++ins.map La++List.replicate (n-(xs.length+ins.length)) .any}
theorem AS.isA.slotsAt {s:AS}{E:Fm}{a:Act}(h:s.isA B E A a w){sl:List AV}(hsz:a.tmps.size=sl.length)(hd:∀i x,sl[i]? =some x→Cm E w A s.next x (a.tmps.getD i undef)):({s with af:=sl}:AS).isA B E A a w:=
 ⟨h.defers,h.ay,hsz,hd,h.aw,h.boxes2,h.keys,h.own,h.ownkeys,h.sep,h.sepB,h.one,h.base,h.fresh,h.sub⟩
variable {H : World → Prop} {f : FuncId} {fn : Func} {c : Code} {pins : List (Ag × Value)} {ι : Type}
theorem B26 (hT:Bw P T)(wr:Bool){xs:List Gl}{φ:ι→Prop}{ax:ι→List Gl}(hf:P.funcs[f]? =some fn)(hb:fn.body=some c)(hn:(fn.name== "runtime.NumGoroutine")=false)(h:∀B,(∀w,B.rel w→H w)→Py B pins→vcW P B (bodyPost P fn fun e w'=>∃i,φ i∧Vf B w' (ax i) e) (Pq T wr 100000 [.code c] (D16 fn.ntmps xs ins))):Vh P H f pins xs ins φ ax:=by
 refine ⟨⟨fn,hf,hn,by simp [hb]⟩,fun w vs fps us hvl ho hnd hdis hH hp hul hro=>calls_of_wp hf hb ?_⟩
 let B:Fa:=⟨w,fun b=>b∈Sm xs.length fps⟩
 have hrel:B.rel w:=⟨rfl,rfl,rfl,Df _,fun _ _ _=>rfl⟩
 let a:Act:= {tmps:=(vs++us).toArray++Array.replicate (fn.ntmps-(vs++us).toArray.size) undef,defers:=[]}
 have hsz:a.tmps.size=xs.length+ins.length+(fn.ntmps-(xs.length+ins.length)):=by simp [a,hvl,hul]
 let E0:Fm:=⟨fun _=> .slice none 0 0,fun _=>[]⟩
 have h0:(Tl fn.ntmps (xs.length+ins.length)).isA B E0 (fun b=>b∈Sm xs.length fps) a w:=Z0 rfl hsz Bi (fun _ _=>rfl) hrel
 have nav:∀b,¬ (Tl fn.ntmps (xs.length+ins.length)).ag E0 b:=by
  rintro b (⟨x,hx,_⟩|⟨y,hy,_⟩)
  ·simp [Tl] at hx
  simp [Tl] at hy
 obtain ⟨E',hA,hL,hD⟩:=M3 xs vs fps (Tl fn.ntmps (xs.length+ins.length)) E0 h0 hvl ho hnd hdis (fun i hi b hb'=>⟨Ds.2 ⟨i,Ft.2 hi,hb'⟩,nav b,.inr (Ds.2 ⟨i,Ft.2 hi,hb'⟩)⟩)
 have hS:=hA.isA.slotsAt (sl:=(Dk xs (Tl fn.ntmps (xs.length+ins.length))).1++ins.map La++List.replicate (fn.ntmps-(xs.length+ins.length)) .any) (by rw [hsz];simp [hL];try omega) (fun i x hx=>by
  have hk:fn.ntmps-(xs.length+ins.length)=fn.ntmps-(vs++us).toArray.size:=by simp [hvl,hul]
  rw [hk] at hx;refine A2o (vs:=vs++us) (by simp [hL,hvl,hul]) (fun j y hj=>?_) i x hx
  by_cases hjl:j<xs.length
  ·rw [F2 (by rw [hL];exact hjl)] at hj
   have:=hD j y hj
   rwa [show (vs++us).getD j undef=vs.getD j undef by simp [List.getD,F2 (show j<vs.length by omega)]]
  rw [F1 (by rw [hL];omega),hL] at hj
  have:=B22 (E:=E') (N:=(Dk xs (Tl fn.ntmps (xs.length+ins.length))).2.next) hul hro _ y hj
  rwa [show (vs++us).getD j undef=us.getD (j-xs.length) undef by simp [List.getD,F1 (show vs.length≤j by omega),hvl]])
 exact (go hT wr (h B hH hp)).out E' a w hS.is
def Tm (n k b:Nat):AS:= {next:=1,af:=List.replicate (k+(n-k)) .any,aw:=[],own:=[],ay:=[(0,.pointer (some ⟨b,0,none⟩))]}
def C8g (n b:Nat) (cs:List Ag) (ins:List Gl):AS:=
 match Fg cs (Tm n (1+ins.length) b) with
 |(zs,s)=> {s with aw:=[⟨0,zs⟩],af:= .box 0 0::ins.map La++List.replicate (n-(1+ins.length)) .any}
theorem D1q (hT:Bw P T)(wr:Bool){cs:List Ag}{φ:ι→Prop}{cs':ι→List Ag}{ax:ι→List Gl}(hf:P.funcs[f]? =some fn)(hb:fn.body=some c)(hn:(fn.name== "runtime.NumGoroutine")=false)(h:∀B b,(∀w,B.rel w→H w)→Py B pins→vcW P B (bodyPost P fn fun e w'=>∃i,φ i∧A54 B b w' (cs' i) (ax i) e) (Pq T wr 100000 [.code c] (C8g fn.ntmps b cs ins))):A58 P H f pins cs ins φ cs' ax:=by
 refine ⟨⟨fn,hf,hn,by simp [hb]⟩,fun w b vs ty fp us hheap ho hnd hbn hH hp hul hro=>calls_of_wp hf hb ?_⟩
 let B:Fa:=⟨w,fun x=>x=b∨x∈fp⟩
 have hrel:B.rel w:=⟨rfl,rfl,rfl,Df _,fun _ _ _=>rfl⟩
 let pv:Value:= .pointer (some ⟨b,0,none⟩)
 let a:Act:= {tmps:=(pv::us).toArray++Array.replicate (fn.ntmps-(pv::us).toArray.size) undef,defers:=[]}
 have hsz:a.tmps.size=1+ins.length+(fn.ntmps-(1+ins.length)):=by simp [a,hul];omega
 let E0:Fm:=⟨fun k=>if k=0 then pv else .slice none 0 0,fun _=>[]⟩
 have h0:(Tm fn.ntmps (1+ins.length) b).isA B E0 (fun x=>x=b∨x∈fp) a w:=Z0 rfl hsz (fun p hp'=>by
  simp only [Ke] at hp';subst hp'
  exact ⟨Nat.one_pos,rfl⟩) (fun k _=>by simp only [E0];split<;>rfl) hrel
 have nav:∀x,¬ (Tm fn.ntmps (1+ins.length) b).ag E0 x:=by
  rintro b (⟨x,hx,_⟩|⟨y,hy,_⟩)
  ·simp [Tm] at hx
  simp [Tm] at hy
 obtain ⟨vs',fps,e1,hvl,hr,rfl⟩:=ho;obtain rfl:vs=vs':=by simpa using e1
 obtain ⟨E',hA,hL,hD⟩:=A6h cs vs fps (Tm fn.ntmps (1+ins.length) b) E0 h0 hvl hr hnd (fun x hx=>⟨.inr hx,nav x,.inr (.inr hx)⟩);have hk0:=hA.keep 0 Nat.one_pos;have hβ:E'.β 0=b:=by rw [hk0.1];rfl
 have hbx:(Fg cs (Tm fn.ntmps (1+ins.length) b)).2.aw=[]:=Vj cs _
 have hB1:=hA.isA.addBox (k:=0) (Kc Nat.one_pos hA.next) (fun x hx=>by rw [hbx] at hx;cases hx) (cells:=(Fg cs (Tm fn.ntmps (1+ins.length) b)).1) (vs:=vs.toArray) (ty:=ty) (by rw [hβ];exact hheap) (by simp [hL,hvl])
  (fun i y hy=>by
   have:=hD i y hy
   rwa [show vs.toArray.getD i undef=vs.getD i undef by rw [←Bn]]) (by
   rw [hβ];intro hav
   rcases hA.ag b hav with h|h
   ·exact nav _ h
   exact hbn h) (by rw [hβ];exact .inl rfl) (by rw [hβ];exact .inr (.inl rfl))
 rw [hbx] at hB1
 have hS:=hB1.slotsAt (sl:= .box 0 0::ins.map La++List.replicate (fn.ntmps-(1+ins.length)) .any) (by rw [hsz];simp;omega) (fun i x hx=>by
  have hk:fn.ntmps-(1+ins.length)=fn.ntmps-(pv::us).toArray.size:=by simp [hul];omega
  rw [hk] at hx;refine A2o (ys:= .box 0 0::ins.map La) (vs:=pv::us) (by simp [hul]) (fun j y hj=>?_) i x hx
  cases j with
  |zero=>
   simp only [Fq,Ei] at hj;subst hj
   have:=Cm.box (E:=E') (w:=w) (A:=fun x=>x=b∨x∈(List.range cs.length).flatMap fps) (N:=(Fg cs (Tm fn.ntmps (1+ins.length) b)).2.next) (k:=0) 0 (Kc Nat.one_pos hA.next)
   rw [hβ] at this;exact this
  |succ j=>exact B22 hul hro j y (by simpa using hj))
 exact (go hT wr (h B b hH hp)).out E' a w hS.is
structure B8j (w w':World) (cs:List Ag) (e:Ending):Prop where
 below:Below w.heap.size w w'
 res:∃(b:Nat) (vs:List Value) (ty:TypeId) (fp:List Nat),e= .returned (.pointer (some ⟨b,0,none⟩))∧w.heap.size≤b∧w'.heap[b]? =some (.cells vs.toArray ty (0,0))∧Mt w' (.agg cs) (.agg vs.toArray) fp∧fp.Nodup∧b∉fp∧∀x∈fp,w.heap.size≤x
def B8l (P:Program) (f:FuncId) (pins:List (Ag×Value)) (ins:List Gl) {ι:Type} (φ:ι→Prop) (cs:ι→List Ag):Prop:=
 Lk P f∧∀(w:World) (us:List Value),us.length=ins.length→A6b w (fun _=>False) pins→(∀i z,ins[i]? =some z→Lf w (fun _=>False) z (us.getD i undef))→
  Calls P f us.toArray w fun e w'=>∃i,φ i∧B8j w w' (cs i) e
theorem D1p (hT:Bw P T)(wr:Bool){φ:ι→Prop}{cs:ι→List Ag}(hf:P.funcs[f]? =some fn)(hb:fn.body=some c)(hn:(fn.name== "runtime.NumGoroutine")=false)(h:∀W,Py ⟨W,fun _=>False⟩ pins→vcW P ⟨W,fun _=>False⟩ (bodyPost P fn fun e w'=>∃i,φ i∧B8j W w' (cs i) e) (Pq T wr 100000 [.code c] (F4 fn.ntmps ins))):B8l P f pins ins φ cs:=by
 refine ⟨⟨fn,hf,hn,by simp [hb]⟩,fun w us hl hp hr=>calls_of_wp hf hb ?_⟩
 let a:Act:= {tmps:=us.toArray++Array.replicate (fn.ntmps-us.toArray.size) undef,defers:=[]}
 have hsz:a.tmps.size=ins.length+(fn.ntmps-ins.length):=by simp [a,hl]
 let E0:Fm:=⟨fun _=> .slice none 0 0,fun _=>[]⟩
 have h0:(Tl fn.ntmps ins.length).isA ⟨w,fun _=>False⟩ E0 (fun _=>False) a w:=Z0 rfl hsz Bi (fun _ _=>rfl) ⟨rfl,rfl,rfl,Df _,fun _ _ _=>rfl⟩
 have hS:=h0.slotsAt (sl:=ins.map La++List.replicate (fn.ntmps-ins.length) .any) (by rw [hsz];simp) (fun i x hx=>by
  have hk:fn.ntmps-ins.length=fn.ntmps-us.toArray.size:=by simp [hl]
  rw [hk] at hx
  exact A2o (by simp [hl]) (fun j y hj=>B22 hl hr j y hj) i x hx)
 exact (go hT wr (h w hp)).out E0 a w hS.is
theorem D3p (hT:Bw P T){W:World}{φ:ι→Prop}{cs:ι→List Ag}{s:AS}{k:Nat}{bx:Bx}(i:ι)(hi:φ i)(hx:Pb T fn.results.toList s=some [.box k 0])(hb:Fs s.aw k=some bx)(hk:G2 (bx.cells.flatMap I6)=true)(ho:A4o s.own bx.cells (cs i)):
  RW ⟨W,fun _=>False⟩ (bodyPost P fn fun e w'=>∃i,φ i∧B8j W w' (cs i) e) s:=by
 refine ⟨fun E a w h=>?_⟩;obtain ⟨rs,h1,h2,h3,h4⟩:=Wm hT h fn.results.toList _ hx;obtain ⟨hm,rfl⟩:=Fb hb;obtain ⟨k1,vs,ty,k2,k3,k4⟩:=h.aw bx hm;have hd:Cm E w (s.ag E) s.next (.agg bx.cells) (.agg vs.toList.toArray):= .agg vs.toList (by simpa using k3) (fun i y hi=>by rw [Bn];exact k4 i y hi);obtain ⟨o1,o2⟩:=Kb (x:= .agg bx.cells) (o:= .agg (cs i)) h ho hd;have h0:=h4 0 _ rfl;have hB:=h.base;have hnew:∀b,s.ag E b→W.heap.size≤b:=fun b hb=>(h.fresh b hb).elim id False.elim;refine ⟨h.defers,Ir rs,?_,i,hi,⟨hB.os,hB.tape,hB.output,hB.size,fun k hk=>hB.block k hk (fun h=>h)⟩,E.β bx.key,vs.toList,ty,_,?_,hnew _ (.inl ⟨bx,hm,rfl⟩),by simpa using k2,o1,Q8 h (Eg hk) o2,fun hb'=>?_,fun x hx=>?_⟩
 ·rw [Qi,A3j]
  simp only [A3k,Sem.run_bind,h1,Result.andThen_ok,Sem.run_pure];exact A6 (fun v=>Result.ok v w) (T3 rs)
 ·match rs,h2 with
  | [r],_=>
   simp only [X4] at h0
   cases h0 with
   |box _ _=>rfl
 ·obtain ⟨j,hj,hb'⟩:=Ds.1 hb'
  obtain ⟨y,hy,rfl⟩:=o2 j hj;exact h.sepB bx hm y hy hb'
 obtain ⟨j,hj,hx⟩:=Ds.1 hx;obtain ⟨y,hy,rfl⟩:=o2 j hj;exact hnew x (.inr ⟨y,hy,hx⟩)
def C5e (cs:List Ag) (dst:Option Tmp) (s:AS):AS:=
 match Fg cs {s with next:=s.next+1} with
 |(zs,s')=>({s' with aw:=⟨s.next,zs⟩::s'.aw}:AS).put dst (.box s.next 0)
theorem D05 {Q:Exit→Act→World→Prop}{xs:List AV}{dst:Option Tmp}{K:List KI}{s:AS}{φ:ι→Prop}{cs:ι→List Ag}(hf:B8l P f pins ins φ cs)(hp:Py B pins)(hx:Ix s xs=some ins)(h:∀i,φ i→GW P B Q K (C5e (cs i) dst s)):CW P B Q false f xs dst K s:=by
 refine ⟨⟨hf.1,fun E a w hs vs hl hv=>?_⟩⟩;obtain ⟨h1,h2⟩:=Ji hx;refine (hf.2 w vs A7 (hp.now hs (fun _ h=>h.elim)) (fun i x hi=>?_)).mono (fun e w' ⟨i,hi,hg⟩=>?_)
 ·obtain ⟨y,hy,hc⟩:=h2 i x hi
  exact Ku hs hc (hv i y hy)
 obtain ⟨hb,b,nvs,ty,fp,rfl,hge,hheap,ho,hnd,hbn,hfr⟩:=hg;have hA:=hs.call hb
 let E1:Fm:=E.with s.next b
 have kE:=Fm.with_keep E s.next b
 have hA1:({s with next:=s.next+1}:AS).isA B E1 (fun b=>s.ag E b∨w.heap.size≤b) a w':=by
  have mv:∀x v,Cm E w' (fun b=>s.ag E b∨w.heap.size≤b) s.next x v→Cm E1 w' (fun b=>s.ag E b∨w.heap.size≤b) (s.next+1) x v:=fun x v hx=>hx.move (A0f _) kE (fun _ _ _=>rfl) (fun _ _ h=>h);have kb:∀x∈s.aw,E1.β x.key=E.β x.key:=fun x hx=>(kE _ (hs.aw x hx).1).1
  have av:∀c,({s with next:=s.next+1}:AS).ag E1 c→s.ag E c:=by
   rintro c (⟨x,hx,hc⟩|hc)
   ·exact .inl ⟨x,hx,by rw [←kb x hx];exact hc⟩
   exact .inr hc
  refine ⟨hA.defers,fun p hp=>⟨Ta (hA.ay p hp).1,by rw [(kE _ (hA.ay p hp).1).2];exact (hA.ay p hp).2⟩,hA.size,fun i x hx=>mv _ _ (hA.af i x hx),fun x hx=>?_,fun x hx y hy e=>hA.boxes2 x hx y hy (by rw [←kb x hx,←kb y hy];exact e),hA.keys,fun y hy=>?_,hA.ownkeys,hA.sep,fun x hx y hy=>?_,fun k hk=>?_,hA.base,fun c hc=>hA.fresh c (av c hc),fun c hc=>hA.sub c (av c hc)⟩
  ·obtain ⟨g1,ws,ty',g2,g3,g4⟩:=hA.aw x hx
   exact ⟨Ta g1,ws,ty',by rw [kb x hx];exact g2,g3,fun i y hy=>mv _ _ (g4 i y hy)⟩
  ·obtain ⟨g1,g2,g3⟩:=hA.own y hy
   exact ⟨Ta g1,by rw [(kE _ g1).2];exact g2,g3⟩
  ·rw [kb x hx]
   exact hA.sepB x hx y hy
  by_cases e:k=s.next
  ·subst e;simp [E1,Fm.with,Value.oneCell']
  have hk':k<s.next:=by have:k<s.next+1:=hk;omega
  rw [(kE _ hk').2];exact hA.one k hk'
 have nav:∀c,w.heap.size≤c→¬ ({s with next:=s.next+1}:AS).ag E1 c:=by
  intro c hc hav
  have:s.ag E c:=by
   rcases hav with ⟨x,hx,hc'⟩|hc'
   ·exact .inl ⟨x,hx,by rw [←(kE _ (hs.aw x hx).1).1];exact hc'⟩
   exact .inr hc'
  have:=hs.avoid_lt this
  omega
 obtain ⟨vs',fps,e1,hvl,hr,rfl⟩:=ho;obtain rfl:nvs=vs':=by simpa using e1
 obtain ⟨E2,hAd,hL,hD⟩:=A6h (cs i) nvs fps {s with next:=s.next+1} E1 hA1 hvl hr hnd (fun c hc=>⟨.inr (hfr c hc),nav c (hfr c hc),.inl (Ew hs.base.size (hfr c hc))⟩);have hkk:s.next<(Fg (cs i) {s with next:=s.next+1}).2.next:=Kc (Rv _) hAd.next;have hβ:E2.β s.next=b:=by rw [(hAd.keep s.next (Rv _)).1];exact Fm.with_self _ _ _
 have hbx:(Fg (cs i) {s with next:=s.next+1}).2.aw=s.aw:=Vj _ _
 have hB1:=hAd.isA.addBox (k:=s.next) hkk (fun x hx e=>by
  rw [hbx] at hx
  have:=(hs.aw x hx).1
  omega) (cells:=(Fg (cs i) {s with next:=s.next+1}).1) (vs:=nvs.toArray) (ty:=ty) (by rw [hβ];exact hheap) (by simp [hL,hvl])
  (fun j y hy=>by
   have:=hD j y hy
   rwa [show nvs.toArray.getD j undef=nvs.getD j undef by rw [←Bn]]) (by
   rw [hβ];intro hav
   rcases hAd.ag b hav with h|h
   ·exact nav b hge h
   exact hbn h) (by rw [hβ];exact .inr hge) (by rw [hβ];exact .inl (Ew hs.base.size hge))
 have hres:=Cm.box (E:=E2) (w:=w') (A:=fun b=>s.ag E b∨w.heap.size≤b) (N:=(Fg (cs i) {s with next:=s.next+1}).2.next) (k:=s.next) 0 hkk;rw [hβ] at hres;have h:=h i hi;unfold C5e at h;exact ⟨_,rfl,(fun h=>by cases h),h.rec fun g=>g E2 _ w' ((hB1.put dst hres).is)⟩
end Go.Sx
set_option maxRecDepth 100000
namespace Go.Sx
open Go
open Go.RowKit (Below)
variable {P : Program} {T : List (TypeId × TI)}
def QN (N:Act→World→Prop):Exit→Act→World→Prop
 | .normal,a,w=>N a w
 |_,_,_=>False
def QF:Exit→Act→World→Prop:=fun _ _ _=>False
inductive AW (P:Program) (B:Fa) (N:Act→World→Prop) (ops:Array Oper) (fuel:Nat) (listed:Array Bool) (s:AS):Prop
 |mk (h:∀E a w,s.is B E a w→wpAny P .any ops (QN N) fuel listed a w):AW P B N ops fuel listed s
variable {B : Fa} {N : Act → World → Prop} {ops : Array Oper} {fuel : Nat} {listed : Array Bool} {s : AS}
theorem AW.out (h:AW P B N ops fuel listed s):∀E a w,s.is B E a w→wpAny P .any ops (QN N) fuel listed a w:=h.rec fun h=>h
variable {Q : Exit → Act → World → Prop} {Q' : Exit → Act → World → Prop}
theorem Oper.wp_Q {o:Oper}{a:Act}{w:World}{K:Act→World→Prop}(hq:∀e a w,e≠ .normal→Q e a w→Q' e a w)(h:o.wp P a w K Q):o.wp P a w K Q':=by
 have hl:LetsOut Q→LetsOut Q':=fun ⟨a,w,h⟩=>⟨a,w,hq _ _ _ Bi h⟩
 unfold Oper.wp at *;generalize (execOp a.eval o).run P w=r at *
 cases r with
 |ok n w'=>
  cases n<;>simp only [Oper.upon] at h ⊢ <;>
   first
    |exact h
    |exact Calls.mono h (fun e w'' he=>by cases e<;>first|exact he|exact hq _ _ _ Bi he|exact hl he)
 |halt x w'=>cases x<;>simp only [Oper.upon] at h ⊢ <;>first|exact h|exact hq _ _ _ Bi h
theorem C2n (hq:∀e a w,Q e a w→Q' e a w):∀(fuel:Nat) (listed:Array Bool) (a:Act) (w:World),wpAny P .any ops Q fuel listed a w→wpAny P .any ops Q' fuel listed a w
 | 0,_,_,_,h=>⟨h.1,hq _ _ _ h.2⟩
 |fuel+1,listed,a,w,h=>⟨fun h0=>hq _ _ _ (h.1 h0),fun i hi=>by
   have:=wpOp_mono (fun a w=>C2n hq fuel _ a w) (h.2 i hi)
   have hl:LetsOut Q→LetsOut Q':=fun ⟨a,w,h⟩=>⟨a,w,hq _ _ _ h⟩
   unfold wpOp at *
   split
   ·rename_i ho;simpa only [ho] using this
   rename_i o ho
   simp only [ho] at this
   split
   ·rename_i hw;simp only [hw,Lt] at this;exact this.imp (Oper.wp_Q fun e a w _=>hq e a w) (fun ⟨h1,h2⟩=>⟨h1,hl h2⟩)
   rename_i hw;rw [Ab hw] at this;exact this⟩
variable {K : List KI}
theorem Ux (hm:P.follows .mixedOrders=true){id:Nat}(h:AW P B (fun a w=>C9 P Q K .normal a w) ops ops.size (Array.replicate ops.size false) s):GW P B Q (.code (.region id ops true)::K) s:=
 ⟨fun E a w hs=>wp_region_any hm (C2n (fun e a w he=>by cases e<;>first|exact he|exact he.elim) _ _ _ _ (h.out E a _ (hs.call (w':= {w with drawn:=w.drawn+1}) ⟨rfl,rfl,rfl,Df _,fun _ _=>rfl⟩).is))⟩
theorem Uw (hr:(Region.ready .any ops listed).isEmpty=true)(h:GW P B Q K s):AW P B (fun a w=>C9 P Q K .normal a w) ops 0 listed s:=
 ⟨fun E a w hs=>⟨by simpa using hr,h.out E a w hs⟩⟩
def C5f (P:Program) (B:Fa) (N:Act→World→Prop) (ops:Array Oper) (fuel:Nat) (listed:Array Bool) (s:AS):List Nat→Prop
 | []=>True
 |i::r=>(match ops[i]? with
  |some o=>GW P B QF [.ops false ops [o],.loop (fun a w=>wpAny P .any ops (QN N) fuel (listed.setIfInBounds i true) a w)] s
  |none=>False)∧C5f P B N ops fuel listed s r
theorem C21 {l:List Nat}(h:C5f P B N ops fuel listed s l){i:Nat}(hi:i∈l):
  ∃o,ops[i]? =some o∧GW P B QF [.ops false ops [o],.loop (fun a w=>wpAny P .any ops (QN N) fuel (listed.setIfInBounds i true) a w)] s:=by
 induction l with
 |nil=>simp at hi
 |cons j r ih=>
  obtain ⟨h1,h2⟩:=h
  rcases Ca.1 hi with rfl|hi
  ·split at h1
   ·rename_i o ho;exact ⟨o,ho,h1⟩
   exact h1.elim
  exact ih h2 hi
def eqL (a b:List Nat):Bool:=
 match a,b with
 | [],[]=>true
 |x::a,y::b=>match Nat.beq x y with
  |true=>eqL a b
  |false=>false
 |_,_=>false
theorem C6e {a b:List Nat}(h:eqL a b=true):a=b:=by
 induction a generalizing b with
 |nil=>cases b<;>simp_all [eqL]
 |cons x a ih=>
  cases b with
  |nil=>simp [eqL] at h
  |cons y b=>
   unfold eqL at h
   split at h
   ·rename_i e;rw [Fl e,ih h]
   simp at h
theorem Ay (l:List Nat)(hr:(eqL (Region.ready .any ops listed) l&&!l.isEmpty)=true)(h:C5f P B N ops fuel listed s l):AW P B N ops (fuel+1) listed s:=by
 simp only [Ce,Ml] at hr;have hr1:=C6e hr.1;refine ⟨fun E a w hs=>⟨fun h0=>?_,fun i hi=>?_⟩⟩
 ·rw [hr1] at h0
  rw [h0] at hr
  simp at hr
 rw [hr1] at hi;obtain ⟨o,ho,hg⟩:=C21 h hi
 have:=hg.out E a w hs
 change wpList P ops (Exit.then _ QF) [o] a w at this
 unfold wpList at this;unfold wpOp;simp only [ho]
 split
 ·rename_i hw
  rw [Ak hw] at this;refine .inl ?_
  rcases this with h1|⟨_,a',w',h1⟩
  ·exact Oper.wp_Q (fun e a w hne he=>by cases e<;>first|exact absurd rfl hne|exact he.elim) h1
  exact h1.elim
 rename_i hw
 rw [Ab hw] at this;exact this
theorem Az (h:AW P B N ops fuel listed s):GW P B QF [.loop (fun a w=>wpAny P .any ops (QN N) fuel listed a w)] s:=
 ⟨fun E a w hs=>h.out E a w hs⟩
def A22:Op→Bool
 | .move _=>true
 | .assign _=>true
 | .binOp _ _ _ _ _=>true
 | .fieldAddr _ _ _=>true
 | .nilCheck _=>true
 |_=>false
variable {ps : List Prop}
theorem B2m (hT:Bw P T){wr:Bool}{op:Op}{x:AV}(hp0:A22 op=true)(hs:Lj T wr s op= .ok ps x)(hp:∀p∈ps,p){E:Fm}{a:Act}{w:World}(h:s.is B E a w)(o:Oper)(ho:o.op=op):∃v,(∀w',(execOp a.eval o).run P w'= .ok (.value v) w')∧Cm E w (s.ag E) s.next x v:=by
 obtain ⟨dst,op',ty,pos,after,guard⟩:=o
 simp only at ho
 subst ho
 cases op'<;>simp only [A22,Qq] at hp0
 case move y=>
  simp only [Lj,Gj.ok.injEq] at hs;obtain ⟨rfl,rfl⟩:=hs;exact ⟨a.eval y,fun w'=>by simp [execOp],h.ev y⟩
 case assign y=>
  simp only [Lj,Gj.ok.injEq] at hs;obtain ⟨rfl,rfl⟩:=hs;exact ⟨a.eval y,fun w'=>by simp [execOp],h.ev y⟩
 case binOp b t y z g=>
  simp only [Lj] at hs;obtain ⟨r,h1,h2⟩:=C5o hT hs hp (h.ev y) (h.ev z) y z;refine ⟨r,fun w'=>?_,h2⟩;have h1:=h1 w';simp only [execOp,Sem.run_bind];simp only [Sem.run_bind] at h1;rw [h1];rfl
 case fieldAddr t y f=>
  simp only [Lj] at hs;have hy:=h.ev y
  split at hs
  ·rename_i o u hf
   split at hs
   ·rename_i k off hsz e
    obtain ⟨j,hj,hjs⟩:=Ee.1 hsz;rw [e] at hy;simp only [Gj.ok.injEq] at hs;obtain ⟨rfl,rfl⟩:=hs;generalize hv:a.eval y=v at hy
    cases hy with
    |box _ hk=>exact ⟨_,fun w'=>by simp only [execOp,hv,Sem.run_bind,Mi hT hf hj (Hv hjs),Result.andThen_ok];rfl,.box _ hk⟩
   ·rename_i n es row j' off hsz e
    obtain ⟨j,hj,hjs⟩:=Ee.1 hsz;rw [e] at hy;simp only [Gj.ok.injEq] at hs;obtain ⟨rfl,rfl⟩:=hs;generalize hv:a.eval y=v at hy
    cases hy with
    |el _ b o' cap hr h0 hi=>exact ⟨_,fun w'=>by simp only [execOp,hv,Sem.run_bind,Mi hT hf hj (Hv hjs),Result.andThen_ok];rfl,by rw [X5];exact .el _ b o' cap hr h0 hi⟩
   ·rename_i k es j' off hsz e
    obtain ⟨j,hj,hjs⟩:=Ee.1 hsz;rw [e] at hy;simp only [Gj.ok.injEq] at hs;obtain ⟨rfl,rfl⟩:=hs;generalize hv:a.eval y=v at hy
    cases hy with
    |oel _ b o' n cap hk hov h0 hi=>exact ⟨_,fun w'=>by simp only [execOp,hv,Sem.run_bind,Mi hT hf hj (Hv hjs),Result.andThen_ok];rfl,by rw [X5];exact .oel _ b o' n cap hk hov h0 hi⟩
   simp at hs
  simp at hs
 case nilCheck y=>
  simp only [Lj] at hs;have hy:=h.ev y
  split at hs
  ·rename_i k off e
   rw [e] at hy;simp only [Gj.ok.injEq] at hs;obtain ⟨rfl,rfl⟩:=hs;generalize hv:a.eval y=v at hy
   cases hy with
   |box _ hk=>exact ⟨_,fun w'=>by simp only [execOp,hv];rfl,.box _ hk⟩
  ·rename_i n es row j off e
   rw [e] at hy;simp only [Gj.ok.injEq] at hs;obtain ⟨rfl,rfl⟩:=hs;generalize hv:a.eval y=v at hy
   cases hy with
   |el _ b o' cap hr h0 hi=>exact ⟨_,fun w'=>by simp only [execOp,hv];rfl,.el _ b o' cap hr h0 hi⟩
  ·rename_i k es j off e
   rw [e] at hy;simp only [Gj.ok.injEq] at hs;obtain ⟨rfl,rfl⟩:=hs;generalize hv:a.eval y=v at hy
   cases hy with
   |oel _ b o' n cap hk hov h0 hi=>exact ⟨_,fun w'=>by simp only [execOp,hv];rfl,.oel _ b o' n cap hk hov h0 hi⟩
  simp at hs
def D1a (ops:Array Oper) (listed:Array Bool) (i:Nat) (oi:Oper):Bool:=
 (List.range ops.size).all fun j=>j==i||listed.getD j true||match ops[j]? with
  |some oj=>(oj.after.toList.any fun e=>Region.binds .any e&&e.on==i)||oi.apart ops oj
  |none=>true
theorem C4f (hT:Bw P T)(wr:Bool)(i:Nat){o:Oper}(hi:ops[i]? =some o)(hg:o.guard=none)(hk:A22 o.op=true)(hb:(Region.noSelect ops&&(Region.ready .any ops listed).contains i&&D1a ops listed i o)=true){x:AV}(hst:Lj T wr s o.op= .ok ps x)(hp:∀p∈ps,p)(h:AW P B N ops fuel (listed.setIfInBounds i true) (s.put o.dst x)):AW P B N ops (fuel+1) listed s:=by
 simp only [Ce,A0h] at hb;obtain ⟨⟨h1,h2⟩,h3⟩:=hb;refine ⟨fun E a w hs=>?_⟩;obtain ⟨v,hv,hd⟩:=B2m hT hk hst hp hs o rfl;refine wpAny_first hi (Region.noSelect_spec h1) (fun c a w hq=>hq) fuel listed a w (fun j oj hoj hji hun hno=>?_) h2 (.inl ⟨by simp [Region.wanted,hg],hv⟩) (h.out E _ w (hs.put o.dst hd))
 have:=J6.1 h3 j (Ft.2 (T8.1 hoj).1)
 simp only [hoj,hun,A3l,Yw,Qr,hji,false_or,Tf,Ce] at this
 rcases this with ⟨e,he,hb,hon⟩|h
 ·exact absurd hon (hno e (Uo.1 he) hb)
 exact h
def D2f (ps:List Prop):Prop:=
 match ps with
 | []=>True
 |p::r=>p∧D2f r
theorem Q0 (h:D2f ps):∀p∈ps,p:=by
 induction ps with
 |nil=>simp
 |cons q r ih=>
  intro p hp
  rcases Ca.1 hp with rfl|hp
  ·exact h.1
  exact ih h.2 p hp
theorem C1c {q:Bool}{f:FuncId}{xs:List AV}{dst:Option Tmp}(k:Nat)(c':Ag){c:Ag}(hk:Bl s.own k=some c)(hc:Ly c c')(h:CW P B Q q f xs dst K {s with own:=Je s.own k c'}):CW P B Q q f xs dst K s:=by
 obtain ⟨h0,h⟩:=h;refine ⟨⟨h0,fun E a w hs vs hl hv=>?_⟩⟩;have hm:=C2 hk
 have av:∀b,({s with own:=Je s.own k c'}:AS).ag E b→s.ag E b:=by
  rintro b (hb|⟨y,hy,hb⟩)
  ·exact .inl hb
  obtain ⟨z,hz,e⟩:=Ie hy;exact .inr ⟨z,hz,by rw [e];exact hb⟩
 have mv:∀x v,Cm E w (s.ag E) s.next x v→Cm E w (({s with own:=Je s.own k c'}:AS).ag E) s.next x v:=fun x v hx=>
  hx.move (Df _) (fun _ _=>⟨rfl,rfl⟩) (fun _ _ _=>rfl) (fun b _ hb=>av b hb)
 refine h E a w ⟨hs.defers,hs.ay,hs.size,fun i x hx=>mv _ _ (hs.af i x hx),fun x hx=>?_,hs.boxes2,hs.keys,fun y hy=>?_,by rw [Zr];exact hs.ownkeys,fun y hy z hz hne=>?_,fun x hx y hy=>?_,hs.one,hs.base,fun b hb=>hs.fresh b (av b hb)⟩ vs hl (fun i x hx=>mv _ _ (hv i x hx))
 ·obtain ⟨h1,vs,ty,h2,h3,h4⟩:=hs.aw x hx
  exact ⟨h1,vs,ty,h2,h3,fun i y hy=>mv _ _ (h4 i y hy)⟩
 ·rcases Xq hy with ⟨h1,h2,_⟩|⟨h1,_⟩
  ·obtain ⟨g1,g2,g3⟩:=hs.own _ hm
   rw [h1,h2];exact ⟨g1,hc.own g2,g3⟩
  exact hs.own y h1
 ·obtain ⟨y',hy',e1⟩:=Ie hy
  obtain ⟨z',hz',e2⟩:=Ie hz;rw [←e1,←e2];exact hs.sep y' hy' z' hz' (by rw [e1,e2];exact hne)
 obtain ⟨y',hy',e1⟩:=Ie hy;rw [←e1];exact hs.sepB x hx y' hy'
def B4c {α:Type} (e:α→List Ag) (row:Nat→List Ag):Nat→List α→Prop
 |_,[]=>True
 |k,x::r=>row k=e x∧B4c e row (k+1) r
variable {row : Nat → List Ag}
theorem A4w {α:Type} [Inhabited α] {e:α→List Ag}:∀{k:Nat} {xs:List α},B4c e row k xs→∀i,i<xs.length→row (k+i)=e (xs.getD i default)
 |_,[],_,i,hi=>by simp at hi
 |k,x::r,h,0,_=>h.1
 |k,x::r,h,i+1,hi=>by
  have:=A4w h.2 i (by simpa using hi)
  rw [show k+(i+1)=k+1+i by omega]
  simpa using this
theorem Nu {α:Type} [Inhabited α] {n es:Nat}{e:α→List Ag}{xs:List α}(hn:n=xs.length)(h:B4c e row 0 xs):Ly (.sl n es row) (Mr es e xs):=by
 subst hn;refine C5v fun i hi=>?_
 have:=A4w h i hi
 rw [Td] at this;rw [this];exact Ja.rfl' _
theorem C4h (l:List Ow):Ba [] l=l:=by
 induction l with
 |nil=>rfl
 |cons x r ih=>exact A6 (x:: ·) ih
theorem C09 (n:Nat)(h:GW P B Q K {s with next:=s.next+n}):GW P B Q K s:=by
 refine ⟨fun E a w hs=>?_⟩
 let E':Fm:=⟨fun k=>if k<s.next then E.ov k else .slice none 0 0,E.fp⟩
 have kE:∀k,k<s.next→E'.β k=E.β k∧E'.ov k=E.ov k:=fun k hk=>by
  have h:E'.ov k=E.ov k:=by simp [E',hk]
  exact ⟨Fm.β_of h,h⟩
 have kb:∀x∈s.aw,E'.β x.key=E.β x.key:=fun x hx=>(kE _ (hs.aw x hx).1).1
 have av:∀b,({s with next:=s.next+n}:AS).ag E' b→s.ag E b:=by
  rintro b (⟨x,hx,hb⟩|hb)
  ·exact .inl ⟨x,hx,by rw [←kb x hx];exact hb⟩
  exact .inr hb
 have mv:∀x v,Cm E w (s.ag E) s.next x v→Cm E' w (({s with next:=s.next+n}:AS).ag E') (s.next+n) x v:=fun x v hx=>
  hx.move (Us _ _) kE (fun _ _ _=>rfl) (fun b _ hb=>av b hb)
 refine h.out E' a w ⟨hs.defers,fun p hp=>⟨Kc (hs.ay p hp).1 (Us _ _),by rw [(kE _ (hs.ay p hp).1).2];exact (hs.ay p hp).2⟩,hs.size,fun i x hx=>mv _ _ (hs.af i x hx),fun x hx=>?_,fun x hx y hy e=>hs.boxes2 x hx y hy (by rw [←kb x hx,←kb y hy];exact e),hs.keys,fun y hy=>?_,hs.ownkeys,hs.sep,fun x hx y hy=>?_,fun k _=>?_,hs.base,fun b hb=>hs.fresh b (av b hb)⟩
 ·obtain ⟨h1,vs,ty,h2,h3,h4⟩:=hs.aw x hx
  exact ⟨Kc h1 (Us _ _),vs,ty,by rw [kb x hx];exact h2,h3,fun i y hy=>mv _ _ (h4 i y hy)⟩
 ·obtain ⟨h1,h2,h3⟩:=hs.own y hy
  exact ⟨Kc h1 (Us _ _),by rw [(kE _ h1).2];exact h2,h3⟩
 ·rw [kb x hx]
  exact hs.sepB x hx y hy
 simp only [E']
 split
 ·rename_i hk;exact hs.one k hk
 rfl
end Go.Sx
set_option maxRecDepth 100000
namespace Go.Sx
open Go
open Go.RowKit (Below)
variable {P : Program} {T : List (TypeId × TI)}
variable {B : Fa} {H : World → Prop} {Q : Exit → Act → World → Prop} {q : Bool} {f : FuncId} {xs : List AV} {dst : Option Tmp} {K : List KI} {s : AS} {ins : List Gl} {ax : List Gl}
theorem C27 (hf:Dy P H f ins ax)(hH:∀w,B.rel w→H w)(hx:Ix s xs=some ins)(h:G P B Q K ((Ho ax s).2.put dst (Ho ax s).1)):A3v P B Q q f xs dst K s:=by
 refine ⟨hf.1,fun E a w hs vs hl hv=>?_⟩;obtain ⟨h1,h2⟩:=Ji hx;refine (hf.2 w (hH w hs.base) vs A7 (fun i x hi=>?_)).mono (fun e w' hg=>?_)
 ·obtain ⟨y,hy,hc⟩:=h2 i x hi
  exact Ku hs hc (hv i y hy)
 obtain ⟨hb,rs,fps,rfl,hrl,hro,hfr,hdis⟩:=hg;have hA:=hs.call hb
 obtain ⟨E',hAd,hL,hD⟩:=M3 ax rs fps s E hA hrl hro (fun i hi=>(hfr i hi).1) hdis (fun i hi b hb'=>by
  have hge:=(hfr i hi).2 b hb';refine ⟨.inr hge,fun hav=>?_,.inl (Ew hs.base.size hge)⟩
  have:=hs.avoid_lt hav
  omega)
 have hres:=Gp ax (Dk ax s).1 rs hrl hL hD;rw [Sk] at h;exact ⟨_,rfl,fun _=> .of_below hb,h E' _ w' ((hAd.isA.put dst hres).is)⟩
theorem C5t (hf:Dy P H f ins ax)(hH:∀w,B.rel w→H w)(hx:Ix s xs=some ins)(h:G P B Q K (s.put dst (Pa ax))):A3v P B Q q f xs dst K s:=by
 refine ⟨hf.1,fun E a w hs vs hl hv=>?_⟩;obtain ⟨h1,h2⟩:=Ji hx;refine (hf.2 w (hH w hs.base) vs A7 (fun i x hi=>?_)).mono (fun e w' hg=>?_)
 ·obtain ⟨y,hy,hc⟩:=h2 i x hi
  exact Ku hs hc (hv i y hy)
 obtain ⟨hb,rs,fps,rfl,hrl,hro,hfr,hdis⟩:=hg;have hI:=(hs.call hb).is
 have hno:∀i,i<ax.length→∀b∈fps i,¬ s.ag E b:=fun i hi b hb' hav=>by
  have:=hs.avoid_lt hav
  have:=(hfr i hi).2 b hb'
  omega
 have hone:∀i y,ax[i]? =some y→Cm E w' (s.ag E) s.next (La y) (rs.getD i undef):=by
  intro i y hy;have hi:i<ax.length:=(Cq.1 hy).1;have ho:=hro i y hy
  cases y with
  |one c=>exact .c (Bp.rep ho (hno i hi))
  |agg cs=>
   obtain ⟨us,gps,hu,hul,hur,hfp⟩:=ho;rw [hu];refine .agg us (by simp [hul]) (fun j x hj=>?_);simp only [E8,Ee] at hj;obtain ⟨c,hc,rfl⟩:=hj;have hj:j<cs.length:=(Cq.1 hc).1;exact .c ((hur j c hc).rep (fun b hb'=>hno i hi b (by rw [hfp];exact Du hj hb')))
  |ptr cs=>exact ho.elim
  |fn f an=>exact ho.elim
 have hres:Cm E w' (s.ag E) s.next (Pa ax) (Ir rs):=by
  have:=Gp (E:=E) (A:=s.ag E) (N:=s.next) (w:=w') ax (ax.map La) rs hrl Bi (fun i x hi=>by
   simp only [E8,Ee] at hi;obtain ⟨y,hy,rfl⟩:=hi
   exact hone i y hy)
  match ax,this with
  | [],this=>exact this
  | [o],this=>exact this
  |o1::o2::r,this=>exact this
 exact ⟨_,rfl,fun _=> .of_below hb,h E _ w' (hI.put dst hres)⟩
theorem B8x (hf:Dy P H f ins ax)(hH:∀w,B.rel w→H w)(hx:Ix s xs=some ins)(h:GW P B Q K ((Ho ax s).2.put dst (Ho ax s).1)):CW P B Q q f xs dst K s:=⟨C27 hf hH hx (h.rec id)⟩
theorem D1l (hf:Dy P H f ins ax)(hH:∀w,B.rel w→H w)(hx:Ix s xs=some ins)(h:GW P B Q K (s.put dst (Pa ax))):CW P B Q q f xs dst K s:=⟨C5t hf hH hx (h.rec id)⟩
end Go.Sx
set_option maxRecDepth 100000
namespace Go.Sx
open Go
open Go.RowKit (Below)
variable {P : Program} {T : List (TypeId × TI)} {ops : Array Oper}
inductive FK where
 |emp (es:Nat)
 |rd (v:Value)
 |ra (vs:List Value)
structure Flt where
 i:Nat
 d:Tmp
 k:FK
def C1y (T:List (TypeId×TI)) (op:Op):Bool:=
 match op with
 | .buildSlice t 0 ps=>ps.isEmpty&&match find T t with
  |some i=>match i.elem with
   |some e=>(find T e).isSome
   |none=>false
  |none=>false
 |_=>false
variable {o : Oper}
theorem C9j (hT:Bw P T)(h:C1y T o.op=true)(ρ:Operand→Value)(w:World):∃ob,(execOp ρ o).run P w= .ok (.value (.slice (some ⟨w.heap.size,0,none⟩) 0 0)) (w.alloc ob):=by
 obtain ⟨dst,op,ty,pos,after,guard⟩:=o
 simp only at h
 unfold C1y at h
 split at h
 ·rename_i t ps
  simp only [Ce] at h;obtain ⟨h1,h2⟩:=h
  split at h2
  ·rename_i i hi
   split at h2
   ·rename_i e he
    obtain ⟨j,hj⟩:=A9n.1 h2;have hps:ps= #[]:=by simpa using h1
    subst hps;refine ⟨.cells #[] e,?_⟩
    have hrun:(Instr.buildSlice t 0 ((#[]:Array (Nat×Operand)).map fun p=>(p.1,ρ p.2))).run P w= .ok (.slice (some ⟨w.heap.size,0,none⟩) 0 0) (w.alloc (.cells #[] e)):=by
     simp [Instr.buildSlice,run_underlying (Bz (hT t i hi) he),Bf (hT e j hj),newRow,Array.range_zero',Instr.fill]
    simp only [execOp,Sem.run_bind,hrun,Result.andThen_ok];rfl
   simp at h2
  simp at h2
 simp at h
def D2o (v:Value):Prop:=∃b,v= .slice (some ⟨b,0,none⟩) 0 0
def isF (k:FK) (v:Value):Prop:=
 match k with
 | .emp _=>D2o v
 | .rd x=>v=x
 | .ra xs=>v= .agg xs.toArray
def C81 (fs:List Flt) (u:List Nat) (a:Act):Prop:=∀f∈fs,f.i∉u→isF f.k (a.tmps.getD f.d undef)
inductive FW (P:Program) (B:Fa) (N:Act→World→Prop) (ops:Array Oper) (chain:List Nat) (fs:List Flt) (s:AS):Prop
 |mk (h:∀fuel listed u E a w,s.is B E a w→chain.length+u.length≤fuel→u.Nodup→
   (∀j o,ops[j]? =some o→listed.getD j false=false→j∈chain∨j∈u)→(∀c∈chain,listed.getD c true=false)→(∀j∈u,listed.getD j true=false)→
   (∀j∈u,∃f∈fs,f.i=j)→C81 fs u a→Qx P ops N fuel listed a w):FW P B N ops chain fs s
variable {B : Fa} {N : Act → World → Prop} {chain : List Nat} {fs : List Flt} {s : AS}
theorem FW.out (h:FW P B N ops chain fs s):∀fuel listed u E a w,s.is B E a w→chain.length+u.length≤fuel→u.Nodup→
   (∀j o,ops[j]? =some o→listed.getD j false=false→j∈chain∨j∈u)→(∀c∈chain,listed.getD c true=false)→(∀j∈u,listed.getD j true=false)→
   (∀j∈u,∃f∈fs,f.i=j)→C81 fs u a→Qx P ops N fuel listed a w:=h.rec fun h=>h
def C1g (ops:Array Oper) (l:List Edge) (bad:Nat→Bool):Bool:=l.all fun e=>!Region.binds .any e||(Nat.blt e.on ops.size&&!bad e.on)
def C1i (T:List (TypeId×TI)) (ops:Array Oper) (chain:List Nat) (fs:List Flt) (s:AS) (f:Flt):Bool:=
 match ops[f.i]? with
 |some o=>o.guard.isNone&&(match o.dst with|some d=>Nat.beq d f.d|none=>false)&&(match f.k with| .emp _=>C1y T o.op|_=>true)&&C1g ops o.after.toList (fun k=>chain.contains k||fs.any fun g=>Nat.beq g.i k)&&
   !chain.contains f.i&&(fs.all fun g=>Nat.beq g.i f.i||!Nat.beq g.d f.d)&&Nat.blt f.d s.af.length&&(match I7 s.af f.d with| .any=>true|_=>false)
 |none=>false
def Q6 (T:List (TypeId×TI)) (ops:Array Oper) (chain:List Nat) (fs:List Flt) (s:AS):Bool:=fs.all (C1i T ops chain fs s)&&G2 (fs.map (·.i))
theorem A7a (h:Q6 T ops chain fs s=true):fs.all (C1i T ops chain fs s)=true:=by
 simp only [Q6,Ce] at h;exact h.1
theorem B9b (h:Q6 T ops chain fs s=true):∀g∈fs,∀f∈fs,g≠f→g.i≠f.i:=by
 simp only [Q6,Ce] at h;have hn:=Eg h.2;intro g hg f hf hne e;obtain ⟨i,hi,rfl⟩:=Ry hg;obtain ⟨j,hj,rfl⟩:=Ry hf
 by_cases hij:i=j
 ·subst hij;exact hne rfl
 have h1:=Rx.1 hn
 rcases Si hij with hl|hl
 ·exact h1 i j (by simpa using hi) (by simpa using hj) hl (by simpa using e)
 exact h1 j i (by simpa using hj) (by simpa using hi) hl (by simpa using e.symm)
structure D2e (T:List (TypeId×TI)) (ops:Array Oper) (chain:List Nat) (fs:List Flt) (s:AS) (f:Flt) (o:Oper):Prop where
 get:ops[f.i]? =some o
 guard:o.guard=none
 dst:o.dst=some f.d
 emp:(match f.k with| .emp _=>C1y T o.op|_=>true)=true
 edges:∀e∈o.after,Region.binds .any e=true→e.on<ops.size∧e.on∉chain∧∀g∈fs,g.i≠e.on
 out:f.i∉chain
 apart:∀g∈fs,g.i≠f.i→g.d≠f.d
 lt:f.d<s.af.length
 any:I7 s.af f.d= .any
variable {f : Flt}
theorem Nv (h:C1i T ops chain fs s f=true):∃o,D2e T ops chain fs s f o:=by
 unfold C1i at h
 split at h
 ·rename_i o ho
  simp only [Ce] at h;obtain ⟨⟨⟨⟨⟨⟨⟨h1,h2⟩,h3⟩,h4⟩,h5⟩,h6⟩,h7⟩,h8⟩:=h;refine ⟨o,ho,by simpa using h1,?_,h3,fun e he hb=>?_,by simpa using h5,fun g hg hne=>?_,Hv h7,?_⟩
  ·split at h2
   ·rename_i d hd;rw [hd,Fl h2]
   simp at h2
  ·have:=J6.1 h4 e (Uo.2 he)
   simp only [hb,Bool.not_true,A0p,Ce,Ml,Bool.or_eq_false_iff,A3n] at this;obtain ⟨k1,k2,k3⟩:=this;refine ⟨by have:=Hv k1;omega,by simpa using k2,fun g hg e=>k3 g hg (by simp [e])⟩
  ·have:=J6.1 h6 g hg
   simp only [Yw,Ml] at this
   rcases this with h|h
   ·exact absurd (Fl h) hne
   intro e;rw [e] at h
   simp at h
  split at h8
  ·assumption
  simp at h8
 simp at h
def Yn (T:List (TypeId×TI)) (ops:Array Oper) (s:AS) (fs:List Flt):Prop:=
 match fs with
 | []=>True
 |f::r=>(match f.k with
  | .emp _=>True
  | .rd v=>∃o,ops[f.i]? =some o∧Lj T false s o.op= .ok [] (.v v)∧Ht [v]=true
  | .ra vs=>∃o,ops[f.i]? =some o∧Lj T false s o.op= .ok [] (.agg (vs.map AV.v))∧∀v∈vs,Ht [v]=true)∧Yn T ops s r
variable {v : Value}
theorem B2f (h:Yn T ops s fs)(hf:f∈fs)(hk:f.k= .rd v)(ho:ops[f.i]? =some o):Lj T false s o.op= .ok [] (.v v)∧Ht [v]=true:=by
 induction fs with
 |nil=>simp at hf
 |cons g r ih=>
  rcases Ca.1 hf with rfl|hf
  ·have h1:=h.1
   rw [hk] at h1;obtain ⟨o',h2,h3⟩:=h1;rw [ho] at h2;obtain rfl:=D3 h2;exact h3
  exact ih h.2 hf
variable {vs : List Value}
theorem A8p (h:Yn T ops s fs)(hf:f∈fs)(hk:f.k= .ra vs)(ho:ops[f.i]? =some o):Lj T false s o.op= .ok [] (.agg (vs.map AV.v))∧∀v∈vs,Ht [v]=true:=by
 induction fs with
 |nil=>simp at hf
 |cons g r ih=>
  rcases Ca.1 hf with rfl|hf
  ·have h1:=h.1
   rw [hk] at h1;obtain ⟨o',h2,h3⟩:=h1;rw [ho] at h2;obtain rfl:=D3 h2;exact h3
  exact ih h.2 hf
variable {E : Fm} {w : World}
theorem C55 {A:Nat→Prop}{N:Nat}(h:Cm E w A N (.agg (vs.map AV.v)) v):v= .agg vs.toArray:=by
 cases h with
 |agg us hl hu=>
  have:us=vs:=by
   apply List.ext_getElem
   ·simpa using hl
   intro i h1 h2
   have:=hu i (.v vs[i]) (by simp [h2])
   have:=B4 this
   simpa [List.getD,h1] using this
  rw [this]
theorem C0e {l:List AV}{i:Nat}(h:I7 l i= .any):C4 l i .any=l:=by
 induction l generalizing i with
 |nil=>rfl
 |cons x r ih=>cases i with
  |zero=>simp only [I7] at h;simp [C4,h]
  |succ i=>simp only [I7] at h;simp [C4,ih h]
variable {a : Act} {d : Tmp}
theorem AS.is.putAny (h:s.is B E a w)(hd:I7 s.af d= .any)(v:Value):s.is B E (a.put (some d) v) w:=by
 have:=h.put (some d) (x:= .any) (v:=v) (.any v)
 have e:s.put (some d) .any=s:=by simp only [AS.put,C0e hd]
 rwa [e] at this
theorem C6m (h:d<a.tmps.size):(a.put (some d) v).tmps.getD d undef=v:=by
 simp [Act.put,Array.getD,A0d,h]
theorem A37 {d':Tmp}(h:d≠d'):(a.put (some d) v).tmps.getD d' undef=a.tmps.getD d' undef:=by
 simp only [Act.put,Array.getD,A0d]
 by_cases h':d'<a.tmps.size
 ·simp [h',h]
 simp [h']
theorem A1c {l:Array Bool}{j:Nat}(h:l.getD j true=false):l.getD j false=false:=by
 by_cases hj:j<l.size
 ·simp only [Array.getD,hj,dite_true] at h ⊢;exact h
 simp [Array.getD,hj]
variable {fuel : Nat} {listed : Array Bool}
theorem A69 (hT:Bw P T)(hF:Q6 T ops chain fs s=true)(hR:Yn T ops s fs)(ih:∀listed u E a w,s.is B E a w→chain.length+u.length≤fuel→u.Nodup→
   (∀j o,ops[j]? =some o→listed.getD j false=false→j∈chain∨j∈u)→(∀c∈chain,listed.getD c true=false)→(∀j∈u,listed.getD j true=false)→
   (∀j∈u,∃f∈fs,f.i=j)→C81 fs u a→Qx P ops N fuel listed a w){u:List Nat}(hs:s.is B E a w)(hl:chain.length+u.length≤fuel+1)(hnd:u.Nodup)(hun:∀j o,ops[j]? =some o→listed.getD j false=false→j∈chain∨j∈u)(hch:∀c∈chain,listed.getD c true=false)(hul:∀j∈u,listed.getD j true=false)(huf:∀j∈u,∃f∈fs,f.i=j)(hI:C81 fs u a){j:Nat}(hj:j∈u):opM P ops j (Qx P ops N fuel (listed.setIfInBounds j true)) a w:=by
 obtain ⟨f,hf,rfl⟩:=huf j hj;have hD:=B9b hF;have hF:=A7a hF;obtain ⟨o,O⟩:=Nv (J6.1 hF f hf)
 have hrun:∃v w',(execOp a.eval o).run P w= .ok (.value v) w'∧Below w.heap.size w w'∧isF f.k v:=by
  have hemp:=O.emp
  cases hk:f.k with
  |emp es=>
   rw [hk] at hemp;obtain ⟨ob,hrun⟩:=C9j hT hemp a.eval w;exact ⟨_,_,hrun,Jd w ob,⟨_,rfl⟩⟩
  |rd x=>
   obtain ⟨v,h1,h2⟩:=A2a hT (B2f hR hf hk O.get).1 (fun p hp=>by cases hp) hs o rfl
   have:=B4 h2
   subst this;exact ⟨_,_,h1 w (El.refl w),Below.refl _ _,rfl⟩
  |ra xs=>
   obtain ⟨v,h1,h2⟩:=A2a hT (A8p hR hf hk O.get).1 (fun p hp=>by cases hp) hs o rfl
   have:=C55 h2
   subst this;exact ⟨_,_,h1 w (El.refl w),Below.refl _ _,rfl⟩
 obtain ⟨v,w',hrun,hbel,hv⟩:=hrun;unfold opM;simp only [O.get];have hw:Region.wanted o (yielded ops a.tmps)=true:=by simp [Region.wanted,O.guard]
 simp only [hw,Lt];unfold Ki;rw [hrun];refine ⟨fun _=>El.of_below hbel,?_⟩
 rw [O.dst];have hs':=((hs.call hbel).is).putAny O.any v;have hsz:f.d<a.tmps.size:=by rw [hs.size];exact O.lt
 refine ih _ (u.erase f.i) E _ _ hs' (by rw [List.length_erase_of_mem hj];have:=List.length_pos_of_mem hj;omega) (hnd.erase _) (fun k o' ho' hk=>?_) (fun c hc=>?_) (fun k hk=>?_) (fun k hk=>huf k (List.mem_of_mem_erase hk)) (fun g hg hgu=>?_)
 ·by_cases e:f.i=k
  ·subst e
   have hlt:f.i<listed.size:=by
    have:=hul _ hj
    by_cases h:f.i<listed.size
    ·exact h
    simp [Array.getD,h] at this
   simp [Array.getD,hlt] at hk
  rw [A0q false e] at hk;refine (hun k o' ho' hk).imp id fun h=>?_;exact (List.mem_erase_of_ne (Ne.symm e)).2 h
 ·have e:f.i≠c:=fun e=>O.out (e▸hc)
  rw [A0q true e];exact hch c hc
 ·have e:f.i≠k:=fun e=>by subst e;exact (List.Nodup.mem_erase_iff hnd).1 hk |>.1 rfl
  rw [A0q true e];exact hul k (List.mem_of_mem_erase hk)
 by_cases e:g.i=f.i
 ·by_cases hgf:g=f
  ·subst hgf
   rw [C6m hsz];exact hv
  exact absurd e (hD g hg f hf hgf)
 have hne:=O.apart g hg e;rw [A37 (Ne.symm hne)];refine hI g hg fun h=>hgu ((List.mem_erase_of_ne e).2 h)
theorem Ln (hT:Bw P T)(hF:Q6 T ops [] fs s=true)(hR:Yn T ops s fs)(h:∀E a w,s.is B E a w→N a w):FW P B N ops [] fs s:=by
 refine ⟨fun fuel=>?_⟩
 induction fuel with
 |zero=>
  intro listed u E a w hs hl _ hun _ _ _ _;have hu:u=[]:=Np (by simpa using hl);subst hu;refine ⟨?_,h E a w hs⟩
  match hr:Region.ready .any ops listed with
  | []=>rfl
  |i::r=>
   obtain ⟨h1,o,ho,_⟩:=mem_ready.1 (show i∈Region.ready .any ops listed by rw [hr];simp)
   rcases hun i o ho (A1c h1) with h|h<;>simp at h
 |succ fuel ih=>
  intro listed u E a w hs hl hnd hun hch hul huf hI;refine ⟨fun _=>h E a w hs,fun i hi=>?_⟩
  obtain ⟨h1,o,ho,_⟩:=mem_ready.1 hi
  have hiu:i∈u:=by
   rcases hun i o ho (A1c h1) with h|h
   ·simp at h
   exact h
  exact A69 hT hF hR ih hs hl hnd hun hch hul huf hI hiu
def U3 (o:Oper) (fs:List Flt):List Flt:=fs.filter fun f=>o.after.toList.any fun e=>Region.binds .any e&&Nat.beq e.on f.i
def Xs (o:Oper) (fs:List Flt):List Flt:=fs.filter fun f=>!o.after.toList.any fun e=>Region.binds .any e&&Nat.beq e.on f.i
def A6j (f:Flt) (s:AS):AS:=
 match f.k with
 | .emp es=> {s with af:=C4 s.af f.d (.own s.next),own:=⟨s.next,.sl 0 es fun _=>[]⟩::s.own,next:=s.next+1}
 | .rd v=> {s with af:=C4 s.af f.d (.v v)}
 | .ra vs=> {s with af:=C4 s.af f.d (.agg (vs.map AV.v))}
def A30 (fs:List Flt) (s:AS):AS:=
 match fs with
 | []=>s
 |f::r=>A30 r (A6j f s)
theorem A8n (hsz:d<a.tmps.size)(hv:a.tmps.getD d undef=v):a.put (some d) v=a:=by
 have:a.tmps.setIfInBounds d v=a.tmps:=by
  apply Array.ext
  ·rw [A0d]
  intro i h1 h2;rw [B41]
  split
  ·rename_i e
   subst e;rw [←hv]
   simp [Array.getD,hsz]
  rfl
 show ({a with tmps:=a.tmps.setIfInBounds d v}:Act)=a
 rw [this]
theorem B2w (f:Flt)(s:AS):(A6j f s).af.length=s.af.length:=by
 unfold A6j
 split<;>simp [Bm]
theorem C20 (h:s.is B E a w)(hd:f.d<s.af.length)(h1:∀v,f.k= .rd v→v.oneCell'=true)(h2:∀vs,f.k= .ra vs→∀v∈vs,v.oneCell'=true)(hv:isF f.k (a.tmps.getD f.d undef)):∃E',(A6j f s).is B E' a w:=by
 have hsz:f.d<a.tmps.size:=by rw [h.size];exact hd
 unfold A6j
 cases hk:f.k with
 |emp es=>
  rw [hk] at hv;obtain ⟨b,hv⟩:=hv;have hI:s.isA B E (s.ag E) a w:=⟨h.defers,h.ay,h.size,h.af,h.aw,h.boxes2,h.keys,h.own,h.ownkeys,h.sep,h.sepB,h.one,h.base,h.fresh,fun _ h=>h⟩
  obtain ⟨k1,k2⟩:=hI.addOwn (.emp es (fun _=>[]) b 0) Bi Bi;refine ⟨E.withOwn s.next (.slice (some ⟨b,0,none⟩) 0 0) [],?_⟩
  have:=((k1.put (some f.d) (x:= .own s.next) (v:= .slice (some ⟨b,0,none⟩) 0 0) k2).is)
  rw [A8n hsz hv] at this;exact this
 |rd v=>
  rw [hk] at hv;refine ⟨E,?_⟩
  have:=h.put (some f.d) (x:= .v v) (v:=v) (.c (.val v (h1 v hk)))
  rw [A8n hsz hv] at this;exact this
 |ra vs=>
  rw [hk] at hv;refine ⟨E,?_⟩
  have:=h.put (some f.d) (x:= .agg (vs.map AV.v)) (v:= .agg vs.toArray) (.agg vs Bi (fun i x hx=>by
   simp only [E8,Ee] at hx;obtain ⟨v,hv,rfl⟩:=hx;have e:vs.getD i undef=v:=by simp [List.getD,hv]
   rw [e]
   exact .c (.val v (h2 vs hk v (Gs hv)))))
  rw [A8n hsz hv] at this;exact this
theorem B5e:∀(fs:List Flt) {s:AS} {E:Fm},s.is B E a w→(∀f∈fs,f.d<s.af.length)→(∀f∈fs,∀v,f.k= .rd v→v.oneCell'=true)→(∀f∈fs,∀vs,f.k= .ra vs→∀v∈vs,v.oneCell'=true)→(∀f∈fs,isF f.k (a.tmps.getD f.d undef))→∃E',(A30 fs s).is B E' a w
 | [],_,E,h,_,_,_,_=>⟨E,h⟩
 |f::r,s,E,h,hd,h1,h3,hv=>by
  obtain ⟨E1,h2⟩:=C20 h (hd f Bi) (h1 f Bi) (h3 f Bi) (hv f Bi)
  exact B5e r h2 (fun g hg=>by
   rw [B2w]
   exact hd g (Da _ hg)) (fun g hg=>h1 g (Da _ hg)) (fun g hg=>h3 g (Da _ hg)) (fun g hg=>hv g (Da _ hg))
def Vm (ops:Array Oper) (chain:List Nat) (fs:List Flt) (o:Oper):Bool:=
 C1g ops o.after.toList (fun j=>chain.contains j)&&fs.all fun f=>match o.dst with|some d=>!Nat.beq d f.d|none=>true
def A3g (ops:Array Oper) (chain cands:List Nat):Bool:=
 G2 chain&&(cands.all fun k=>chain.contains k)&&!cands.isEmpty&&chain.all fun c=>cands.contains c||match ops[c]? with
  |some oc=>oc.after.toList.any fun e=>Region.binds .any e&&chain.contains e.on
  |none=>false
def D3f (P:Program) (B:Fa) (N:Act→World→Prop) (ops:Array Oper) (chain:List Nat) (fs:List Flt) (s:AS) (i:Nat):Prop:=
 ∃o s',ops[i]? =some o∧Vm ops chain fs o=true∧GW P B QF [.ops true ops [o],.loop (fun a w=>∃E,s'.is B E a w)] (A30 (U3 o fs) s)∧FW P B N ops (chain.erase i) (Xs o fs) s'
theorem C8h (hT:Bw P T){cands:List Nat}(hF0:Q6 T ops chain fs s=true)(hW:A3g ops chain cands=true)(hR:Yn T ops s fs)(hS:∀i∈cands,D3f P B N ops chain fs s i):FW P B N ops chain fs s:=by
 have hF:=A7a hF0;unfold A3g at hW;simp only [Ce] at hW;obtain ⟨⟨⟨w1,w2⟩,w3⟩,w4⟩:=hW;have wnd:=Eg w1;have wmem:∀k∈cands,k∈chain:=fun k hk=>by simpa using List.all_eq_true.1 w2 k hk
 refine ⟨fun fuel=>?_⟩
 have hne:∃k,k∈cands:=by
  cases hc:cands with
  |nil=>rw [hc] at w3;simp at w3
  |cons k r=>exact ⟨k,by simp⟩
 obtain ⟨k0,hk0⟩:=hne;have hlen:1≤chain.length:=List.length_pos_of_mem (wmem k0 hk0)
 induction fuel with
 |zero=>intro listed u E a w _ hl;omega
 |succ fuel ih=>
  intro listed u E a w hs hl hnd hun hch hul huf hI;refine ⟨fun h0=>?_,fun i hi=>?_⟩
  ·exfalso
   match u,hul,huf,hun with
   | [],_,_,hun=>
    obtain ⟨o,_,ho,hc,_⟩:=hS k0 hk0;simp only [Vm,Ce] at hc
    have:k0∈Region.ready .any ops listed:=by
     refine mem_ready.2 ⟨hch k0 (wmem k0 hk0),o,ho,fun e he hb=>?_⟩
     have:=J6.1 hc.1 e (Uo.2 he)
     simp only [hb,Bool.not_true,A0p,Ce,Ml] at this;have hlt:e.on<ops.size:=Hv this.1;refine Classical.byContradiction fun hne=>?_;have hne:listed.getD e.on false=false:=by simpa using hne
     rcases hun e.on _ (Yx hlt) hne with h|h
     ·exact absurd h (by simpa using this.2)
     simp at h
    rw [h0] at this
    cases this
   |j::u',hul,huf,hun=>
    obtain ⟨f,hf,rfl⟩:=huf j Bi;obtain ⟨of,O⟩:=Nv (J6.1 hF f hf)
    have:f.i∈Region.ready .any ops listed:=by
     refine mem_ready.2 ⟨hul f.i Bi,of,O.get,fun e he hb=>?_⟩;obtain ⟨h1,h2,h3⟩:=O.edges e he hb;refine Classical.byContradiction fun hne=>?_;have hne:listed.getD e.on false=false:=by simpa using hne
     rcases hun e.on _ (Yx h1) hne with h|h
     ·exact h2 h
     obtain ⟨g,hg,e⟩:=huf _ h;exact h3 g hg e
    rw [h0] at this
    cases this
  obtain ⟨h1,oi,hoi,hall⟩:=mem_ready.1 hi
  rcases hun i oi hoi (A1c h1) with hm|hm
  ·by_cases hcand:i∈cands
   ·obtain ⟨o,s',ho,hc,ht,h⟩:=hS i hcand
    rw [ho] at hoi;obtain rfl:=D3 hoi;simp only [Vm,Ce] at hc;obtain ⟨_,hc5⟩:=hc
    have hneed:∀f∈U3 o fs,f∈fs∧listed.getD f.i false=true:=fun f hf=>by
     obtain ⟨hf1,hf2⟩:=Uu.1 hf;obtain ⟨e,he,hb⟩:=Tf.1 hf2;simp only [Ce] at hb;refine ⟨hf1,?_⟩;rw [←Fl hb.2];exact hall e (Uo.1 he) hb.1
    have hnotu:∀f∈U3 o fs,f.i∉u:=fun f hf hu=>by
     have:=A1c (hul _ hu)
     rw [(hneed f hf).2] at this
     cases this
    obtain ⟨E1,hs1⟩:=B5e (U3 o fs) hs (fun f hf=>(Nv (J6.1 hF f (hneed f hf).1)).elim fun _ O=>O.lt) (fun f hf v hk=>(Nv (J6.1 hF f (hneed f hf).1)).elim fun _ O=>Hg (B2f hR (hneed f hf).1 hk O.get).2 v Bi) (fun f hf vs hk v hv=>(Nv (J6.1 hF f (hneed f hf).1)).elim fun _ O=>Hg ((A8p hR (hneed f hf).1 hk O.get).2 v hv) v Bi) (fun f hf=>hI f (hneed f hf).1 (hnotu f hf));have hg:Fz P ops (fun a w=>∃E,s'.is B E a w) [o] a w:=ht.out E1 a w hs1
    have hil:i<listed.size:=by
     by_cases h:i<listed.size
     ·exact h
     simp [Array.getD,h] at h1
    have next:∀v w',(∃E,s'.is B E (a.put o.dst v) w')→Qx P ops N fuel (listed.setIfInBounds i true) (a.put o.dst v) w':=by
     rintro v w' ⟨E',hs'⟩
     refine h.out fuel _ u E' _ w' hs' (by rw [List.length_erase_of_mem hm];omega) hnd (fun j oj hoj hj=>?_) (fun c hc=>?_) (fun j hj=>?_) (fun j hj=>?_) (fun f hf hfu=>?_)
     ·by_cases e:i=j
      ·subst e
       simp [Array.getD,hil] at hj
      rw [A0q false e] at hj;exact (hun j oj hoj hj).imp (fun h=>(List.mem_erase_of_ne (Ne.symm e)).2 h) id
     ·obtain ⟨e,hc⟩:=(List.Nodup.mem_erase_iff wnd).1 hc
      rw [A0q true (Ne.symm e)];exact hch c hc
     ·have e:i≠j:=fun e=>by
       subst e;obtain ⟨f,hf,e⟩:=huf _ hj;obtain ⟨_,O⟩:=Nv (J6.1 hF f hf);exact O.out (by rw [e];exact hm)
      rw [A0q true e];exact hul j hj
     ·obtain ⟨f,hf,rfl⟩:=huf j hj
      refine ⟨f,Uu.2 ⟨hf,?_⟩,rfl⟩;simp only [Ml];refine X1.2 fun hc=>?_;exact hnotu f (Uu.2 ⟨hf,hc⟩) hj
     obtain ⟨hf1,_⟩:=Uu.1 hf;have hv:=hI f hf1 hfu;have hd:=J6.1 hc5 f hf1
     cases hdst:o.dst with
     |none=>exact hv
     |some d=>
      rw [hdst] at hd;have hne:d≠f.d:=fun e=>by subst e;simp at hd
      rw [A37 hne];exact hv
    unfold opM;simp only [ho];unfold Fz at hg
    split
    ·rename_i hw
     rw [Ak hw] at hg
     rcases hg with ⟨v,h1,h2⟩|⟨_,hd⟩
     ·unfold Ki
      rw [h1 w (El.refl w)];exact ⟨fun _=>El.refl w,next v w h2⟩
     unfold Ki at hd ⊢;exact Yu.mono (fun v w' ⟨k1,k2⟩=>⟨k1,next v w' k2⟩) hd
    rename_i hw
    rw [Ab hw] at hg;exact next undef w hg
   exfalso
   have:=J6.1 w4 i hm
   rw [hoi] at this;have hcf:cands.contains i=false:=by simpa using hcand
   rw [hcf,A0p] at this;obtain ⟨e,he,hb⟩:=Tf.1 this;simp only [Ce] at hb;have h2:=hall e (Uo.1 he) hb.1;have h3:=A1c (hch e.on (by simpa using hb.2));rw [h2] at h3
   cases h3
  exact A69 hT hF0 hR ih hs hl hnd hun hch hul huf hI hm
theorem D1e (hT:Bw P T){k:Nat}{rest:List Nat}{s':AS}(ho:ops[k]? =some o)(hF:(Q6 T ops (k::rest) fs s&&(A3g ops (k::rest) [k]&&Vm ops (k::rest) fs o))=true)(hR:Yn T ops s fs)(ht:GW P B QF [.ops true ops [o],.loop (fun a w=>∃E,s'.is B E a w)] (A30 (U3 o fs) s))(h:FW P B N ops rest (Xs o fs) s'):FW P B N ops (k::rest) fs s:=by
 simp only [Ce] at hF;refine C8h hT hF.1 hF.2.1 hR (fun i hi=>?_);obtain rfl:i=k:=by simpa using hi
 refine ⟨o,s',ho,hF.2.2,ht,?_⟩;rw [List.erase_cons_head];exact h
theorem Nb (hT:Bw P T)(chain:List Nat)(k l:Nat)(c1 c2:List Nat){s1 s2:AS}{o1 o2:Oper}(ho1:ops[k]? =some o1)(ho2:ops[l]? =some o2)(hF:(Q6 T ops chain fs s&&(A3g ops chain [k,l]&&(Vm ops chain fs o1&&Vm ops chain fs o2)))=true)(hR:Yn T ops s fs)(e1:chain.erase k=c1)(e2:chain.erase l=c2)(t1:GW P B QF [.ops true ops [o1],.loop (fun a w=>∃E,s1.is B E a w)] (A30 (U3 o1 fs) s))(h1:FW P B N ops c1 (Xs o1 fs) s1)(t2:GW P B QF [.ops true ops [o2],.loop (fun a w=>∃E,s2.is B E a w)] (A30 (U3 o2 fs) s))(h2:FW P B N ops c2 (Xs o2 fs) s2):FW P B N ops chain fs s:=by
 simp only [Ce] at hF;refine C8h hT hF.1 hF.2.1 hR (fun i hi=>?_);simp only [Ca,Rs,T7] at hi
 rcases hi with rfl|rfl
 ·exact ⟨o1,s1,ho1,hF.2.2.1,t1,e1▸h1⟩
 exact ⟨o2,s2,ho2,hF.2.2.2,t2,e2▸h2⟩
theorem C0:GW P B QF [.loop (fun a w=>∃E,s.is B E a w)] s:=⟨fun E _ _ hs=>⟨E,hs⟩⟩
def Tk (P:Program) (ops:Array Oper) (o:Oper) (v:Value) (a:Act):Prop:=
 (Region.wanted o (yielded ops a.tmps)=true∧∀w',(execOp a.eval o).run P w'= .ok (.value v) w')∨(Region.wanted o (yielded ops a.tmps)=false∧v=undef)
theorem Tk.opM {i:Nat}(hi:ops[i]? =some o)(hy:Tk P ops o v a){K:Act→World→Prop}(h:K (a.put o.dst v) w):opM P ops i K a w:=by
 unfold Sx.opM;simp only [hi]
 rcases hy with ⟨hw,hv⟩|⟨hw,rfl⟩
 ·simp only [hw,Lt]
  unfold Ki;rw [hv w];exact ⟨fun _=>El.refl w,h⟩
 simp only [hw,Qq,Rw];exact h
theorem C7r {j:Nat}{oi oj:Oper}(hj:ops[j]? =some oj)(hap:oi.apart ops oj=true)(hsi:∀cs b,oi.op≠ .select cs b)(hsj:∀cs b,oj.op≠ .select cs b){K:Act→World→Prop}(hy:Tk P ops oi v a)(h:opM P ops j K (a.put oi.dst v) w):
  opM P ops j (fun a' w'=>Tk P ops oi v a'∧K (a'.put oi.dst v) w') a w:=by
 obtain ⟨h1,h2,h3⟩:=Oper.apart_spec hap
 have keep:∀u,Tk P ops oi v (a.put oj.dst u):=fun u=>by
  unfold Tk at *;rw [execOp_put oi hsi a oj.dst u h3,wanted_put oi a oj.dst u h3];exact hy
 unfold opM at *;simp only [hj] at *;rw [wanted_put oj a oi.dst v h1] at h
 split
 ·rename_i hw
  simp only [hw,Lt] at h;unfold Ki at *;rw [execOp_put oj hsj a oi.dst v h1] at h;refine Yu.mono (fun u w' ⟨k1,k2⟩=>⟨k1,keep u,?_⟩) h;rw [←Act.put_comm a v u h2];exact k2
 rename_i hw
 simp only [hw] at h;exact ⟨keep _,by rw [←Act.put_comm a v undef h2];exact h⟩
def B1p (ops:Array Oper) (listed:Array Bool) (i:Nat) (oi:Oper):Bool:=
 (List.range ops.size).all fun j=>j==i||listed.getD j true||(match ops[j]? with
  |some oj=>oi.apart ops oj||(oj.after.toList.any fun e=>Region.binds .any e&&e.on==i)
  |none=>true)
theorem Vk {Q:Act→World→Prop}{i:Nat}{oi:Oper}(hi:ops[i]? =some oi)(hsel:∀(j:Nat) (o:Oper) cs b,ops[j]? =some o→o.op≠ .select cs b):
  ∀(fuel:Nat) (listed:Array Bool) (a:Act) (w:World),B1p ops listed i oi=true→
   i∈Region.ready .any ops listed→Tk P ops oi v a→Qx P ops Q fuel (listed.setIfInBounds i true) (a.put oi.dst v) w→Qx P ops Q (fuel+1) listed a w:=by
 intro fuel
 induction fuel with
 |zero=>
  intro listed a w _ hr hy H;refine ⟨fun h=>(by rw [h] at hr;cases hr),fun j hj=>?_⟩
  by_cases hji:j=i
  ·subst hji;exact hy.opM hi H
  have:=ready_mono hj hji
  rw [H.1] at this
  cases this
 |succ fuel ih=>
  intro listed a w hfree hr hy H;refine ⟨fun h=>(by rw [h] at hr;cases hr),fun j hj=>?_⟩
  by_cases hji:j=i
  ·subst hji;exact hy.opM hi H
  have h1:=H.2 j (ready_mono hj hji);obtain ⟨hjun,oj,hoj,hall⟩:=mem_ready.1 hj;have hun:=Wg hr
  have hf:oi.apart ops oj=true:=by
   have:=J6.1 hfree j (Ft.2 (T8.1 hoj).1)
   simp only [hoj,hjun,A3l,Yw,Qr,hji,false_or] at this
   rcases this with h|h
   ·exact h
   obtain ⟨e,he,hb⟩:=Tf.1 h;simp only [Ce,Qr] at hb
   have:=hall e (Uo.1 he) hb.1
   rw [hb.2,hun] at this
   cases this
  have h2:=C7r hoj hf (fun cs b=>hsel i oi cs b hi) (fun cs b=>hsel j oj cs b hoj) hy h1
  have hfree':B1p ops (listed.setIfInBounds j true) i oi=true:=by
   refine J6.2 fun k hk=>?_
   have:=J6.1 hfree k hk
   by_cases hjk:j=k
   ·subst hjk
    have hlt:j<listed.size:=by
     by_cases h:j<listed.size
     ·exact h
     simp [Array.getD,h] at hjun
    have:(listed.setIfInBounds j true).getD j true=true:=by simp [Array.getD,hlt]
    simp only [this,Bool.or_true,Bool.true_or]
   rw [A0q true hjk];exact this
  refine B61 (fun a' w' h3=>ih (listed.setIfInBounds j true) a' w' hfree' (ready_mono hr (Ne.symm hji)) h3.1 ?_) h2;rw [Array.setIfInBounds_comm _ _ hji];exact h3.2
def C0a (ops:Array Oper) (fin:Array Bool) (chain:List Nat) (fs:List Flt):Bool:=
 ((List.range ops.size).all fun j=>fin.getD j false||chain.contains j||fs.any fun f=>Nat.beq f.i j)&&(chain.all fun c=>!fin.getD c true)&&(fs.all fun f=>!fin.getD f.i true)&&G2 (fs.map (·.i))
variable {fin : Array Bool}
theorem D2s (hr:C0a ops fin chain fs=true)(h:FW P B N ops chain fs s):GW P B QF [.loop (Qx P ops N (chain.length+fs.length) fin)] s:=by
 unfold C0a at hr;simp only [Ce] at hr;obtain ⟨⟨⟨h1,h2⟩,h3⟩,h4⟩:=hr;refine ⟨fun E a w hs=>?_⟩
 show Qx P ops N (chain.length+fs.length) fin a w
 refine h.out _ fin (fs.map (·.i)) E a w hs Bi (Eg h4) (fun j o ho hj=>?_) (fun c hc=>by simpa using List.all_eq_true.1 h2 c hc) (fun j hj=>?_) (fun j hj=>?_) (fun f hf hn=>?_)
 ·have:=J6.1 h1 j (Ft.2 (T8.1 ho).1)
  simp only [hj,A0p,Yw] at this
  rcases this with h|h
  ·exact .inl (by simpa using h)
  obtain ⟨f,hf,e⟩:=Tf.1 h;exact .inr (Fu.2 ⟨f,hf,Fl e⟩)
 ·obtain ⟨f,hf,rfl⟩:=Fu.1 hj
  simpa using List.all_eq_true.1 h3 f hf
 ·obtain ⟨f,hf,e⟩:=Fu.1 hj
  exact ⟨f,hf,e⟩
 exact absurd (Fu.2 ⟨f,hf,rfl⟩) hn
inductive BW (P:Program) (B:Fa) (N:Act→World→Prop) (ops:Array Oper) (fuel:Nat) (listed:Array Bool) (s:AS):Prop
 |mk (h:∀E a w,s.is B E a w→Qx P ops N fuel listed a w):BW P B N ops fuel listed s
theorem BW.out (h:BW P B N ops fuel listed s):∀E a w,s.is B E a w→Qx P ops N fuel listed a w:=h.rec fun h=>h
theorem D3n (hT:Bw P T)(wr:Bool)(i:Nat)(hi:ops[i]? =some o)(hk:A22 o.op=true)(hb:(o.guard.isNone&&Region.noSelect ops&&(Region.ready .any ops listed).contains i&&B1p ops listed i o)=true){ps:List Prop}{x:AV}(hst:Lj T wr s o.op= .ok ps x)(hp:∀p∈ps,p)(h:BW P B N ops fuel (listed.setIfInBounds i true) (s.put o.dst x)):BW P B N ops (fuel+1) listed s:=by
 simp only [Ce,A0h] at hb;obtain ⟨⟨⟨h0,h1⟩,h2⟩,h3⟩:=hb;refine ⟨fun E a w hs=>?_⟩;obtain ⟨v,hv,hd⟩:=B2m hT hk hst hp hs o rfl;have hg:o.guard=none:=by simpa using h0
 exact Vk hi (Region.noSelect_spec h1) fuel listed a w h3 h2 (.inl ⟨by simp [Region.wanted,hg],hv⟩) (h.out E _ w (hs.put o.dst hd))
theorem Nl (chain:List Nat)(fs:List Flt)(hr:(C0a ops fin chain fs&&Nat.beq (chain.length+fs.length) fuel)=true)(h:FW P B N ops chain fs s):BW P B N ops fuel fin s:=by
 simp only [Ce] at hr;obtain ⟨hr,hfu⟩:=hr;obtain rfl:=Fl hfu;exact ⟨fun E a w hs=>(D2s hr h).out E a w hs⟩
variable {K : List KI} {Q : Exit → Act → World → Prop}
theorem Iy (hm:P.follows .mixedOrders=true){id:Nat}(h:BW P B (fun a w=>C9 P Q K .normal a w) ops ops.size (Array.replicate ops.size false) s):GW P B Q (.code (.region id ops true)::K) s:=by
 refine ⟨fun E a w hs=>?_⟩;refine wp_region_any hm (Xa (Q:=fun a w=>C9 P Q K .normal a w) (fun _ _ h=>h) _ _ _ _ ?_);exact h.out E a _ ((hs.call (w':= {w with drawn:=w.drawn+1}) ⟨rfl,rfl,rfl,Df _,fun _ _=>rfl⟩).is)
theorem B25 (hT:Bw P T)(wr:Bool){f:FuncId}{fn:Func}{c:Code}{cs:List Ag}{ax:List Gl}(hf:P.funcs[f]? =some fn)(hb:fn.body=some c)(hn:(fn.name== "runtime.NumGoroutine")=false)
  (h:∀W (us:List Value),us.length=cs.length→(∀(i:Nat) (x:Value),cs[i]? =some (.val x)→us.getD i undef=x)→(∀u∈us,Ht [u]=true)→Py ⟨W,fun _=>False⟩ (cs.zip us)→
   vcW P ⟨W,fun _=>False⟩ (bodyPost P fn fun e w'=>Jb W w' ax e) (Pq T wr 100000 [.code c] (F4 fn.ntmps [.agg (us.map Ag.val)]))):Px P f [.agg cs] ax:=by
 refine ⟨⟨fn,hf,hn,by simp [hb]⟩,fun w vs hl hv=>?_⟩;obtain ⟨us,he,hul,hus⟩:∃us:List Value,vs.getD 0 undef= .agg us.toArray∧us.length=cs.length∧∀i c,cs[i]? =some c→R2 w (fun _=>False) c (us.getD i undef):=hv 0 _ rfl
 have hone:∀u∈us,u.oneCell'=true:=fun u hu=>by
  obtain ⟨i,hi,rfl⟩:=Ry hu
  have:=(hus i _ (Cl A7)).one
  simpa [List.getD,hi] using this
 have hpin:Py ⟨w,fun _=>False⟩ (cs.zip us):=fun p hp=>by
  obtain ⟨i,hi,rfl⟩:=Ry hp;have hic:i<cs.length:=by simp at hi;omega
  have hiu:i<us.length:=by omega
  have:=hus i _ (Cl hic)
  simpa [List.getD,hiu] using this
 have hm:Dy P (fun w'=>Py ⟨w',fun _=>False⟩ (cs.zip us)) f [.agg (us.map Ag.val)] ax:=
  Ga hT wr hf hb hn fun W hW=>h W us hul (fun i x hi=>by
   have:=hus i _ hi
   generalize us.getD i undef=u at this
   cases this;rfl) (fun u hu=>by
   have:=hone u hu
   cases u<;>first|rfl|simp [Value.oneCell'] at this) hW
 refine hm.2 w hpin vs (by simpa using hl) (fun i x hi=>?_)
 match i,hi with
 | 0,hi=>
  simp only [Fq,Ei] at hi;subst hi;refine ⟨us,he,by simp,fun i c hc=>?_⟩;simp only [E8,Ee] at hc;obtain ⟨u,hu,rfl⟩:=hc
  have:us.getD i undef=u:=by simp [List.getD,hu]
  rw [this];exact .val u (hone u (Gs hu))
variable {pins : List (Ag × Value)} {dst : Option Tmp} {c : Ag}
theorem P2 (hF:Py B pins){q:Bool}{f:FuncId}{xs ys:List AV}(i j l:Nat)(hh:(pins[l]?,I7 xs i,I7 ys j)=(some (c,v),.agg ys,.c (.val v)))(h:CW P B Q q f (C4 xs i (.agg (C4 ys j (.c c)))) dst K s):CW P B Q q f xs dst K s:=by
 simp only [J9] at hh;obtain ⟨hl,hi,hj⟩:=hh;obtain ⟨h⟩:=h;refine ⟨h.1,fun E a w hs vs hl' hv=>h.2 E a w hs vs (by rw [Bm];exact hl') fun m z hz=>?_⟩;rw [Ck] at hz
 split at hz
 ·rename_i hm
  obtain ⟨rfl,hm⟩:=hm;obtain rfl:=D3 hz;have hd:=hv i (.agg ys) (by rw [C7,Cl hm] at hi;rw [Cl hm];simpa using hi);generalize vs.getD i undef=u at hd
  cases hd with
  |agg ws hwl hw=>
   refine .agg ws (by rw [Bm];exact hwl) fun n y hy=>?_;rw [Ck] at hy
   split at hy
   ·rename_i hn
    obtain ⟨rfl,hn⟩:=hn;obtain rfl:=D3 hy;have hd2:=hw j (.c (.val v)) (by rw [C7,Cl hn] at hj;rw [Cl hn];simpa using hj);rw [B4 hd2];exact Cm.c (A:=s.ag E) (N:=s.next) (hF.now hs (fun _ h=>h) _ (Gs hl))
   exact hw n y hy
 exact hv m z hz
theorem D2i (hT:Bw P T)(wr:Bool){J:Type}{c:Code}(fs:List Nat)(us:J→List (Nat×AV))(bs:J→List Bx)(os:J→List Ow)(φ:J→Prop)(h1:vcW P B Q (Pq T wr 100000 (.code c:: .loop (Inv B (fun j=>s.upd fs (us j) (bs j) (os j)) φ (fun _=>0) 1)::K) s))(h2:∀j,φ j→GW P B Q K (s.upd fs (us j) (bs j) (os j))):GW P B Q (.code c::K) s:=by
 refine ⟨fun E a w hs=>?_⟩;have g1:G P B Q (.code c:: .loop (Inv B (fun j=>s.upd fs (us j) (bs j) (os j)) φ (fun _=>0) 1)::K) s:=(go hT wr h1).rec id;refine Code.wp_mono (fun e a' w' hq=>?_) (g1 E a w hs)
 cases e with
 |normal=>
  obtain ⟨j,hj,_,E',hE'⟩:=(hq:Inv B (fun j=>s.upd fs (us j) (bs j) (os j)) φ (fun _=>0) 1 a' w');exact (h2 j hj).out E' a' w' hE'
 |exit id=>exact hq
 |goto l=>exact hq
 |ret=>exact hq
 |panic c=>exact hq
 |outgrown=>exact hq
theorem B4g (hF:Py B pins)(k j l:Nat){b:Bx}(hl:pins[l]? =some (c,v))(hb:Fs s.aw k=some b)(hj:I7 b.cells j= .c (.val v))(h:GW P B Q K {s with aw:=Fj s.aw k (C4 b.cells j (.c c))}):GW P B Q K s:=by
 obtain ⟨hm,hk⟩:=Fb hb
 have keys:∀(l:List Bx) (cs:List AV),(Fj l k cs).map (·.key)=l.map (·.key):=fun l cs=>by
  induction l with
  |nil=>rfl
  |cons x r ih=>
   unfold Fj
   split
   ·rfl
   simp [ih]
 have mem:∀(l:List Bx) (cs:List AV) (x:Bx),x∈Fj l k cs→x∈l∨(x=⟨k,cs⟩∧∃y,Fs l k=some y):=fun l cs=>by
  induction l with
  |nil=>intro x hx;simp [Fj] at hx
  |cons y r ih=>
   intro x hx;unfold Fj at hx
   split at hx
   ·rename_i hy
    rcases Ca.1 hx with rfl|hx
    ·refine .inr ⟨by rw [←Fl hy],y,by simp [Fs,hy]⟩
    exact .inl (Da _ hx)
   rename_i hy
   rcases Ca.1 hx with rfl|hx
   ·exact .inl Bi
   rcases ih x hx with h|⟨h1,h2⟩
   ·exact .inl (Da _ h)
   exact .inr ⟨h1,by simpa [Fs,hy] using h2⟩
 refine ⟨fun E a w hs=>h.rec fun g=>g E a w ?_⟩
 have av:∀z,({s with aw:=Fj s.aw k (C4 b.cells j (.c c))}:AS).ag E z↔s.ag E z:=fun z=>by
  have hk2:(∃x∈Fj s.aw k (C4 b.cells j (.c c)),E.β x.key=z)↔∃x∈s.aw,E.β x.key=z:=by
   have e:=keys s.aw (C4 b.cells j (.c c))
   constructor
   ·rintro ⟨x,hx,rfl⟩
    have:x.key∈s.aw.map (·.key):=by rw [←e];exact List.mem_map_of_mem hx
    obtain ⟨y,hy,h2⟩:=Fu.1 this;exact ⟨y,hy,by rw [h2]⟩
   rintro ⟨x,hx,rfl⟩
   have:x.key∈(Fj s.aw k (C4 b.cells j (.c c))).map (·.key):=by rw [e];exact List.mem_map_of_mem hx
   obtain ⟨y,hy,h2⟩:=Fu.1 this;exact ⟨y,hy,by rw [h2]⟩
  unfold AS.ag;exact or_congr hk2 Iff.rfl
 have hav:({s with aw:=Fj s.aw k (C4 b.cells j (.c c))}:AS).ag E=s.ag E:=funext fun z=>propext (av z)
 have hbox:∀x∈Fj s.aw k (C4 b.cells j (.c c)),x.key<s.next∧∃vs ty,w.heap[E.β x.key]? =some (.cells vs ty (0,0))∧vs.size=x.cells.length∧∀i y,x.cells[i]? =some y→Cm E w (s.ag E) s.next y (vs.getD i undef):=fun x hx=>by
  rcases mem _ _ _ hx with h|⟨rfl,_⟩
  ·exact hs.aw x h
  obtain ⟨h1,vs,ty,h2,h3,h4⟩:=hs.aw b hm;refine ⟨hk▸h1,vs,ty,by rw [←hk];exact h2,by rw [Bm];exact h3,fun i y hy=>?_⟩;rw [Ck] at hy
  split at hy
  ·rename_i hi
   obtain ⟨rfl,hi⟩:=hi;obtain rfl:=D3 hy;have hd:=h4 j (.c (.val v)) (by rw [C7,Cl hi] at hj;rw [Cl hi];simpa using hj);rw [B4 hd];exact .c (hF.now hs (fun _ h=>h) _ (Gs hl))
  exact h4 i y hy
 have hmk:∀x∈Fj s.aw k (C4 b.cells j (.c c)),∃y∈s.aw,y.key=x.key:=fun x hx=>by
  rcases mem _ _ _ hx with h|⟨rfl,_⟩
  ·exact ⟨x,h,rfl⟩
  exact ⟨b,hm,hk⟩
 refine ⟨hs.defers,hs.ay,hs.size,fun i x hx=>by rw [hav];exact hs.af i x hx,fun x hx=>by rw [hav];exact hbox x hx,fun x hx y hy e=>?_,by rw [keys];exact hs.keys,hs.own,hs.ownkeys,hs.sep,fun x hx y hy=>?_,hs.one,hs.base,fun z hz=>hs.fresh z (by rw [hav] at hz;exact hz)⟩
 ·obtain ⟨x',hx',ex⟩:=hmk x hx
  obtain ⟨y',hy',ey⟩:=hmk y hy;rw [←ex,←ey];exact hs.boxes2 x' hx' y' hy' (by rw [ex,ey];exact e)
 obtain ⟨x',hx',ex⟩:=hmk x hx;rw [←ex];exact hs.sepB x' hx' y hy
theorem B4h (hF:Py B pins){q:Bool}{f:FuncId}{xs:List AV}(i l:Nat)(hl:pins[l]? =some (c,v))(hi:I7 xs i= .c (.val v))(h:CW P B Q q f (C4 xs i (.c c)) dst K s):CW P B Q q f xs dst K s:=by
 obtain ⟨h⟩:=h;refine ⟨h.1,fun E a w hs vs hl' hv=>h.2 E a w hs vs (by rw [Bm];exact hl') fun m z hz=>?_⟩;rw [Ck] at hz
 split at hz
 ·rename_i hm
  obtain ⟨rfl,hm⟩:=hm;obtain rfl:=D3 hz;have hd:=hv i (.c (.val v)) (by rw [C7,Cl hm] at hi;rw [Cl hm];simpa using hi);rw [B4 hd];exact Cm.c (A:=s.ag E) (N:=s.next) (hF.now hs (fun _ h=>h) _ (Gs hl))
 exact hv m z hz
end Go.Sx
set_option maxRecDepth 100000
namespace Go.Sx
open Go
open Go.RowKit (Below)
variable {P : Program} {T : List (TypeId × TI)}
variable {B : Fa} {Q : Exit → Act → World → Prop} {K : List KI} {s : AS} {es : Nat} {n : Nat} {row : Nat → List Ag}
theorem C9o (k jn off:Nat)(hk:Bl s.own k=some (.sl n es row))(hj:jn<n){c:Ag}(hc:(row jn)[off]? =some c)(h:∀v,GW P B Q K {s with own:=⟨s.next,c⟩::⟨k,.sl n es fun i=>if i=jn then E7 (row i) off [.val v] else row i⟩::Ba [k] s.own,next:=s.next+1,ay:=(s.next,v)::s.ay}):GW P B Q K s:=by
 refine ⟨fun E a w hs=>?_⟩;have hm:=C2 hk;obtain ⟨hklt,o2,o3⟩:=hs.own _ hm
 simp only at o2 o3 hklt
 generalize hov:E.ov k=ovk at o2;generalize hfp:E.fp k=fp at o2 o3
 cases o2 with
 |nil=>exact absurd hj (Kt _)
 |emp=>exact absurd hj (Kt _)
 |sl _ _ _ b offb cap ty cells fps hn hcp hb hcs hl hr=>
  have hoff:off<es:=by have:=(Cq.1 hc).1;rwa [hl jn hj] at this
  have hin:=hr jn off c hj hc;obtain ⟨hb0,hnd1⟩:=Ip.1 o3;obtain ⟨f1,f2⟩:=C6.1 hnd1;have hpos:jn * es+off<n * es:=Gq hj hoff
  have hcl:(offb+jn) * es+off<cells.size:=by
   have:=Gq (show offb+jn<offb+cap by omega) hoff
   omega
  generalize hu:cells.getD ((offb+jn) * es+off) undef=u at hin
  have hdis:∀z∈fps (jn * es+off),z≠b∧∀k,k<n * es→k≠jn * es+off→z∉fps k:=by
   intro z hz;refine ⟨fun e=>hb0 (e▸Du hpos hz),fun k hk hne hz'=>?_⟩;have hp:=Rx.1 f2
   rcases Si hne with h'|h'
   ·have:=hp k (jn * es+off) (by simpa using hk) (by simpa using hpos) h' z
    simp only [Uq] at this;exact this hz' hz
   have:=hp (jn * es+off) k (by simpa using hpos) (by simpa using hk) h' z
   simp only [Uq] at this;exact this hz hz'
  have hone:u.oneCell'=true:=hin.one
  obtain ⟨s1,s2⟩:=A8g hn hcp hb hcs hl hr o3 hj hoff (c:= .val u) (g:=[]) (by rw [hu];exact .val u hone) Bi Bi
   (c':= .sl n es fun i=>if i=jn then E7 (row i) off [.val u] else row i) ⟨_,rfl,fun i _ hne=>by simp [hne],by simp⟩
  have hI:=hs.drop [k]
  have key:∀z,z∈b::(List.range (n * es)).flatMap fps→s.ag E z∧¬ ({s with own:=Ba [k] s.own}:AS).ag E z∧B.fresh z:=by
   intro z hz;have hzk:z∈E.fp k:=by rw [hfp];exact hz
   have hav:s.ag E z:= .inr ⟨_,hm,hzk⟩;refine ⟨hav,?_,hs.fresh z hav⟩
   rintro (⟨r,hr',rfl⟩|⟨r,hr',hz'⟩)
   ·exact hs.sepB r hr' _ hm hzk
   obtain ⟨q1,q2⟩:=Bh.1 hr';exact hs.sep _ hm r q1 (fun e=>q2 (by simp at e;simp [e])) z hzk hz'
  have sub1:∀z,z∈b::(List.range (n * es)).flatMap (fun k=>if k=jn * es+off then [] else fps k)→z∈b::(List.range (n * es)).flatMap fps:=by
   intro z hz
   rcases Ca.1 hz with rfl|hz
   ·simp
   obtain ⟨p,hp,hz⟩:=Ds.1 hz
   split at hz
   ·simp at hz
   exact Da _ (Ds.2 ⟨p,hp,hz⟩)
  have hI3:=hI.addAt (k:=k) hklt (fun y' hy=>fun e=>(Bh.1 hy).2 (by rw [e];simp)) (by rw [hov];exact s1) s2 (fun z hz=>key z (sub1 z hz))
  have hav3:∀z,z∈fps (jn * es+off)→¬ ({s with own:=⟨k,.sl n es fun i=>if i=jn then E7 (row i) off [.val u] else row i⟩::Ba [k] s.own}:AS).ag (E.setFp k (b::(List.range (n * es)).flatMap (fun k=>if k=jn * es+off then [] else fps k))) z:=by
   intro z hz;have hzin:z∈b::(List.range (n * es)).flatMap fps:=Da _ (Du hpos hz)
   rintro (⟨r,hr',rfl⟩|⟨r,hr',hz'⟩)
   ·exact (key _ hzin).2.1 (.inl ⟨r,hr',rfl⟩)
   rcases Ca.1 hr' with rfl|hr'
   ·simp only [Fm.setFp,Lt] at hz'
    rcases Ca.1 hz' with rfl|hz'
    ·exact (hdis _ hz).1 rfl
    obtain ⟨p,hp,hz'⟩:=Ds.1 hz'
    split at hz'
    ·simp at hz'
    exact (hdis z hz).2 p (Ft.1 hp) (by assumption) hz'
   have hne:r.key≠k:=fun e=>(Bh.1 hr').2 (by rw [e];simp);simp only [Fm.setFp,hne,Rw] at hz';exact (key z hzin).2.1 (.inr ⟨r,hr',hz'⟩)
  obtain ⟨k1,k2⟩:=hI3.addOwn hin (f1 _ (Ft.2 hpos)) (fun z hz=>⟨(key z (Da _ (Du hpos hz))).1,hav3 z hz,(key z (Da _ (Du hpos hz))).2.2⟩)
  have k3:({s with own:=⟨s.next,c⟩::⟨k,.sl n es fun i=>if i=jn then E7 (row i) off [.val u] else row i⟩::Ba [k] s.own,next:=s.next+1,ay:=(s.next,u)::s.ay}:AS).isA B
    ((E.setFp k (b::(List.range (n * es)).flatMap (fun k=>if k=jn * es+off then [] else fps k))).withOwn s.next u (fps (jn * es+off))) (s.ag E) a w:=by
   refine ⟨k1.defers,fun p hp=>?_,k1.size,k1.af,k1.aw,k1.boxes2,k1.keys,k1.own,k1.ownkeys,k1.sep,k1.sepB,k1.one,k1.base,k1.fresh,k1.sub⟩
   rcases Ca.1 hp with rfl|hp
   ·exact ⟨Rv _,by simp [Fm.withOwn]⟩
   exact k1.ay p hp
  exact (h u).out _ _ w k3.is
theorem C6q (row:Nat→List Ag)(j off:Nat)(r:List Ag)(v:Value):(fun i=>if i=j then E7 (Hb row j r i) off [.val v] else Hb row j r i)=Hb row j (E7 r off [.val v]):=by
 funext i
 unfold Hb
 by_cases h:i=j
 ·subst h;simp
 simp [h]
variable {r : List Ag}
theorem D21 (k j:Nat)(hk:Bl s.own k=some (.sl n es row))(hr:row j=r)(h:GW P B Q K {s with own:=Je s.own k (.sl n es (Hb row j r))}):GW P B Q K s:=by
 refine H5 k (.sl n es (Hb row j r)) hk ⟨rfl,rfl,fun i _=>?_⟩ h;unfold Hb
 split
 ·rename_i e;subst e;rw [hr];exact Ja.refl _
 exact Ja.refl _
theorem D1r (k j off:Nat)(hk:Bl s.own k=some (.sl n es (Hb row j r)))(hj:j<n){c:Ag}(hc:r[off]? =some c)(h:∀v,GW P B Q K {s with own:=⟨s.next,c⟩::⟨k,.sl n es (Hb row j (E7 r off [.val v]))⟩::Ba [k] s.own,next:=s.next+1,ay:=(s.next,v)::s.ay}):GW P B Q K s:=by
 refine C9o k j off hk hj (by rw [Cu];exact hc) (fun v=>?_)
 have:=h v
 rw [←C6q] at this;exact this
theorem H7 (i k:Nat){v:Value}(hh:(Dm s.ay k,I7 s.af i)=(some v,.c (.val v)))(h:GW P B Q K {s with af:=C4 s.af i (.own k)}):GW P B Q K s:=by
 simp only [J9] at hh;obtain ⟨hl,hi⟩:=hh;refine ⟨fun E a w hs=>h.rec fun g=>g E a w ⟨hs.defers,hs.ay,by rw [hs.size];exact (Bm _ _ _).symm,fun m z hz=>?_,hs.aw,hs.boxes2,hs.keys,hs.own,hs.ownkeys,hs.sep,hs.sepB,hs.one,hs.base,hs.fresh⟩⟩
 simp only at hz
 rw [Ck] at hz
 split at hz
 ·rename_i hm
  obtain ⟨rfl,hm⟩:=hm;obtain rfl:=D3 hz;have hd:=hs.af i (.c (.val v)) (by rw [C7,Cl hm] at hi;rw [Cl hm];simpa using hi);obtain ⟨h1,h2⟩:=hs.ay _ (G1 hl);have h2:E.ov k=v:=h2;rw [B4 hd,←h2];exact .own h1
 exact hs.af m z hz
theorem D2r (hT:Bw P T){q:Bool}{all:Array Oper}{o:Oper}{rest:List Oper}{x:Operand}{t:TypeId}{i:TI}(hg:o.guard=none)(ho:o.op= .load t x)(hi:find T t=some i){k off jn:Nat}{j:Int}{xs:List AV}(hx:s.ev x= .oel k es j off)(hk:Bl s.own k=some (.sl n es (Hb row jn r)))(hjn:j.toNat=jn)(hf:P0 r=some xs)(hle:Nat.ble (off+i.size) r.length=true)(h:GW P B Q (.ops q all rest::K) (s.put o.dst (Nz i xs off))):GW P B Q (.ops q all (o::rest)::K) s:=by
 refine ⟨Fo hg (fun E a w hs=>?_)⟩;have hm:=C2 hk;obtain ⟨hklt,o2,o3⟩:=hs.own _ hm
 simp only at o2 o3 hklt
 have hev:=hs.ev x;rw [hx] at hev;generalize hv:a.eval x=v at hev
 cases hev with
 |oel _ b o' n' cap hkl hov h0 hj=>
  rw [hov] at o2;obtain ⟨m,rfl⟩:=Un h0;simp only [Bu,A0e] at *;subst hjn;generalize E.fp k=fp at o2
  cases o2 with
  |emp=>exact absurd hj (Kt _)
  |sl _ _ _ _ offb _ ty cells fps hn hc hb hsz hl hr=>
   have hrow:Hb row m r m=r:=Cu _ _ _;have hrl:r.length=es:=by have:=hl m hj;rwa [hrow] at this
   have hle2:off+i.size≤r.length:=Hv hle;obtain ⟨f1,f2⟩:=A36 hf
   have hlt:∀p,p<es→(offb+m) * es+p<cells.size:=fun p hp=>by
    have:=Gq (show offb+m<offb+cap by omega) hp
    omega
   have hd:∀p y,xs[p]? =some y→Cm E w (s.ag E) s.next y (((List.range es).map fun p=>cells.getD ((offb+m) * es+p) undef).getD p undef):=by
    intro p y hp;obtain ⟨v',hv1,rfl⟩:=f2 p y hp;have hpl:p<es:=by rw [←hrl];exact (Cq.1 hv1).1
    have:=hr m p _ hj (by rw [hrow];exact hv1)
    simp only [List.getD,E8,A9p,hpl,Pd,Nn];generalize cells.getD ((offb+m) * es+p) undef=u,fps (m * es+p)=g at this
    cases this with
    |val _ h1=>exact .c (.val _ h1)
   have hread:=Vo xs ((List.range es).map fun p=>cells.getD ((offb+m) * es+p) undef) off i (by rw [f1];exact hle2) hd
   have hrun:∀w',El w w'→_:=fun w' hkw=>J4 (hT t i hi) w' b (offb * es+m * es+off) ((List.range i.size).map fun p=>((List.range es).map fun p=>cells.getD ((offb+m) * es+p) undef).getD (off+p) undef) Bi (fun p hp=>by
    have h1:off+p<es:=by omega
    have:=hlt (off+p) h1
    rw [show offb * es+m * es+off+p=(offb+m) * es+(off+p) by rw [G0];omega]
    refine hkw.cell ?_;rw [cell_of_row w b _ cells ty (0,0) hb]
    simp [List.getD,hp,h1,Array.getD,this])
   refine ⟨_,fun w' hkw=>?_,h.out E _ w (hs.put o.dst hread)⟩;obtain ⟨dst,op',ty',pos,after,guard⟩:=o
   simp only at ho
   subst ho;simp only [execOp,hv,Instr.loadAt,Instr.sureAddr,Sem.run_bind,Sem.run_pure,Result.andThen_ok,hrun w' hkw]
   cases hag:i.agg with
   |true=>rfl
   |false=>
    obtain ⟨f,d,z,S⟩:=TI.of_spec (hT t i hi);have h1:=S.one (by rw [←S.agg];exact hag)
    simp [h1]
end Go.Sx
