/- Part 4 of the proof that each of the laws FnScriptsBack returns true for every input. No conditions. -/
import Derived.Test.YtmhcebdkjgkmlaaGreatDoorR3

set_option linter.unusedSimpArgs false
set_option linter.unusedVariables false
set_option maxRecDepth 100000
namespace Go.Sx
open Go
open Go.RowKit (Below)
variable {P : Program} {T : List (TypeId × TI)}
structure M5 (W:World) (B:Er) (c:Ad) (v:Value) (fp:List Nat):Prop where
 own:Bz B.w0 c v fp
 nodup:fp.Nodup
 new:∀b∈fp,W.heap.size≤b
 out:∀b∈fp,¬ B.may b
 below:∀w,B.rel w→Below W.heap.size W w
 fresh:∀b,B.fresh b→W.heap.size≤b
variable {W : World} {B : Er} {c : Ad} {v : Value} {fp : List Nat} {w : World}
theorem M5.now (h:M5 W B c v fp)(hr:B.rel w):Bz w c v fp:=
 h.own.move fun b hb=>hr.block b (h.own.lt b hb) (h.out b hb)
theorem M5.free (h:M5 W B c v fp){b:Nat}(hb:b∈fp):¬ B.fresh b:=by
 rintro (h1|h1)
 ·have:=h.own.lt b hb
  omega
 exact h.out b hb h1
variable {s : AS}
theorem M5.rep (h:M5 W B c v fp){E:Fl}{a:Act}(hs:s.is B E a w):Qz w (s.ag E) c v:=
 (h.now hs.base).rep fun _ hb hav=>h.free hb (hs.fresh _ hav)
variable {Q : Exit → Act → World → Prop} {K : List KI}
theorem D2n (hF:M5 W B c v fp)(i:Nat)(hi:I4 s.ac i= .c (.val v))(h:GW P B Q K {s with ac:=Cd s.ac i (.c c)}):GW P B Q K s:=by
 refine ⟨fun E a w hs=>h.rec fun g=>g E a w ⟨hs.defers,hs.ak,by rw [hs.size];exact (Bj _ _ _).symm,fun m z hz=>?_,hs.aw,hs.boxes2,hs.keys,hs.own,hs.ownkeys,hs.sep,hs.sepB,hs.one,hs.base,hs.fresh⟩⟩
 simp only at hz
 rw [Cr] at hz
 split at hz
 ·rename_i hm
  obtain ⟨rfl,hm⟩:=hm;obtain rfl:=Bv hz;have hd:=hs.ac i (.c (.val v)) (by rw [Cb,Dh hm] at hi;rw [Dh hm];simpa using hi);rw [B3 hd];exact D0.c (A:=s.ag E) (N:=s.next) (hF.rep hs)
 exact hs.ac m z hz
variable {xs : List AV} {dst : Option Tmp}
theorem D2m {q:Bool}{f:FuncId}(hF:M5 W B c v fp)(i:Nat)(hi:I4 xs i= .c (.val v))(h:CW P B Q q f (Cd xs i (.c c)) dst K s):CW P B Q q f xs dst K s:=by
 obtain ⟨h⟩:=h;refine ⟨h.1,fun E a w hs vs hl hv=>h.2 E a w hs vs (by rw [Bj];exact hl) fun m z hz=>?_⟩;rw [Cr] at hz
 split at hz
 ·rename_i hm
  obtain ⟨rfl,hm⟩:=hm;obtain rfl:=Bv hz;have hd:=hv i (.c (.val v)) (by rw [Cb,Dh hm] at hi;rw [Dh hm];simpa using hi);rw [B3 hd];exact .c (hF.rep hs)
 exact hv m z hz
def C5a (k:Nat) (v:Value) (x:AV):AV:=
 match x with
 | .own j=>match Nat.beq j k with
  |true=> .c (.val v)
  |false=> .own j
 | .oel _ _ _ _=> .any
 | .agg _=> .any
 | .tup _=> .any
 | .fn _ _=> .any
 |x=>x
def Zw (k:Nat) (v:Value) (l:List AV):List AV:=
 match l with
 | []=>[]
 |x::r=>C5a k v x::Zw k v r
def B9i (k:Nat) (v:Value) (l:List Bx):List Bx:=
 match l with
 | []=>[]
 |b::r=>⟨b.key,Zw k v b.cells⟩::B9i k v r
theorem B0d (k:Nat)(v:Value)(l:List AV)(i:Nat):(Zw k v l)[i]? =l[i]?.map (C5a k v):=by
 induction l generalizing i with
 |nil=>simp [Zw]
 |cons x r ih=>cases i<;>simp [Zw,ih]
theorem Zx (k:Nat)(v:Value)(l:List AV):(Zw k v l).length=l.length:=by
 induction l with
 |nil=>rfl
 |cons x r ih=>simp [Zw,ih]
theorem So (k:Nat)(v:Value)(l:List Bx):B9i k v l=l.map fun b=>⟨b.key,Zw k v b.cells⟩:=by
 induction l with
 |nil=>rfl
 |cons x r ih=>simp [B9i,ih]
def AS.froz (s:AS) (k:Nat) (v:Value):AS:= {next:=s.next,ac:=Zw k v s.ac,aw:=B9i k v s.aw,own:=Bb [k] s.own,ak:=s.ak}
theorem Ym {k:Nat}{E:Fl}{b:Nat}(h:(s.froz k v).ag E b):s.ag E b:=by
 rcases h with ⟨x,hx,hb⟩|⟨y,hy,hb⟩
 ·simp only [AS.froz,So,Ea] at hx
  obtain ⟨z,hz,rfl⟩:=hx;exact .inl ⟨z,hz,hb⟩
 exact .inr ⟨y,(Bl.1 hy).1,hb⟩
theorem B36 {k:Nat}{E:Fl}{x:AV}{u:Value}(h1:(E.ov k).oneCell'=true)(h:D0 E w (s.ag E) s.next x u):D0 E w ((s.froz k (E.ov k)).ag E) s.next (C5a k (E.ov k) x) u:=by
 have h:=h.move (E':=E) (A':=(s.froz k (E.ov k)).ag E) (Bu _) (fun _ _=>⟨rfl,rfl⟩) (fun _ _ _=>rfl) (fun b _ hb=>Ym hb)
 cases x with
 |own j=>
  show D0 E w _ s.next (match Nat.beq j k with|true=> .c (.val (E.ov k))|false=> .own j) u
  split
  ·rename_i he
   obtain rfl:=F7 he
   cases h with
   |own hk=>exact .c (.val _ h1)
  exact h
 |any=>exact .any _
 |c x=>exact h
 |box k o=>exact h
 |el n es row i off=>exact h
 |oel k es i off=>exact .any _
 |agg xs=>exact .any _
 |tup xs=>exact .any _
 |fn f xs=>exact .any _
theorem C8o (k:Nat)(hk:Bm s.own k=some c)(h:∀(B:Er) (v:Value) (fp:List Nat),M5 W B c v fp→GW P B Q K (s.froz k v)):GW P ⟨W,fun _=>False⟩ Q K s:=by
 refine ⟨fun E a w hs=>?_⟩;have hm:=Ca hk;obtain ⟨g1,g2,g3⟩:=hs.own _ hm;have hnew:∀b,s.ag E b→W.heap.size≤b:=fun b hb=>(hs.fresh b hb).elim id False.elim
 have hF:M5 W ⟨w,fun b=>(s.froz k (E.ov k)).ag E b⟩ c (E.ov k) (E.fp k):=by
  refine ⟨g2,g3,fun b hb=>hnew b (.inr ⟨_,hm,hb⟩),fun b hb hav=>?_,fun w' hr=>?_,fun b hb=>?_⟩
  ·rcases hav with ⟨x,hx,rfl⟩|⟨y,hy,hb'⟩
   ·simp only [AS.froz,So,Ea] at hx
    obtain ⟨z,hz,rfl⟩:=hx;exact hs.sepB z hz _ hm hb
   obtain ⟨hy,hne⟩:=Bl.1 hy;exact hs.sep y hy _ hm (by simpa using hne) b hb' hb
  ·have hb:=hs.base
   refine ⟨hr.os.trans hb.os,hr.tape.trans hb.tape,hr.output.trans hb.output,G0 hb.size hr.size,fun j hj=>?_⟩;rw [hr.block j (Kk hj hb.size) (fun hav=>by have:=hnew j (Ym hav);omega)];exact hb.block j hj (fun h=>h)
  rcases hb with hb|hb
  ·exact G0 hs.base.size hb
  exact hnew b (Ym hb)
 have h1:=hs.one k g1;refine (h _ _ _ hF).rec fun g=>g E a w ⟨hs.defers,hs.ak,?_,fun i x hx=>?_,fun x hx=>?_,fun x hx y hy e=>?_,?_,fun y hy=>hs.own y (Bl.1 hy).1,W0 hs.ownkeys,fun y hy z hz=>hs.sep y (Bl.1 hy).1 z (Bl.1 hz).1,fun x hx y hy=>?_,hs.one,⟨rfl,rfl,rfl,Bu _,fun _ _ _=>rfl⟩,fun b hb=> .inr hb⟩
 ·rw [hs.size];exact (Zx _ _ _).symm
 ·simp only [AS.froz,B0d,E9] at hx
  obtain ⟨z,hz,rfl⟩:=hx;exact B36 h1 (hs.ac i z hz)
 ·simp only [AS.froz,So,Ea] at hx
  obtain ⟨z,hz,rfl⟩:=hx;obtain ⟨k1,vs,ty,k2,k3,k4⟩:=hs.aw z hz;refine ⟨k1,vs,ty,k2,by rw [k3];exact (Zx _ _ _).symm,fun i y hy=>?_⟩;simp only [B0d,E9] at hy;obtain ⟨u,hu,rfl⟩:=hy;exact B36 h1 (k4 i u hu)
 ·simp only [AS.froz,So,Ea] at hx hy
  obtain ⟨x,hx,rfl⟩:=hx;obtain ⟨y,hy,rfl⟩:=hy;exact hs.boxes2 x hx y hy e
 ·have e:((s.froz k (E.ov k)).aw.map (·.key))=s.aw.map (·.key):=by
   simp only [AS.froz,So,We];rfl
  rw [e];exact hs.keys
 simp only [AS.froz,So,Ea] at hx;obtain ⟨x,hx,rfl⟩:=hx;exact hs.sepB x hx y (Bl.1 hy).1
variable {ax : List Hb}
theorem D0x {H:World→Prop}{q:Bool}{f:FuncId}{ins:List Hb}(hF:M5 W B c v fp)(hf:Ex P H f ins ax)(hst:A4k H)(hW:H W)(hx:Ir s xs=some ins)(h:GW P B Q K (s.put dst (Pi ax))):CW P B Q q f xs dst K s:=by
 refine ⟨hf.1,fun E a w hs vs hl hv=>?_⟩;have hm:Sf P f ins ax→True:=fun _=>trivial
 have hH:H w:=hst W w (hF.below w hs.base) hW;obtain ⟨h1,h2⟩:=Is hx;refine (hf.2 w hH vs A7 (fun i x hi=>?_)).mono (fun e w' hg=>?_)
 ·obtain ⟨y,hy,hc⟩:=h2 i x hi
  exact K4 hs hc (hv i y hy)
 obtain ⟨hb,rs,fps,rfl,hrl,hro,hfr,hdis⟩:=hg;have hI:=(hs.call hb).is
 have hno:∀i,i<ax.length→∀b∈fps i,¬ s.ag E b:=fun i hi b hb' hav=>by
  have:=hs.avoid_lt hav
  have:=(hfr i hi).2 b hb'
  omega
 have hone:∀i y,ax[i]? =some y→D0 E w' (s.ag E) s.next (Lb y) (rs.getD i undef):=by
  intro i y hy;have hi:i<ax.length:=(Cu.1 hy).1;have ho:=hro i y hy
  cases y with
  |one c=>exact .c (Bz.rep ho (hno i hi))
  |agg cs=>
   obtain ⟨us,gps,hu,hul,hur,hfp⟩:=ho;rw [hu];refine .agg us (by simp [hul]) (fun j x hj=>?_);simp only [Ec,E9] at hj;obtain ⟨c,hc,rfl⟩:=hj;have hj:j<cs.length:=(Cu.1 hc).1;exact .c ((hur j c hc).rep (fun b hb'=>hno i hi b (by rw [hfp];exact Dp hj hb')))
  |ptr cs=>exact ho.elim
  |fn f ao=>exact ho.elim
 have hres:D0 E w' (s.ag E) s.next (Pi ax) (J6 rs):=by
  have:=G7 (E:=E) (A:=s.ag E) (N:=s.next) (w:=w') ax (ax.map Lb) rs hrl Ef (fun i x hi=>by
   simp only [Ec,E9] at hi;obtain ⟨y,hy,rfl⟩:=hi
   exact hone i y hy)
  match ax,this with
  | [],this=>exact this
  | [o],this=>exact this
  |o1::o2::r,this=>exact this
 exact ⟨_,rfl,fun _=> .of_below hb,h.rec fun g=>g E _ w' (hI.put dst hres)⟩
structure V3 (B:Er) (w':World) (ax:List Hb) (e:Ending):Prop where
 rel:B.rel w'
 res:∃(rs:List Value) (fps:Nat→List Nat),e= .returned (J6 rs)∧rs.length=ax.length∧(∀i y,ax[i]? =some y→P2 w' y (rs.getD i undef) (fps i))∧
  (∀i,i<ax.length→(fps i).Nodup∧∀b∈fps i,B.fresh b)∧∀i j,i<ax.length→j<ax.length→i≠j→∀b∈fps i,b∉fps j
theorem V3.gives (hF:M5 W B c v fp){w':World}{e:Ending}(h:V3 B w' ax e):Jp W w' ax e:=by
 obtain ⟨h1,rs,fps,h2,h3,h4,h5,h6⟩:=h;exact ⟨hF.below _ h1,rs,fps,h2,h3,h4,fun i hi=>⟨(h5 i hi).1,fun b hb=>hF.fresh b ((h5 i hi).2 b hb)⟩,h6⟩
theorem V3.givesV (hF:M5 W B c v fp){w':World}{e:Ending}(j:Nat)(hj:ax[j]? =some (.one (.val v)))(h:V3 B w' ax e):Jp W w' (ax.set j (.one c)) e:=by
 obtain ⟨h1,rs,fps,h2,h3,h4,h5,h6⟩:=h;have hjl:j<ax.length:=(Cu.1 hj).1;refine ⟨hF.below _ h1,rs,fun i=>if i=j then fp else fps i,h2,by rw [K1];exact h3,fun i y hy=>?_,fun i hi=>?_,fun i k hi hk hne b hb hb'=>?_⟩
 ·rw [List.getElem?_set] at hy
  by_cases e:i=j
  ·subst e
   rw [Ah rfl,Ah hjl] at hy;obtain rfl:=Bv hy;have ho:=h4 i _ hj
   have hv:rs.getD i undef=v:=by
    have ho:Bz w' (.val v) (rs.getD i undef) (fps i):=ho;generalize fps i=g at ho
    cases ho
    rfl
   simp only [Mo];rw [hv];exact hF.now h1
  rw [Ab (fun h=>e h.symm)] at hy;simp only [Ab e];exact h4 i y hy
 ·rw [K1] at hi
  by_cases e:i=j
  ·simp only [Ah e]
   exact ⟨hF.nodup,hF.new⟩
  simp only [Ab e];exact ⟨(h5 i hi).1,fun b hb=>hF.fresh b ((h5 i hi).2 b hb)⟩
 rw [K1] at hi hk
 by_cases e1:i=j
 ·have e2:k≠j:=fun e2=>hne (e1.trans e2.symm)
  simp only [Ah e1] at hb;simp only [Ab e2] at hb';exact hF.free hb ((h5 k hk).2 b hb')
 simp only [Ab e1] at hb
 by_cases e2:k=j
 ·simp only [Ah e2] at hb'
  exact hF.free hb' ((h5 i hi).2 b hb)
 simp only [Ab e2] at hb';exact h6 i k hi hk hne b hb hb'
variable {fn : Func}
theorem B2r (hT:C0 P T)(hx:Oo T fn.results.toList s=some xs)(hk:Gl (xs.flatMap D5)=true)(ho:N6 s.own xs ax):
  C3s B (bodyPost P fn fun e w'=>V3 B w' ax e) s:=by
 intro E a w h;obtain ⟨vs,h1,h2,h3,h4⟩:=W2 hT h fn.results.toList xs hx;obtain ⟨g1,g2⟩:=O1 ho;refine ⟨h.defers,J6 vs,?_,h.base,vs,fun i=>(D5 (I4 xs i)).flatMap E.fp,rfl,by omega,fun i y hy=>?_,fun i hi=>?_,fun i j hi hj hne b hb hb'=>?_⟩
 ·rw [Qq,A2a]
  simp only [A2b,Sem.run_bind,h1,Result.andThen_ok,Sem.run_pure];exact A6 (fun v=>Result.ok v w) (Sz vs)
 ·obtain ⟨x,hx',hxo⟩:=g2 i y hy
  have:=(Ki h hxo (h4 i x hx')).1
  have e:I4 xs i=x:=by rw [Cb,hx'];rfl
  simp only [e];exact this
 ·have hi':i<xs.length:=by omega
  have hnd:=Eu hk;have hxi:=Dh hi';obtain ⟨x,hx',hxo⟩:=g2 i _ (Dh hi);have hkeys:=(Ki h hxo (h4 i x hx')).2
  show ((D5 (I4 xs i)).flatMap E.fp).Nodup∧∀b∈(D5 (I4 xs i)).flatMap E.fp,B.fresh b
  rw [show I4 xs i=x by rw [Cb,hx'];rfl]
  constructor
  ·have hsub:(D5 x).Nodup:=(Cg.1 hnd).1 x (Hr hx')
   refine Cg.2 ⟨fun k hk'=>?_,?_⟩
   ·obtain ⟨y,hy,rfl⟩:=hkeys k hk'
    exact (h.own y hy).2.2
   refine B3b ?_ hsub;intro k j hk' hj' hne b hb hb';obtain ⟨y,hy,rfl⟩:=hkeys k hk';obtain ⟨z,hz,rfl⟩:=hkeys j hj';exact h.sep y hy z hz hne b hb hb'
  intro b hb;obtain ⟨k,hk',hb⟩:=E7.1 hb;obtain ⟨y,hy,rfl⟩:=hkeys k hk';exact h.fresh b (.inr ⟨y,hy,hb⟩)
 have hi':i<xs.length:=by omega
 have hj':j<xs.length:=by omega
 have hnd:=Eu hk;obtain ⟨x,hx',hxo⟩:=g2 i _ (Dh hi);obtain ⟨z,hz',hzo⟩:=g2 j _ (Dh hj)
 change b∈(D5 (I4 xs i)).flatMap E.fp at hb
 change b∈(D5 (I4 xs j)).flatMap E.fp at hb'
 rw [show I4 xs i=x by rw [Cb,hx'];rfl] at hb
 rw [show I4 xs j=z by rw [Cb,hz'];rfl] at hb'
 obtain ⟨k,hk1,hb⟩:=E7.1 hb;obtain ⟨l,hl1,hb'⟩:=E7.1 hb';obtain ⟨y1,hy1,rfl⟩:=(Ki h hxo (h4 i x hx')).2 k hk1;obtain ⟨y2,hy2,rfl⟩:=(Ki h hzo (h4 j z hz')).2 l hl1
 by_cases e:y1.key=y2.key
 ·have hpw:=(Cg.1 hnd).2
  have e1:xs[i]=x:=by rw [Dh hi'] at hx';exact Bv hx'
  have e2:xs[j]=z:=by rw [Dh hj'] at hz';exact Bv hz'
  rcases Uh hne with hlt|hlt
  ·have:=Ry.1 hpw i j hi' hj' hlt
   rw [e1,e2] at this;exact this _ hk1 (e▸hl1)
  have:=Ry.1 hpw j i hj' hi' hlt
  rw [e1,e2] at this;exact this _ hl1 (e▸hk1)
 exact h.sep y1 hy1 y2 hy2 e b hb hb'
theorem A0p (own:List Ow)(v:Value):B48 own (.c (.val v)) (.val v):=by
 unfold B48
 split
 ·rename_i h;cases h
 ·rename_i h
  obtain rfl:=Ad.val.inj (AV.c.inj h);exact .inl rfl
 ·rename_i h
  exact (A6 Ad.val (Ad.val.inj (AV.c.inj h)))
 rename_i h1 h2 h3
 exact h3 v rfl
theorem D27 (hT:C0 P T)(hF:M5 W B c v fp)(hx:Oo T fn.results.toList s=some xs)(hk:Gl (xs.flatMap D5)=true)(ho:N6 s.own xs ax):
  RW B (bodyPost P fn fun e w'=>Jp W w' ax e) s:=
 RW.mono (fun _ _ ⟨h1,v,h2,h3⟩=>⟨h1,v,h2,h3.gives hF⟩) ⟨B2r hT hx hk ho⟩
theorem D28 (hT:C0 P T)(hF:M5 W B c v fp)(j:Nat)(hj:ax[j]? =some (.one c))(hx:Oo T fn.results.toList s=some xs)(hk:Gl (xs.flatMap D5)=true)(ho:N6 s.own xs (ax.set j (.one (.val v)))):
  RW B (bodyPost P fn fun e w'=>Jp W w' ax e) s:=by
 have hjl:j<ax.length:=(Cu.1 hj).1
 have e:(ax.set j (.one (.val v))).set j (.one c)=ax:=by
  rw [List.set_set]
  apply List.ext_getElem?
  intro i;rw [List.getElem?_set]
  split
  ·rename_i h
   subst h;exact hj.symm
  rfl
 refine RW.mono (fun _ _ ⟨h1,u,h2,h3⟩=>⟨h1,u,h2,?_⟩) ⟨B2r hT hx hk ho⟩;have h:=h3.givesV hF j (by rw [List.getElem?_set,Ah rfl,Ah hjl])
 rwa [e] at h
end Go.Sx
set_option maxRecDepth 100000
namespace Go.Sx
open Go
open Go.RowKit (Below)
variable {P : Program} {T : List (TypeId × TI)}
def Sh (n:Nat) (fps:Nat→List Nat):List Nat:=(List.range n).flatMap fps
def A08 (w:World) (A:Nat→Prop) (pins:List (Ad×Value)):Prop:=∀p∈pins,Qz w A p.1 p.2
def P1 (P:Program) (H:World→Prop) (f:FuncId) (pins:List (Ad×Value)) (xs ins:List Hb) {ι:Type} (φ:ι→Prop) (ax:ι→List Hb):Prop:=
 Lm P f∧∀(w:World) (vs:List Value) (fps:Nat→List Nat) (us:List Value),vs.length=xs.length→(∀i x,xs[i]? =some x→P2 w x (vs.getD i undef) (fps i))→
  (∀i,i<xs.length→(fps i).Nodup)→(∀i j,i<xs.length→j<xs.length→i≠j→∀b∈fps i,b∉fps j)→
  (∀w',Er.rel ⟨w,fun b=>b∈Sh xs.length fps⟩ w'→H w')→A08 w (fun b=>b∈Sh xs.length fps) pins→us.length=ins.length→
  (∀i z,ins[i]? =some z→P3 w (fun b=>b∈Sh xs.length fps) z (us.getD i undef))→
  Calls P f (vs++us).toArray w fun e w'=>∃i,φ i∧V3 ⟨w,fun b=>b∈Sh xs.length fps⟩ w' (ax i) e
structure A4d (B:Er) (b:Nat) (w':World) (cs:List Ad) (ax:List Hb) (e:Ending):Prop where
 rel:B.rel w'
 res:∃(vs:List Value) (ty:TypeId) (rs:List Value) (fps:Nat→List Nat),e= .returned (J6 rs)∧w'.heap[b]? =some (.cells vs.toArray ty (0,0))∧rs.length=ax.length∧
  (∀i y,(Hb.agg cs::ax)[i]? =some y→P2 w' y ((Value.agg vs.toArray::rs).getD i undef) (fps i))∧
  (∀i,i<ax.length+1→(fps i).Nodup∧∀x∈fps i,B.fresh x∧x≠b)∧
  ∀i j,i<ax.length+1→j<ax.length+1→i≠j→∀x∈fps i,x∉fps j
def A4h (P:Program) (H:World→Prop) (f:FuncId) (pins:List (Ad×Value)) (cs:List Ad) (ins:List Hb) {ι:Type} (φ:ι→Prop) (cs':ι→List Ad) (ax:ι→List Hb):Prop:=
 Lm P f∧∀(w:World) (b:Nat) (vs:List Value) (ty:TypeId) (fp:List Nat) (us:List Value),w.heap[b]? =some (.cells vs.toArray ty (0,0))→P2 w (.agg cs) (.agg vs.toArray) fp→fp.Nodup→b∉fp→
  (∀w',Er.rel ⟨w,fun x=>x=b∨x∈fp⟩ w'→H w')→A08 w (fun x=>x=b∨x∈fp) pins→us.length=ins.length→
  (∀i z,ins[i]? =some z→P3 w (fun x=>x=b∨x∈fp) z (us.getD i undef))→
  Calls P f (.pointer (some ⟨b,0,none⟩)::us).toArray w fun e w'=>∃i,φ i∧A4d ⟨w,fun x=>x=b∨x∈fp⟩ b w' (cs' i) (ax i) e
def Ln (B:Er) (pins:List (Ad×Value)):Prop:=A08 B.w0 B.may pins
variable {B : Er} {pins : List (Ad × Value)} {s : AS} {E : Fl} {a : Act} {w : World}
theorem Ln.now (h:Ln B pins)(hs:s.is B E a w){A:Nat→Prop}(hA:∀b,A b→s.ag E b):A08 w A pins:=by
 intro p hp;refine (h p hp).move (fun b hm hb=>hs.base.block b hb hm) (fun b hb hav=>?_)
 rcases hs.fresh b (hA b hav) with h|h
 ·omega
 exact h
variable {Q : Exit → Act → World → Prop} {K : List KI} {v : Value}
theorem Jg (hF:Ln B pins)(j:Nat){c:Ad}(hj:pins[j]? =some (c,v))(i:Nat)(hi:I4 s.ac i= .c (.val v))(h:GW P B Q K {s with ac:=Cd s.ac i (.c c)}):GW P B Q K s:=by
 refine ⟨fun E a w hs=>h.rec fun g=>g E a w ⟨hs.defers,hs.ak,by rw [hs.size];exact (Bj _ _ _).symm,fun m z hz=>?_,hs.aw,hs.boxes2,hs.keys,hs.own,hs.ownkeys,hs.sep,hs.sepB,hs.one,hs.base,hs.fresh⟩⟩
 simp only at hz
 rw [Cr] at hz
 split at hz
 ·rename_i hm
  obtain ⟨rfl,hm⟩:=hm;obtain rfl:=Bv hz;have hd:=hs.ac i (.c (.val v)) (by rw [Cb,Dh hm] at hi;rw [Dh hm];simpa using hi);rw [B3 hd];exact D0.c (A:=s.ag E) (N:=s.next) (hF.now hs (fun _ h=>h) _ (Hr hj))
 exact hs.ac m z hz
def C7z (own:List Ow) (x:AV):Option Hb:=
 match x with
 | .agg xs=>match A9t own xs with
  |some cs=>some (.agg cs)
  |none=>none
 |x=>match A4s own x with
  |some c=>some (.one c)
  |none=>none
def A2p (own:List Ow) (l:List AV):Option (List Hb):=
 match l with
 | []=>some []
 |x::r=>match C7z own x with
  |some c=>match A2p own r with
   |some cs=>some (c::cs)
   |none=>none
  |none=>none
theorem A9u {own:List Ow}{l:List AV}{cs:List Hb}(h:A2p own l=some cs):l.length=cs.length∧∀(i:Nat) (c:Hb),cs[i]? =some c→∃x:AV,l[i]? =some x∧C7z own x=some c:=by
 induction l generalizing cs with
 |nil=>obtain rfl:=Bv h;simp
 |cons x r ih=>
  unfold A2p at h
  split at h
  ·rename_i c hc
   split at h
   ·rename_i cs' hcs
    obtain rfl:=Bv h;obtain ⟨h1,h2⟩:=ih hcs;refine ⟨by simp [h1],fun i d hd=>?_⟩
    cases i with
    |zero=>simp only [H3,Em] at hd;subst hd;exact ⟨x,by simp,hc⟩
    |succ i=>simpa using h2 i d (by simpa using hd)
   simp at h
  simp at h
structure A9n (s:AS) (E:Fl) (ks:List Nat) (X:Nat→Prop):Prop where
 av:∀b,X b→s.ag E b
 own:∀y∈s.own,y.key∉ks→∀b∈E.fp y.key,¬ X b
variable {X : Nat → Prop}
theorem C34 (hs:s.is B E a w){ks:List Nat}(hX:A9n s E ks X){x:AV}{c:Ad}(hx:A4s (Bb ks s.own) x=some c)(hd:D0 E w (s.ag E) s.next x v):Qz w X c v:=by
 unfold A4s at hx
 split at hx
 ·obtain rfl:=Bv hx
  cases hd with
  |c hr=>exact hr.move (fun _ _ _=>rfl) (fun b _ hb=>hX.av b hb)
 ·cases hd with
  |own hk=>
   obtain ⟨h1,h2⟩:=Bl.1 (Ca hx);exact (hs.own _ h1).2.1.rep (fun b hb=>hX.own _ h1 h2 b hb)
 simp at hx
theorem B3p (hs:s.is B E a w){ks:List Nat}(hX:A9n s E ks X){x:AV}{c:Hb}(hx:C7z (Bb ks s.own) x=some c)(hd:D0 E w (s.ag E) s.next x v):P3 w X c v:=by
 unfold C7z at hx
 split at hx
 ·rename_i xs
  split at hx
  ·rename_i cs hcs
   obtain rfl:=Bv hx;obtain ⟨g1,g2⟩:=A1a hcs
   cases hd with
   |agg vs hl hv=>
    refine ⟨vs,rfl,by omega,fun i c hc=>?_⟩;obtain ⟨y,hy,hyc⟩:=g2 i c hc;exact C34 hs hX hyc (hv i y hy)
  simp at hx
 split at hx
 ·rename_i c' hc
  obtain rfl:=Bv hx;exact C34 hs hX hc hd
 simp at hx
variable {xs : List AV}
theorem A6l (h:s.is B E a w){ax:List Hb}{vs:List Value}(h4:∀i x,xs[i]? =some x→D0 E w (s.ag E) s.next x (vs.getD i undef))(hk:Gl (xs.flatMap D5)=true)(ho:N6 s.own xs ax):
  (∀i y,ax[i]? =some y→P2 w y (vs.getD i undef) ((D5 (I4 xs i)).flatMap E.fp))∧(∀i,i<ax.length→((D5 (I4 xs i)).flatMap E.fp).Nodup)∧(∀i,i<ax.length→∀k∈D5 (I4 xs i),∃y∈s.own,y.key=k)∧
   ∀i j,i<ax.length→j<ax.length→i≠j→∀b∈(D5 (I4 xs i)).flatMap E.fp,b∉(D5 (I4 xs j)).flatMap E.fp:=by
 obtain ⟨g1,g2⟩:=O1 ho;have hnd:=Eu hk
 have hkeys:∀i,i<ax.length→∀k∈D5 (I4 xs i),∃y∈s.own,y.key=k:=by
  intro i hi;obtain ⟨x,hx',hxo⟩:=g2 i _ (Dh hi);rw [show I4 xs i=x by rw [Cb,hx'];rfl]
  exact (Ki h hxo (h4 i x hx')).2
 have hsub:∀i,i<ax.length→(D5 (I4 xs i)).Nodup:=by
  intro i hi;obtain ⟨x,hx',hxo⟩:=g2 i _ (Dh hi);rw [show I4 xs i=x by rw [Cb,hx'];rfl]
  exact (Cg.1 hnd).1 x (Hr hx')
 refine ⟨fun i y hy=>?_,fun i hi=>Yo h (hsub i hi) (hkeys i hi),hkeys,fun i j hi hj hne b hb hb'=>?_⟩
 ·obtain ⟨x,hx',hxo⟩:=g2 i y hy
  rw [show I4 xs i=x by rw [Cb,hx'];rfl]
  exact (Ki h hxo (h4 i x hx')).1
 obtain ⟨k,hk1,hb⟩:=E7.1 hb;obtain ⟨l,hl1,hb'⟩:=E7.1 hb';obtain ⟨y1,hy1,rfl⟩:=hkeys i hi k hk1;obtain ⟨y2,hy2,rfl⟩:=hkeys j hj l hl1
 by_cases e:y1.key=y2.key
 ·have hpw:=(Cg.1 hnd).2
  have hi':i<xs.length:=by omega
  have hj':j<xs.length:=by omega
  have e1:I4 xs i=xs[i]:=by rw [Cb,Dh hi'];rfl
  have e2:I4 xs j=xs[j]:=by rw [Cb,Dh hj'];rfl
  rw [e1] at hk1;rw [e2] at hl1
  rcases Uh hne with hlt|hlt
  ·exact Ry.1 hpw i j hi' hj' hlt _ hk1 (e▸hl1)
  exact Ry.1 hpw j i hj' hi' hlt _ hl1 (e▸hk1)
 exact h.sep y1 hy1 y2 hy2 e b hb hb'
variable {ι : Type}
theorem V0 (hT:C0 P T){fn:Func}{φ:ι→Prop}{ax:ι→List Hb}(i:ι)(hi:φ i)(hx:Oo T fn.results.toList s=some xs)(hk:Gl (xs.flatMap D5)=true)(ho:N6 s.own xs (ax i)):
  RW B (bodyPost P fn fun e w'=>∃i,φ i∧V3 B w' (ax i) e) s:=
 RW.mono (fun _ _ ⟨h1,v,h2,h3⟩=>⟨h1,v,h2,i,hi,h3⟩) ⟨B2r hT hx hk ho⟩
theorem Ke (hT:C0 P T){b:Nat}{fn:Func}{φ:ι→Prop}{cs':ι→List Ad}{ax:ι→List Hb}{bx:Bx}(i:ι)(hi:φ i)(hx:Oo T fn.results.toList s=some xs)(hb:Fq s.aw 0=some bx)(hl:Dv s.ak 0=some (.pointer (some ⟨b,0,none⟩)))(hk:Gl ((AV.agg bx.cells::xs).flatMap D5)=true)(ho:N6 s.own (.agg bx.cells::xs) (.agg (cs' i)::ax i)):
  RW B (bodyPost P fn fun e w'=>∃i,φ i∧A4d B b w' (cs' i) (ax i) e) s:=by
 refine ⟨fun E a w h=>?_⟩;obtain ⟨rs,h1,h2,h3,h4⟩:=W2 hT h fn.results.toList xs hx;obtain ⟨hm,hkey⟩:=F9 hb;obtain ⟨k1,vs,ty,k2,k3,k4⟩:=h.aw bx hm;have hl0:=(h.ak _ (Gr hl)).2;have hβ:E.β bx.key=b:=by rw [hkey];unfold Fl.β;rw [show E.ov 0=_ from hl0];rfl
 rw [hβ] at k2
 have hd:∀i x,(AV.agg bx.cells::xs)[i]? =some x→D0 E w (s.ag E) s.next x ((Value.agg vs.toList.toArray::rs).getD i undef):=by
  intro i x hx
  cases i with
  |zero=>
   simp only [H3,Em] at hx;subst hx;exact .agg vs.toList (by simpa using k3) (fun j y hj=>by rw [Bn];exact k4 j y hj)
  |succ i=>simpa using h4 i x (by simpa using hx)
 obtain ⟨o1,o2,o3,o4⟩:=A6l h hd hk ho;have hlen:xs.length=(ax i).length:=(O1 ho.2).1;refine ⟨h.defers,J6 rs,?_,i,hi,h.base,vs.toList,ty,rs,fun i=>(D5 (I4 (AV.agg bx.cells::xs) i)).flatMap E.fp,rfl,by simpa using k2,by omega,o1,fun j hj=>⟨o2 j (by simpa using hj),fun x hx=>?_⟩,fun j l hj hl hne=>o4 j l (by simpa using hj) (by simpa using hl) hne⟩
 ·rw [Qq,A2a]
  simp only [A2b,Sem.run_bind,h1,Result.andThen_ok,Sem.run_pure];exact A6 (fun v=>Result.ok v w) (Sz rs)
 obtain ⟨k,hk',hx⟩:=E7.1 hx;obtain ⟨y,hy,rfl⟩:=o3 j (by simpa using hj) k hk';refine ⟨h.fresh x (.inr ⟨y,hy,hx⟩),fun e=>?_⟩;subst e
 have:=h.sepB bx hm y hy
 rw [hβ] at this;exact this hx
def Qb (ks:List Nat) (s:AS):AS:= {s with own:=Bb ks s.own}
theorem C6s {w':World}(hs:s.is B E a w)(hX:∀b,X b→s.ag E b)(hr:Er.rel ⟨w,X⟩ w'):B.rel w':=by
 have hB:=hs.base;refine ⟨hr.os.trans hB.os,hr.tape.trans hB.tape,hr.output.trans hB.output,G0 hB.size hr.size,fun k hk hm=>?_⟩
 rw [hr.block k (Kk hk hB.size) (fun hX'=>by
  rcases hs.fresh k (hX k hX') with h|h
  ·omega
  exact hm h)]
 exact hB.block k hk hm
theorem Vm {w':World}(h:Er.rel ⟨w,X⟩ w'):C0p X w w':=⟨h.os,h.tape,h.output,h.size,fun k hk hm=>h.block k hk hm⟩
variable {H : World → Prop} {dst : Option Tmp}
theorem A4w {f:FuncId}{rest:List AV}{xs ins:List Hb}{φ:ι→Prop}{ax:ι→List Hb}(x0s:List AV)(hf:P1 P H f pins xs ins φ ax)(hH:∀w,B.rel w→H w)(hp:Ln B pins)(ho:N6 s.own x0s xs)(hk:Gl (x0s.flatMap D5)=true)(hx:A2p (Bb (x0s.flatMap D5) s.own) rest=some ins)(h:∀i,φ i→GW P B Q K ((Gi (ax i) (Qb (x0s.flatMap D5) s)).2.put dst (Gi (ax i) (Qb (x0s.flatMap D5) s)).1)):CW P B Q false f (x0s++rest) dst K s:=by
 refine ⟨⟨hf.1,fun E a w hs vs hl hv=>?_⟩⟩;have hxl:=(O1 ho).1;obtain ⟨r1,r2⟩:=A9u hx;have hvl:vs.length=x0s.length+rest.length:=by simpa using hl
 have hd1:∀i x,x0s[i]? =some x→D0 E w (s.ag E) s.next x ((vs.take x0s.length).getD i undef):=by
  intro i x hi;have hil:i<x0s.length:=(Cu.1 hi).1
  have:=hv i x (by rw [F3 hil];exact hi)
  simpa [List.getD,Wn,hil] using this
 have hd2:∀i x,rest[i]? =some x→D0 E w (s.ag E) s.next x ((vs.drop x0s.length).getD i undef):=by
  intro i x hi
  have:=hv (x0s.length+i) x (by rw [F8 A7];simpa using hi)
  simpa [List.getD] using this
 obtain ⟨o1,o2,o3,o4⟩:=A6l hs hd1 hk ho
 let fps:Nat→List Nat:=fun i=>(D5 (I4 x0s i)).flatMap E.fp
 have hin:∀b,b∈Sh xs.length fps→∃k∈x0s.flatMap D5,∃y∈s.own,y.key=k∧b∈E.fp k:=by
  intro b hb;obtain ⟨i,hi,hb⟩:=E7.1 hb;have hi:=Fk.1 hi;obtain ⟨k,hk1,hb⟩:=E7.1 hb;obtain ⟨y,hy,e⟩:=o3 i hi k hk1;refine ⟨k,E7.2 ⟨I4 x0s i,?_,hk1⟩,y,hy,e,hb⟩;have hil:i<x0s.length:=by omega
  rw [Cb,Dh hil];exact A72 hil
 have hX:A9n s E (x0s.flatMap D5) (fun b=>b∈Sh xs.length fps):=by
  refine ⟨fun b hb=>?_,fun y hy hne b hb hb'=>?_⟩
  ·obtain ⟨k,_,y,hy,rfl,hb⟩:=hin b hb
   exact .inr ⟨y,hy,hb⟩
  obtain ⟨k,hk1,y2,hy2,rfl,hb2⟩:=hin b hb';exact hs.sep y hy y2 hy2 (fun e=>hne (e▸hk1)) b hb hb2
 have e:vs=vs.take x0s.length++vs.drop x0s.length:=(Qy _ _).symm;rw [e];refine (hf.2 w (vs.take x0s.length) fps (vs.drop x0s.length) P4 o1 o2 o4 (fun w' hr=>hH w' (C6s hs hX.av hr)) (hp.now hs hX.av) P4 (fun i z hi=>?_)).mono (fun e w' ⟨i,hi,hg⟩=>?_)
 ·obtain ⟨y,hy,hro⟩:=r2 i z hi
  exact B3p hs hX hro (hd2 i y hy)
 obtain ⟨hrel,rs,gps,rfl,hrl,hro,hfr,hdis⟩:=hg;have hkept:=Vm hrel;have hI:=hs.drop (x0s.flatMap D5)
 have hX2:∀b,b∈Sh xs.length fps→s.ag E b∧¬ (Qb (x0s.flatMap D5) s).ag E b∧B.fresh b:=by
  intro b hb;refine ⟨hX.av b hb,?_,hs.fresh b (hX.av b hb)⟩
  rintro (⟨u,hu,rfl⟩|⟨u,hu,hb'⟩)
  ·obtain ⟨k,hk1,y,hy,rfl,hb⟩:=hin _ hb
   exact hs.sepB u hu y hy hb
  obtain ⟨q1,q2⟩:=Bl.1 hu;exact hX.own u q1 q2 b hb' hb
 have hI2:=hI.kept hkept hX2
 obtain ⟨E',hAd,hL,hD⟩:=M6 (ax i) rs gps (Qb (x0s.flatMap D5) s) E hI2 hrl hro (fun j hj=>(hfr j hj).1) hdis (fun j hj b hb=>by
  rcases (hfr j hj).2 b hb with h|h
  ·refine ⟨.inr h,fun hav=>?_,.inl (G0 hs.base.size h)⟩
   have:=hs.avoid_lt (hI.sub b hav)
   have h:w.heap.size≤b:=h;omega
  obtain ⟨q1,q2,q3⟩:=hX2 b h
  exact ⟨.inl q1,q2,q3⟩)
 have hres:=G7 (ax i) (Do (ax i) (Qb (x0s.flatMap D5) s)).1 rs hrl hL hD;have h:=h i hi;rw [Sg] at h;exact ⟨_,rfl,(fun h=>by cases h),h.rec fun g=>g E' _ w' ((hAd.isA.put dst hres).is)⟩
def Vz (k:Nat) (l:List Bx):List Bx:=
 match l with
 | []=>[]
 |b::r=>match Nat.beq b.key k with
  |true=>Vz k r
  |false=>b::Vz k r
variable {k : Nat}
theorem N8 {l:List Bx}{b:Bx}:b∈Vz k l↔b∈l∧b.key≠k:=by
 induction l with
 |nil=>simp [Vz]
 |cons x r ih=>
  unfold Vz
  split
  ·rename_i h
   have:=F7 h
   rw [ih]
   constructor
   ·rintro ⟨h1,h2⟩;exact ⟨Cq _ h1,h2⟩
   rintro ⟨h1,h2⟩
   rcases C7.1 h1 with rfl|h1
   ·exact absurd this h2
   exact ⟨h1,h2⟩
  rename_i h
  have hne:x.key≠k:=fun e=>by subst e;simp at h
  simp only [C7,ih]
  constructor
  ·rintro (rfl|⟨h1,h2⟩)
   ·exact ⟨.inl rfl,hne⟩
   exact ⟨.inr h1,h2⟩
  rintro ⟨rfl|h1,h2⟩
  ·exact .inl rfl
  exact .inr ⟨h1,h2⟩
theorem C2w {l:List Bx}(h:(l.map (·.key)).Nodup):((Vz k l).map (·.key)).Nodup:=by
 induction l with
 |nil=>simp [Vz]
 |cons x r ih=>
  simp only [I8,Ip] at h;unfold Vz
  split
  ·exact ih h.2
  simp only [I8,Ip];refine ⟨fun hm=>h.1 ?_,ih h.2⟩
  obtain ⟨o,ho,e⟩:=Ea.1 hm;exact Ea.2 ⟨o,(N8.1 ho).1,e⟩
theorem AS.isA.addBox {A:Nat→Prop}(h:s.isA B E A a w)(hk:k<s.next)(hn:∀x∈s.aw,x.key≠k){cells:List AV}{vs:Array Value}{ty:TypeId}(hb:w.heap[E.β k]? =some (.cells vs ty (0,0)))(hl:vs.size=cells.length)(hd:∀i y,cells[i]? =some y→D0 E w A s.next y (vs.getD i undef))(hav:¬ s.ag E (E.β k))(hA:A (E.β k))(hf:B.fresh (E.β k)):
  ({s with aw:=⟨k,cells⟩::s.aw}:AS).isA B E A a w:=by
 refine ⟨h.defers,h.ak,h.size,h.ac,fun x hx=>?_,fun x hx y hy e=>?_,?_,h.own,h.ownkeys,h.sep,fun x hx y hy=>?_,h.one,h.base,fun b hb'=>?_,fun b hb'=>?_⟩
 ·rcases C7.1 hx with rfl|hx
  ·exact ⟨hk,vs,ty,hb,hl,hd⟩
  exact h.aw x hx
 ·rcases C7.1 hx with rfl|hx<;>rcases C7.1 hy with rfl|hy
  ·rfl
  ·exact absurd (.inl ⟨y,hy,e.symm⟩) hav
  ·exact absurd (.inl ⟨x,hx,e⟩) hav
  exact h.boxes2 x hx y hy e
 ·simp only [I8,Ip]
  refine ⟨fun hm=>?_,h.keys⟩;obtain ⟨y,hy,e⟩:=Ea.1 hm;exact hn y hy e
 ·rcases C7.1 hx with rfl|hx
  ·exact fun hb'=>hav (.inr ⟨y,hy,hb'⟩)
  exact h.sepB x hx y hy
 ·rcases hb' with ⟨x,hx,rfl⟩|hb'
  ·rcases C7.1 hx with rfl|hx
   ·exact hf
   exact h.fresh _ (.inl ⟨x,hx,rfl⟩)
  exact h.fresh _ (.inr hb')
 rcases hb' with ⟨x,hx,rfl⟩|hb'
 ·rcases C7.1 hx with rfl|hx
  ·exact hA
  exact h.sub _ (.inl ⟨x,hx,rfl⟩)
 exact h.sub _ (.inr hb')
def dropP (k:Nat) (ks:List Nat) (s:AS):AS:= {s with own:=Bb ks s.own,aw:=Vz k s.aw}
theorem AS.is.dropP (h:s.is B E a w)(k:Nat)(ks:List Nat):(Sx.dropP k ks s).isA B E (s.ag E) a w:=by
 have av:∀b,(Sx.dropP k ks s).ag E b→s.ag E b:=by
  rintro b (⟨x,hx,hb⟩|⟨y,hy,hb⟩)
  ·exact .inl ⟨x,(N8.1 hx).1,hb⟩
  exact .inr ⟨y,(Bl.1 hy).1,hb⟩
 exact ⟨h.defers,h.ak,h.size,h.ac,fun x hx=>h.aw x (N8.1 hx).1,fun x hx y hy=>h.boxes2 x (N8.1 hx).1 y (N8.1 hy).1,C2w h.keys,fun y hy=>h.own y (Bl.1 hy).1,W0 h.ownkeys,
  fun y hy z hz=>h.sep y (Bl.1 hy).1 z (Bl.1 hz).1,fun x hx y hy=>h.sepB x (N8.1 hx).1 y (Bl.1 hy).1,h.one,h.base,fun b hb=>h.fresh b (av b hb),av⟩
def C0j (ys:List AV):AV:=
 match ys with
 | [y]=>y
 |ys=> .tup ys
def B6t (k:Nat) (ks:List Nat) (cs:List Ad) (ax:List Hb) (dst:Option Tmp) (s:AS):AS:=
 match Do (.agg cs::ax) (dropP k ks s) with
 |(.agg zs::ys,s')=>({s' with aw:=⟨k,zs⟩::s'.aw}:AS).put dst (C0j ys)
 |(_,s')=>s'
theorem B82 (c:Ad)(s:AS):(B1d c s).2.aw=s.aw:=by cases c<;>rfl
theorem V6:∀(cs:List Ad) (s:AS),(Hc cs s).2.aw=s.aw
 | [],_=>rfl
 |c::cs,s=>(V6 cs (B1d c s).2).trans (B82 c s)
theorem C0t (x:Hb)(s:AS):(Te x s).2.aw=s.aw:=by
 cases x with
 |one c=>exact B82 c s
 |agg cs=>exact V6 cs s
 |ptr cs=>rfl
 |fn f ao=>rfl
theorem A4m:∀(l:List Hb) (s:AS),(Do l s).2.aw=s.aw
 | [],_=>rfl
 |x::l,s=>(A4m l (Te x s).2).trans (C0t x s)
theorem B3k (cs:List Ad)(ax:List Hb)(s:AS):Do (.agg cs::ax) s=(.agg (Hc cs s).1::(Do ax (Hc cs s).2).1,(Do ax (Hc cs s).2).2):=rfl
theorem A2q {f:FuncId}{rest:List AV}{cs:List Ad}{ins:List Hb}{φ:ι→Prop}{cs':ι→List Ad}{ax:ι→List Hb}(hf:A4h P H f pins cs ins φ cs' ax)(hH:∀w,B.rel w→H w)(hp:Ln B pins){bx:Bx}(hb:Fq s.aw k=some bx)(ho:A29 s.own bx.cells cs)(hk:Gl (bx.cells.flatMap Km)=true)(hx:A2p (Bb (bx.cells.flatMap Km) s.own) rest=some ins)(h:∀i,φ i→GW P B Q K (B6t k (bx.cells.flatMap Km) (cs' i) (ax i) dst s)):CW P B Q false f (.box k 0::rest) dst K s:=by
 refine ⟨⟨hf.1,fun E a w hs vs hl hv=>?_⟩⟩;obtain ⟨hm,hkey⟩:=F9 hb;obtain ⟨hklt,bvs,ty,b1,b2,b3⟩:=hs.aw bx hm;rw [hkey] at b1 hklt;obtain ⟨r1,r2⟩:=A9u hx
 match vs,hl with
 |v::us,hl=>
  have hv0:=hv 0 (.box k 0) rfl;simp only [List.getD,H3,Uc] at hv0;have hdb:D0 E w (s.ag E) s.next (.agg bx.cells) (.agg bvs.toList.toArray):= .agg bvs.toList (by simpa using b2) (fun i y hi=>by rw [Bn];exact b3 i y hi);obtain ⟨o1,o2⟩:=Ki (x:= .agg bx.cells) (o:= .agg cs) hs ho hdb;have hks:(bx.cells.flatMap Km).Nodup:=Eu hk
  let fp:=(bx.cells.flatMap Km).flatMap E.fp
  have hfn:fp.Nodup:=Yo hs hks o2
  have hin:∀b,b∈fp→∃y∈s.own,y.key∈bx.cells.flatMap Km∧b∈E.fp y.key:=by
   intro b hb';obtain ⟨j,hj,hb'⟩:=E7.1 hb';obtain ⟨y,hy,rfl⟩:=o2 j hj;exact ⟨y,hy,hj,hb'⟩
  have hb0:E.β k∉fp:=by
   intro hb';obtain ⟨y,hy,_,hb'⟩:=hin _ hb'
   have:=hs.sepB bx hm y hy
   rw [hkey] at this;exact this hb'
  let X:Nat→Prop:=fun x=>x=E.β k∨x∈fp
  have hX:A9n s E (bx.cells.flatMap Km) X:=by
   refine ⟨fun b hb'=>?_,fun y hy hne b hb' hX'=>?_⟩
   ·rcases hb' with rfl|hb'
    ·exact .inl ⟨bx,hm,by rw [hkey]⟩
    obtain ⟨y,hy,_,hb'⟩:=hin b hb';exact .inr ⟨y,hy,hb'⟩
   rcases hX' with rfl|hX'
   ·have:=hs.sepB bx hm y hy
    rw [hkey] at this;exact this hb'
   obtain ⟨y2,hy2,hk2,hb2⟩:=hin b hX';exact hs.sep y hy y2 hy2 (fun e=>hne (e▸hk2)) b hb' hb2
  cases hv0 with
  |box _ _=>
   refine (hf.2 w (E.β k) bvs.toList ty fp us (by simpa using b1) o1 hfn hb0 (fun w' hr=>hH w' (C6s hs hX.av hr)) (hp.now hs hX.av) (by simp at hl;omega) (fun i z hi=>?_)).mono (fun e w' ⟨i,hi,hg⟩=>?_)
   ·obtain ⟨y,hy,hro⟩:=r2 i z hi
    have:=hv (i+1) y (by simpa using hy)
    exact B3p hs hX hro (by simpa [List.getD] using this)
   obtain ⟨hrel,nvs,nty,rs,gps,rfl,hheap,hrl,hro,hfr,hdis⟩:=hg;have hkept:=Vm hrel;have hI:=hs.dropP k (bx.cells.flatMap Km)
   have hX2:∀b,X b→s.ag E b∧¬ (dropP k (bx.cells.flatMap Km) s).ag E b∧B.fresh b:=by
    intro b hb';refine ⟨hX.av b hb',?_,hs.fresh b (hX.av b hb')⟩
    rintro (⟨u,hu,rfl⟩|⟨u,hu,hb2⟩)
    ·obtain ⟨q1,q2⟩:=N8.1 hu
     rcases hb' with hb'|hb'
     ·exact q2 ((hs.boxes2 u q1 bx hm (by rw [hkey];exact hb')).trans hkey)
     obtain ⟨y,hy,_,hb'⟩:=hin _ hb';exact hs.sepB u q1 y hy hb'
    obtain ⟨q1,q2⟩:=Bl.1 hu;exact hX.own u q1 q2 b hb2 hb'
   have hI2:=hI.kept hkept hX2
   have hnew:∀j,j<(ax i).length+1→∀b∈gps j,(s.ag E b∨w.heap.size≤b)∧¬ (dropP k (bx.cells.flatMap Km) s).ag E b∧B.fresh b:=fun j hj b hb'=>by
    rcases ((hfr j hj).2 b hb').1 with h|h
    ·refine ⟨.inr h,fun hav=>?_,.inl (G0 hs.base.size h)⟩
     have:=hs.avoid_lt (hI.sub b hav)
     have h:w.heap.size≤b:=h;omega
    obtain ⟨q1,q2,q3⟩:=hX2 b h;exact ⟨.inl q1,q2,q3⟩
   obtain ⟨E',hAd,hL,hD⟩:=M6 (.agg (cs' i)::ax i) (.agg nvs.toArray::rs) gps (dropP k (bx.cells.flatMap Km) s) E hI2 (by simp [hrl]) hro (fun j hj=>(hfr j (by simpa using hj)).1) (fun j l hj hl=>hdis j l (by simpa using hj) (by simpa using hl)) (fun j hj=>hnew j (by simpa using hj));have h:=h i hi;unfold B6t at h;rw [B3k] at h hAd hL hD
   simp only at h hAd hL hD
   have hbk:E'.β k=E.β k:=(hAd.keep k hklt).1;have hz0:=hD 0 _ rfl;simp only [List.getD,H3,Uc] at hz0;have hboxes:(Do (ax i) (Hc (cs' i) (dropP k (bx.cells.flatMap Km) s)).2).2.aw=Vz k s.aw:=(A4m _ _).trans (V6 _ _)
   have hzs:nvs.length=(Hc (cs' i) (dropP k (bx.cells.flatMap Km) s)).1.length∧∀j y,(Hc (cs' i) (dropP k (bx.cells.flatMap Km) s)).1[j]? =some y→D0 E' w' (fun b=>s.ag E b∨w.heap.size≤b) (Do (ax i) (Hc (cs' i) (dropP k (bx.cells.flatMap Km) s)).2).2.next y (nvs.getD j undef):=by
    generalize hq:(Value.agg nvs.toArray)=q at hz0
    cases hz0 with
    |agg ws hwl hw=>
     have e:nvs=ws:=by simpa using hq
     subst e;exact ⟨hwl,hw⟩
   have hbox:=hAd.isA.addBox (k:=k) (Kk hklt hAd.next) (fun x hx e=>by
    rw [hboxes] at hx
    exact (N8.1 hx).2 e) (vs:=nvs.toArray) (ty:=nty) (by rw [hbk];exact hheap) (by simpa using hzs.1) (fun j y hj=>by rw [←Bn];exact hzs.2 j y hj) (by
     rw [hbk];intro hav
     rcases hAd.ag _ hav with h|h
     ·exact (hX2 _ (.inl rfl)).2.1 h
     obtain ⟨j,hj,hb'⟩:=E7.1 h
     exact ((hfr j (by simpa using List.mem_range.1 hj)).2 _ hb').2 rfl) (by rw [hbk];exact .inl (hX.av _ (.inl rfl))) (by rw [hbk];exact hs.fresh _ (hX.av _ (.inl rfl)))
   have hLr:(Do (ax i) (Hc (cs' i) (dropP k (bx.cells.flatMap Km) s)).2).1.length=(ax i).length:=by simpa using hL
   have hres:D0 E' w' (fun b=>s.ag E b∨w.heap.size≤b) (Do (ax i) (Hc (cs' i) (dropP k (bx.cells.flatMap Km) s)).2).2.next (C0j (Do (ax i) (Hc (cs' i) (dropP k (bx.cells.flatMap Km) s)).2).1) (J6 rs):=G7 (ax i) (Do (ax i) (Hc (cs' i) (dropP k (bx.cells.flatMap Km) s)).2).1 rs hrl hLr (fun j x hj=>by simpa [List.getD] using hD (j+1) x (by simpa using hj));exact ⟨_,rfl,(fun h=>by cases h),h.rec fun g=>g E' _ w' ((hbox.put dst hres).is)⟩
end Go.Sx
set_option maxRecDepth 100000
namespace Go.Sx
open Go
open Go.RowKit (Below)
variable {P : Program} {T : List (TypeId × TI)}
variable {w : World} {A : Nat → Prop} {ins : List Hb}
theorem B1k {E:Fl}{N:Nat}{us:List Value}(_hl:us.length=ins.length)(hr:∀i z,ins[i]? =some z→P3 w A z (us.getD i undef))(i:Nat)(x:AV)(hx:(ins.map Lb)[i]? =some x):D0 E w A N x (us.getD i undef):=by
 simp only [Ec,E9] at hx;obtain ⟨q,hq,rfl⟩:=hx;have hr:=hr i q hq
 cases q with
 |one c=>exact .c hr
 |agg cs=>
  obtain ⟨ws,hu,hul,hur⟩:=hr;rw [hu];refine .agg ws (by simp [hul]) (fun j x hj=>?_);simp only [Ec,E9] at hj;obtain ⟨c,hc,rfl⟩:=hj;exact .c (hur j c hc)
 |ptr cs=>exact Q5.den hr (fun _ h=>h)
 |fn f ao=>
  obtain ⟨ws,hu,hul,hur⟩:=hr;rw [hu];refine .fn ws (by simp [hul]) (fun j x hj=>?_);simp only [Ec,E9] at hj;obtain ⟨c,hc,rfl⟩:=hj;have hr:=hur j c hc
  cases c with
  |one c=>exact .c hr
  |ptr cs=>exact Q5.den hr (fun _ h=>h)
theorem A1d {E:Fl}{N m:Nat}{ys:List AV}{vs:List Value}(hl:vs.length=ys.length)(hd:∀i x,ys[i]? =some x→D0 E w A N x (vs.getD i undef))(i:Nat)(x:AV)(hx:(ys++List.replicate m .any)[i]? =some x):D0 E w A N x ((vs.toArray++Array.replicate m undef).getD i undef):=by
 by_cases hi:i<ys.length
 ·rw [F3 hi] at hx
  have e:(vs.toArray++Array.replicate m undef).getD i undef=vs.getD i undef:=by
   simp [Array.getD,List.getD,show i<vs.length by omega,show i<vs.length+m by omega]
  rw [e];exact hd i x hx
 rw [F8 A7] at hx;rw [Ug (Hr hx)];exact .any _
def Tf (n k:Nat):AS:= {next:=0,ac:=List.replicate (k+(n-k)) .any,aw:=[],own:=[]}
variable {B : Er}
theorem Yg {E0:Fl}{a:Act}{m:Nat}(hd:a.defers=[])(hs:a.tmps.size=m){next:Nat}{ak:List (Nat×Value)}(hl:∀p∈ak,p.1<next∧E0.ov p.1=p.2)(h1:∀k,k<next→(E0.ov k).oneCell'=true)(hB:B.rel w):
  ({next:=next,ac:=List.replicate m .any,aw:=[],own:=[],ak:=ak}:AS).isA B E0 A a w:=by
 have nav:∀b,¬ ({next:=next,ac:=List.replicate m .any,aw:=[],own:=[],ak:=ak}:AS).ag E0 b:=by
  rintro b (⟨x,hx,_⟩|⟨y,hy,_⟩)
  ·simp at hx
  simp at hy
 refine ⟨hd,hl,by simp [hs],fun i x hx=>?_,by simp,by simp,by simp,by simp,by simp,by simp,by simp,h1,hB,fun b hb=>absurd hb (nav b),fun b hb=>absurd hb (nav b)⟩;rw [Ug (Hr hx)];exact .any _
def D1p (n:Nat) (xs ins:List Hb):AS:=
 match Do xs (Tf n (xs.length+ins.length)) with
 |(ys,s)=> {s with ac:=ys++ins.map Lb++List.replicate (n-(xs.length+ins.length)) .any}
variable {s : AS}
theorem AS.isA.slotsAt {E:Fl}{a:Act}(h:s.isA B E A a w){sl:List AV}(hsz:a.tmps.size=sl.length)(hd:∀i x,sl[i]? =some x→D0 E w A s.next x (a.tmps.getD i undef)):({s with ac:=sl}:AS).isA B E A a w:=
 ⟨h.defers,h.ak,hsz,hd,h.aw,h.boxes2,h.keys,h.own,h.ownkeys,h.sep,h.sepB,h.one,h.base,h.fresh,h.sub⟩
variable {H : World → Prop} {f : FuncId} {fn : Func} {c : Code} {pins : List (Ad × Value)} {ι : Type}
theorem A1e (hT:C0 P T)(wr:Bool){xs:List Hb}{φ:ι→Prop}{ax:ι→List Hb}(hf:P.funcs[f]? =some fn)(hb:fn.body=some c)(hn:(fn.name== "runtime.NumGoroutine")=false)(h:∀B,(∀w,B.rel w→H w)→Ln B pins→vcW P B (bodyPost P fn fun e w'=>∃i,φ i∧V3 B w' (ax i) e) (P7 T wr 100000 [.code c] (D1p fn.ntmps xs ins))):P1 P H f pins xs ins φ ax:=by
 refine ⟨⟨fn,hf,hn,by simp [hb]⟩,fun w vs fps us hvl ho hnd hdis hH hp hul hro=>calls_of_wp hf hb ?_⟩
 let B:Er:=⟨w,fun b=>b∈Sh xs.length fps⟩
 have hrel:B.rel w:=⟨rfl,rfl,rfl,Bu _,fun _ _ _=>rfl⟩
 let a:Act:= {tmps:=(vs++us).toArray++Array.replicate (fn.ntmps-(vs++us).toArray.size) undef,defers:=[]}
 have hsz:a.tmps.size=xs.length+ins.length+(fn.ntmps-(xs.length+ins.length)):=by simp [a,hvl,hul]
 let E0:Fl:=⟨fun _=> .slice none 0 0,fun _=>[]⟩
 have h0:(Tf fn.ntmps (xs.length+ins.length)).isA B E0 (fun b=>b∈Sh xs.length fps) a w:=Yg rfl hsz Ef (fun _ _=>rfl) hrel
 have nav:∀b,¬ (Tf fn.ntmps (xs.length+ins.length)).ag E0 b:=by
  rintro b (⟨x,hx,_⟩|⟨y,hy,_⟩)
  ·simp [Tf] at hx
  simp [Tf] at hy
 obtain ⟨E',hA,hL,hD⟩:=M6 xs vs fps (Tf fn.ntmps (xs.length+ins.length)) E0 h0 hvl ho hnd hdis (fun i hi b hb'=>⟨E7.2 ⟨i,Fk.2 hi,hb'⟩,nav b,.inr (E7.2 ⟨i,Fk.2 hi,hb'⟩)⟩)
 have hS:=hA.isA.slotsAt (sl:=(Do xs (Tf fn.ntmps (xs.length+ins.length))).1++ins.map Lb++List.replicate (fn.ntmps-(xs.length+ins.length)) .any) (by rw [hsz];simp [hL];try omega) (fun i x hx=>by
  have hk:fn.ntmps-(xs.length+ins.length)=fn.ntmps-(vs++us).toArray.size:=by simp [hvl,hul]
  rw [hk] at hx;refine A1d (vs:=vs++us) (by simp [hL,hvl,hul]) (fun j y hj=>?_) i x hx
  by_cases hjl:j<xs.length
  ·rw [F3 (by rw [hL];exact hjl)] at hj
   have:=hD j y hj
   rwa [show (vs++us).getD j undef=vs.getD j undef by simp [List.getD,F3 (show j<vs.length by omega)]]
  rw [F8 (by rw [hL];omega),hL] at hj
  have:=B1k (E:=E') (N:=(Do xs (Tf fn.ntmps (xs.length+ins.length))).2.next) hul hro _ y hj
  rwa [show (vs++us).getD j undef=us.getD (j-xs.length) undef by simp [List.getD,F8 (show vs.length≤j by omega),hvl]])
 exact (go hT wr (h B hH hp)).out E' a w hS.is
def Tg (n k b:Nat):AS:= {next:=1,ac:=List.replicate (k+(n-k)) .any,aw:=[],own:=[],ak:=[(0,.pointer (some ⟨b,0,none⟩))]}
def C69 (n b:Nat) (cs:List Ad) (ins:List Hb):AS:=
 match Hc cs (Tg n (1+ins.length) b) with
 |(zs,s)=> {s with aw:=[⟨0,zs⟩],ac:= .box 0 0::ins.map Lb++List.replicate (n-(1+ins.length)) .any}
theorem C41 (hT:C0 P T)(wr:Bool){cs:List Ad}{φ:ι→Prop}{cs':ι→List Ad}{ax:ι→List Hb}(hf:P.funcs[f]? =some fn)(hb:fn.body=some c)(hn:(fn.name== "runtime.NumGoroutine")=false)(h:∀B b,(∀w,B.rel w→H w)→Ln B pins→vcW P B (bodyPost P fn fun e w'=>∃i,φ i∧A4d B b w' (cs' i) (ax i) e) (P7 T wr 100000 [.code c] (C69 fn.ntmps b cs ins))):A4h P H f pins cs ins φ cs' ax:=by
 refine ⟨⟨fn,hf,hn,by simp [hb]⟩,fun w b vs ty fp us hheap ho hnd hbn hH hp hul hro=>calls_of_wp hf hb ?_⟩
 let B:Er:=⟨w,fun x=>x=b∨x∈fp⟩
 have hrel:B.rel w:=⟨rfl,rfl,rfl,Bu _,fun _ _ _=>rfl⟩
 let pv:Value:= .pointer (some ⟨b,0,none⟩)
 let a:Act:= {tmps:=(pv::us).toArray++Array.replicate (fn.ntmps-(pv::us).toArray.size) undef,defers:=[]}
 have hsz:a.tmps.size=1+ins.length+(fn.ntmps-(1+ins.length)):=by simp [a,hul];omega
 let E0:Fl:=⟨fun k=>if k=0 then pv else .slice none 0 0,fun _=>[]⟩
 have h0:(Tg fn.ntmps (1+ins.length) b).isA B E0 (fun x=>x=b∨x∈fp) a w:=Yg rfl hsz (fun p hp'=>by
  simp only [Hh] at hp';subst hp'
  exact ⟨Nat.one_pos,rfl⟩) (fun k _=>by simp only [E0];split<;>rfl) hrel
 have nav:∀x,¬ (Tg fn.ntmps (1+ins.length) b).ag E0 x:=by
  rintro b (⟨x,hx,_⟩|⟨y,hy,_⟩)
  ·simp [Tg] at hx
  simp [Tg] at hy
 obtain ⟨vs',fps,e1,hvl,hr,rfl⟩:=ho;obtain rfl:vs=vs':=by simpa using e1
 obtain ⟨E',hA,hL,hD⟩:=A4n cs vs fps (Tg fn.ntmps (1+ins.length) b) E0 h0 hvl hr hnd (fun x hx=>⟨.inr hx,nav x,.inr (.inr hx)⟩);have hk0:=hA.keep 0 Nat.one_pos;have hβ:E'.β 0=b:=by rw [hk0.1];rfl
 have hbx:(Hc cs (Tg fn.ntmps (1+ins.length) b)).2.aw=[]:=V6 cs _
 have hB1:=hA.isA.addBox (k:=0) (Kk Nat.one_pos hA.next) (fun x hx=>by rw [hbx] at hx;cases hx) (cells:=(Hc cs (Tg fn.ntmps (1+ins.length) b)).1) (vs:=vs.toArray) (ty:=ty) (by rw [hβ];exact hheap) (by simp [hL,hvl])
  (fun i y hy=>by
   have:=hD i y hy
   rwa [show vs.toArray.getD i undef=vs.getD i undef by rw [←Bn]]) (by
   rw [hβ];intro hav
   rcases hA.ag b hav with h|h
   ·exact nav _ h
   exact hbn h) (by rw [hβ];exact .inl rfl) (by rw [hβ];exact .inr (.inl rfl))
 rw [hbx] at hB1
 have hS:=hB1.slotsAt (sl:= .box 0 0::ins.map Lb++List.replicate (fn.ntmps-(1+ins.length)) .any) (by rw [hsz];simp;omega) (fun i x hx=>by
  have hk:fn.ntmps-(1+ins.length)=fn.ntmps-(pv::us).toArray.size:=by simp [hul];omega
  rw [hk] at hx;refine A1d (ys:= .box 0 0::ins.map Lb) (vs:=pv::us) (by simp [hul]) (fun j y hj=>?_) i x hx
  cases j with
  |zero=>
   simp only [H3,Em] at hj;subst hj
   have:=D0.box (E:=E') (w:=w) (A:=fun x=>x=b∨x∈(List.range cs.length).flatMap fps) (N:=(Hc cs (Tg fn.ntmps (1+ins.length) b)).2.next) (k:=0) 0 (Kk Nat.one_pos hA.next)
   rw [hβ] at this;exact this
  |succ j=>exact B1k hul hro j y (by simpa using hj))
 exact (go hT wr (h B b hH hp)).out E' a w hS.is
structure B6o (w w':World) (cs:List Ad) (e:Ending):Prop where
 below:Below w.heap.size w w'
 res:∃(b:Nat) (vs:List Value) (ty:TypeId) (fp:List Nat),e= .returned (.pointer (some ⟨b,0,none⟩))∧w.heap.size≤b∧w'.heap[b]? =some (.cells vs.toArray ty (0,0))∧P2 w' (.agg cs) (.agg vs.toArray) fp∧fp.Nodup∧b∉fp∧∀x∈fp,w.heap.size≤x
def B1b (P:Program) (f:FuncId) (pins:List (Ad×Value)) (ins:List Hb) {ι:Type} (φ:ι→Prop) (cs:ι→List Ad):Prop:=
 Lm P f∧∀(w:World) (us:List Value),us.length=ins.length→A08 w (fun _=>False) pins→(∀i z,ins[i]? =some z→P3 w (fun _=>False) z (us.getD i undef))→
  Calls P f us.toArray w fun e w'=>∃i,φ i∧B6o w w' (cs i) e
theorem C4z (hT:C0 P T)(wr:Bool){φ:ι→Prop}{cs:ι→List Ad}(hf:P.funcs[f]? =some fn)(hb:fn.body=some c)(hn:(fn.name== "runtime.NumGoroutine")=false)(h:∀W,Ln ⟨W,fun _=>False⟩ pins→vcW P ⟨W,fun _=>False⟩ (bodyPost P fn fun e w'=>∃i,φ i∧B6o W w' (cs i) e) (P7 T wr 100000 [.code c] (Dg fn.ntmps ins))):B1b P f pins ins φ cs:=by
 refine ⟨⟨fn,hf,hn,by simp [hb]⟩,fun w us hl hp hr=>calls_of_wp hf hb ?_⟩
 let a:Act:= {tmps:=us.toArray++Array.replicate (fn.ntmps-us.toArray.size) undef,defers:=[]}
 have hsz:a.tmps.size=ins.length+(fn.ntmps-ins.length):=by simp [a,hl]
 let E0:Fl:=⟨fun _=> .slice none 0 0,fun _=>[]⟩
 have h0:(Tf fn.ntmps ins.length).isA ⟨w,fun _=>False⟩ E0 (fun _=>False) a w:=Yg rfl hsz Ef (fun _ _=>rfl) ⟨rfl,rfl,rfl,Bu _,fun _ _ _=>rfl⟩
 have hS:=h0.slotsAt (sl:=ins.map Lb++List.replicate (fn.ntmps-ins.length) .any) (by rw [hsz];simp) (fun i x hx=>by
  have hk:fn.ntmps-ins.length=fn.ntmps-us.toArray.size:=by simp [hl]
  rw [hk] at hx
  exact A1d (by simp [hl]) (fun j y hj=>B1k hl hr j y hj) i x hx)
 exact (go hT wr (h w hp)).out E0 a w hS.is
theorem D1j (hT:C0 P T){W:World}{φ:ι→Prop}{cs:ι→List Ad}{k:Nat}{bx:Bx}(i:ι)(hi:φ i)(hx:Oo T fn.results.toList s=some [.box k 0])(hb:Fq s.aw k=some bx)(hk:Gl (bx.cells.flatMap Km)=true)(ho:A29 s.own bx.cells (cs i)):
  RW ⟨W,fun _=>False⟩ (bodyPost P fn fun e w'=>∃i,φ i∧B6o W w' (cs i) e) s:=by
 refine ⟨fun E a w h=>?_⟩;obtain ⟨rs,h1,h2,h3,h4⟩:=W2 hT h fn.results.toList _ hx;obtain ⟨hm,rfl⟩:=F9 hb;obtain ⟨k1,vs,ty,k2,k3,k4⟩:=h.aw bx hm;have hd:D0 E w (s.ag E) s.next (.agg bx.cells) (.agg vs.toList.toArray):= .agg vs.toList (by simpa using k3) (fun i y hi=>by rw [Bn];exact k4 i y hi);obtain ⟨o1,o2⟩:=Ki (x:= .agg bx.cells) (o:= .agg (cs i)) h ho hd;have h0:=h4 0 _ rfl;have hB:=h.base;have hnew:∀b,s.ag E b→W.heap.size≤b:=fun b hb=>(h.fresh b hb).elim id False.elim;refine ⟨h.defers,J6 rs,?_,i,hi,⟨hB.os,hB.tape,hB.output,hB.size,fun k hk=>hB.block k hk (fun h=>h)⟩,E.β bx.key,vs.toList,ty,_,?_,hnew _ (.inl ⟨bx,hm,rfl⟩),by simpa using k2,o1,Yo h (Eu hk) o2,fun hb'=>?_,fun x hx=>?_⟩
 ·rw [Qq,A2a]
  simp only [A2b,Sem.run_bind,h1,Result.andThen_ok,Sem.run_pure];exact A6 (fun v=>Result.ok v w) (Sz rs)
 ·match rs,h2 with
  | [r],_=>
   simp only [Ue] at h0
   cases h0 with
   |box _ _=>rfl
 ·obtain ⟨j,hj,hb'⟩:=E7.1 hb'
  obtain ⟨y,hy,rfl⟩:=o2 j hj;exact h.sepB bx hm y hy hb'
 obtain ⟨j,hj,hx⟩:=E7.1 hx;obtain ⟨y,hy,rfl⟩:=o2 j hj;exact hnew x (.inr ⟨y,hy,hx⟩)
def C3y (cs:List Ad) (dst:Option Tmp) (s:AS):AS:=
 match Hc cs {s with next:=s.next+1} with
 |(zs,s')=>({s' with aw:=⟨s.next,zs⟩::s'.aw}:AS).put dst (.box s.next 0)
variable {Q : Exit → Act → World → Prop} {K : List KI}
theorem B3r {xs:List AV}{dst:Option Tmp}{φ:ι→Prop}{cs:ι→List Ad}(hf:B1b P f pins ins φ cs)(hp:Ln B pins)(hx:Ir s xs=some ins)(h:∀i,φ i→GW P B Q K (C3y (cs i) dst s)):CW P B Q false f xs dst K s:=by
 refine ⟨⟨hf.1,fun E a w hs vs hl hv=>?_⟩⟩;obtain ⟨h1,h2⟩:=Is hx;refine (hf.2 w vs A7 (hp.now hs (fun _ h=>h.elim)) (fun i x hi=>?_)).mono (fun e w' ⟨i,hi,hg⟩=>?_)
 ·obtain ⟨y,hy,hc⟩:=h2 i x hi
  exact K4 hs hc (hv i y hy)
 obtain ⟨hb,b,nvs,ty,fp,rfl,hge,hheap,ho,hnd,hbn,hfr⟩:=hg;have hA:=hs.call hb
 let E1:Fl:=E.with s.next b
 have kE:=Fl.with_keep E s.next b
 have hA1:({s with next:=s.next+1}:AS).isA B E1 (fun b=>s.ag E b∨w.heap.size≤b) a w':=by
  have mv:∀x v,D0 E w' (fun b=>s.ag E b∨w.heap.size≤b) s.next x v→D0 E1 w' (fun b=>s.ag E b∨w.heap.size≤b) (s.next+1) x v:=fun x v hx=>hx.move (Z5 _) kE (fun _ _ _=>rfl) (fun _ _ h=>h);have kb:∀x∈s.aw,E1.β x.key=E.β x.key:=fun x hx=>(kE _ (hs.aw x hx).1).1
  have av:∀c,({s with next:=s.next+1}:AS).ag E1 c→s.ag E c:=by
   rintro c (⟨x,hx,hc⟩|hc)
   ·exact .inl ⟨x,hx,by rw [←kb x hx];exact hc⟩
   exact .inr hc
  refine ⟨hA.defers,fun p hp=>⟨T4 (hA.ak p hp).1,by rw [(kE _ (hA.ak p hp).1).2];exact (hA.ak p hp).2⟩,hA.size,fun i x hx=>mv _ _ (hA.ac i x hx),fun x hx=>?_,fun x hx y hy e=>hA.boxes2 x hx y hy (by rw [←kb x hx,←kb y hy];exact e),hA.keys,fun y hy=>?_,hA.ownkeys,hA.sep,fun x hx y hy=>?_,fun k hk=>?_,hA.base,fun c hc=>hA.fresh c (av c hc),fun c hc=>hA.sub c (av c hc)⟩
  ·obtain ⟨g1,ws,ty',g2,g3,g4⟩:=hA.aw x hx
   exact ⟨T4 g1,ws,ty',by rw [kb x hx];exact g2,g3,fun i y hy=>mv _ _ (g4 i y hy)⟩
  ·obtain ⟨g1,g2,g3⟩:=hA.own y hy
   exact ⟨T4 g1,by rw [(kE _ g1).2];exact g2,g3⟩
  ·rw [kb x hx]
   exact hA.sepB x hx y hy
  by_cases e:k=s.next
  ·subst e;simp [E1,Fl.with,Value.oneCell']
  have hk':k<s.next:=by have:k<s.next+1:=hk;omega
  rw [(kE _ hk').2];exact hA.one k hk'
 have nav:∀c,w.heap.size≤c→¬ ({s with next:=s.next+1}:AS).ag E1 c:=by
  intro c hc hav
  have:s.ag E c:=by
   rcases hav with ⟨x,hx,hc'⟩|hc'
   ·exact .inl ⟨x,hx,by rw [←(kE _ (hs.aw x hx).1).1];exact hc'⟩
   exact .inr hc'
  have:=hs.avoid_lt this
  omega
 obtain ⟨vs',fps,e1,hvl,hr,rfl⟩:=ho;obtain rfl:nvs=vs':=by simpa using e1
 obtain ⟨E2,hAd,hL,hD⟩:=A4n (cs i) nvs fps {s with next:=s.next+1} E1 hA1 hvl hr hnd (fun c hc=>⟨.inr (hfr c hc),nav c (hfr c hc),.inl (G0 hs.base.size (hfr c hc))⟩);have hkk:s.next<(Hc (cs i) {s with next:=s.next+1}).2.next:=Kk (Ru _) hAd.next;have hβ:E2.β s.next=b:=by rw [(hAd.keep s.next (Ru _)).1];exact Fl.with_self _ _ _
 have hbx:(Hc (cs i) {s with next:=s.next+1}).2.aw=s.aw:=V6 _ _
 have hB1:=hAd.isA.addBox (k:=s.next) hkk (fun x hx e=>by
  rw [hbx] at hx
  have:=(hs.aw x hx).1
  omega) (cells:=(Hc (cs i) {s with next:=s.next+1}).1) (vs:=nvs.toArray) (ty:=ty) (by rw [hβ];exact hheap) (by simp [hL,hvl])
  (fun j y hy=>by
   have:=hD j y hy
   rwa [show nvs.toArray.getD j undef=nvs.getD j undef by rw [←Bn]]) (by
   rw [hβ];intro hav
   rcases hAd.ag b hav with h|h
   ·exact nav b hge h
   exact hbn h) (by rw [hβ];exact .inr hge) (by rw [hβ];exact .inl (G0 hs.base.size hge))
 have hres:=D0.box (E:=E2) (w:=w') (A:=fun b=>s.ag E b∨w.heap.size≤b) (N:=(Hc (cs i) {s with next:=s.next+1}).2.next) (k:=s.next) 0 hkk;rw [hβ] at hres;have h:=h i hi;unfold C3y at h;exact ⟨_,rfl,(fun h=>by cases h),h.rec fun g=>g E2 _ w' ((hB1.put dst hres).is)⟩
variable {q : Bool} {all : Array Oper} {o : Oper} {rest : List Oper} {x : Operand} {y : Operand} {t : TypeId} {m : Int}
theorem D17 (hT:C0 P T)(hF:Ln B pins){e:TypeId}{i i':TI}(j:Nat){n es:Nat}{row:Nat→List Ad}{v:Value}{ik:IntKind}(hj:pins[j]? =some (.sl n es row,v))(hg:o.guard=none)(ho:o.op= .indexAddr t x y)(hi:find T t=some i)(he:i.elem=some e)(hi':find T e=some i')(hes:Nat.beq i'.size es=true)(hx:s.ev x= .c (.val v))(hy:s.ev y= .c (.val (.int ik m)))(hm:0≤m∧m<(n:Int))(h:GW P B Q (.ops q all rest::K) (s.put o.dst (.el n es row m 0))):GW P B Q (.ops q all (o::rest)::K) s:=by
 refine ⟨Eb hg (fun E a w hs=>?_)⟩;have hrep:Qz w (s.ag E) (.sl n es row) v:=hF.now hs (fun _ h=>h) _ (Hr hj);have hdx:=hs.ev x;rw [hx] at hdx;have hdy:=hs.ev y;rw [hy] at hdy;have ex:=B3 hdx;have ey:=B3 hdy;have hes:=F7 hes;have hund:=C1 (hT t i hi) he;have hel:P.elem t=e:=by simp [Program.elem,hund]
 obtain ⟨dst,op',ty,pos,after,guard⟩:=o
 simp only at ho
 subst ho
 have main:∀(u:Value),v=u→Qz w (s.ag E) (.sl n es row) u→∃r,(∀w',Ed w w'→(execOp a.eval ⟨dst,.indexAddr t x y,ty,pos,after,guard⟩).run P w'= .ok (.value r) w')∧D0 E w (s.ag E) s.next (.el n es row m 0) r:=by
  intro u hu hr
  cases hr with
  |nil=>exfalso;have:=hm.2;have:=hm.1;simp at *;omega
  |emp=>exfalso;have:=hm.2;have:=hm.1;simp at *;omega
  |sl _ _ _ b off cap u' hA hn hc hl hu' hr=>
   refine ⟨.pointer (some ⟨b,off+m.toNat * es+0,none⟩),fun w' _=>?_,.el 0 b off cap (.sl n es row b off cap u' hA hn hc hl hu' hr) hm.1 hm.2⟩
   have:=run_indexAt_slice (P:=P) w' t ⟨b,off,none⟩ n cap ik m (by rw [hel];exact hund)
   rw [Ah hm,hel,B9 (hT _ _ hi')] at this;simp only [Result.andThen_ok,Iz] at this;simp only [execOp,ex,hu,ey,Sem.run_bind,this,Result.andThen_ok,hes];rfl
 obtain ⟨r,h1,h2⟩:=main v rfl hrep;exact ⟨r,h1,h.rec fun g=>g E _ w (hs.put dst h2)⟩
theorem C39 (x c:Int)(h0:0≤c)(h1:c≤4611686018427387904):∃r:Int,(∀w,(Op.intBits .and .i64 x c).run P w= .ok (.int .i64 r) w)∧0≤r∧r≤c:=by
 refine ⟨IntKind.i64.wrap (BitVec.ofInt 64 x&&& BitVec.ofInt 64 c).toNat,fun w=>rfl,?_⟩
 have hle:(BitVec.ofInt 64 x&&& BitVec.ofInt 64 c).toNat≤c.toNat:=by
  rw [BitVec.toNat_and];refine G0 Nat.and_le_right ?_;rw [BitVec.toNat_ofInt];omega
 have:((BitVec.ofInt 64 x&&& BitVec.ofInt 64 c).toNat:Int)≤c:=by omega
 rw [IntKind.wrap_i64];omega
variable {g : TypeId}
theorem D0u {c:Int}(hg:o.guard=none)(ho:o.op= .binOp .and t x y g)(hx:s.ev x= .c (.val (.int .i64 m)))(hy:s.ev y= .c (.val (.int .i64 c)))(h0:0≤c)(h1:c≤4611686018427387904)(h:∀r:Int,0≤r→r≤c→GW P B Q (.ops q all rest::K) (s.put o.dst (.c (.val (.int .i64 r))))):GW P B Q (.ops q all (o::rest)::K) s:=by
 refine ⟨Eb hg (fun E a w hs=>?_)⟩;have hdx:=hs.ev x;rw [hx] at hdx;have hdy:=hs.ev y;rw [hy] at hdy;have ex:=B3 hdx;have ey:=B3 hdy;obtain ⟨dst,op',ty,pos,after,guard⟩:=o
 simp only at ho
 subst ho;obtain ⟨r,r1,r2,r3⟩:=C39 (P:=P) m c h0 h1;refine ⟨.int .i64 r,fun w' _=>?_,(h r r2 r3).rec fun g=>g E _ w (hs.put dst (.c (.val _ rfl)))⟩;have hb:binOp .and t (.int .i64 m) (.int .i64 c)=Op.intBits .and .i64 m c:=by simp [binOp]
 simp only [execOp,ex,ey,Sem.run_bind,Re,Result.andThen_ok,hb,r1];rfl
theorem D3b {c:Int}(hg:o.guard=none)(ho:o.op= .binOp .xor t x y g)(hx:s.ev x= .c (.val (.int .i64 m)))(hy:s.ev y= .c (.val (.int .i64 c)))(h:∀r:Int,GW P B Q (.ops q all rest::K) (s.put o.dst (.c (.val (.int .i64 r))))):GW P B Q (.ops q all (o::rest)::K) s:=by
 refine ⟨Eb hg (fun E a w hs=>?_)⟩;have hdx:=hs.ev x;rw [hx] at hdx;have hdy:=hs.ev y;rw [hy] at hdy;have ex:=B3 hdx;have ey:=B3 hdy;obtain ⟨dst,op',ty,pos,after,guard⟩:=o
 simp only at ho
 subst ho
 have hr:∀w,(binOp .xor t (.int .i64 m) (.int .i64 c)).run P w= .ok (.int .i64 (IntKind.i64.wrap (BitVec.ofInt 64 m ^^^ BitVec.ofInt 64 c).toNat)) w:=fun w=>by
  have hb:binOp .xor t (.int .i64 m) (.int .i64 c)=Op.intBits .xor .i64 m c:=by simp [binOp]
  rw [hb];rfl
 refine ⟨_,fun w' _=>?_,(h (IntKind.i64.wrap (BitVec.ofInt 64 m ^^^ BitVec.ofInt 64 c).toNat)).out E _ w (hs.put dst (.c (.val _ rfl)))⟩;simp only [execOp,ex,ey,Sem.run_bind,Re,Result.andThen_ok,hr];rfl
theorem D2o {c:Int}{kc:IntKind}(hg:o.guard=none)(ho:o.op= .binOp .shr t x y g)(hx:s.ev x= .c (.val (.int .i64 m)))(hy:s.ev y= .c (.val (.int kc c)))(hc:0≤c)(h:∀r:Int,GW P B Q (.ops q all rest::K) (s.put o.dst (.c (.val (.int .i64 r))))):GW P B Q (.ops q all (o::rest)::K) s:=by
 refine ⟨Eb hg (fun E a w hs=>?_)⟩;have hdx:=hs.ev x;rw [hx] at hdx;have hdy:=hs.ev y;rw [hy] at hdy;have ex:=B3 hdx;have ey:=B3 hdy;obtain ⟨dst,op',ty,pos,after,guard⟩:=o
 simp only at ho
 subst ho
 have hr:∀w,(binOp .shr t (.int .i64 m) (.int kc c)).run P w= .ok (.int .i64 (m.fdiv (2 ^ min c.toNat 64))) w:=fun w=>by
  have:¬ c<0:=by omega
  simp [binOp,Op.shift,this,IntKind.bits]
 refine ⟨_,fun w' _=>?_,(h (m.fdiv (2 ^ min c.toNat 64))).out E _ w (hs.put dst (.c (.val _ rfl)))⟩;simp only [execOp,ex,ey,Sem.run_bind,Re,Result.andThen_ok,hr];rfl
end Go.Sx
set_option maxRecDepth 100000
namespace Go.Sx
open Go
open Go.RowKit (Below)
variable {P : Program} {T : List (TypeId × TI)}
def QN (N:Act→World→Prop):Exit→Act→World→Prop
 | .normal,a,w=>N a w
 |_,_,_=>False
def QF:Exit→Act→World→Prop:=fun _ _ _=>False
inductive AW (P:Program) (B:Er) (N:Act→World→Prop) (ops:Array Oper) (fuel:Nat) (listed:Array Bool) (s:AS):Prop
 |mk (h:∀E a w,s.is B E a w→wpAny P .any ops (QN N) fuel listed a w):AW P B N ops fuel listed s
variable {B : Er} {N : Act → World → Prop} {ops : Array Oper} {fuel : Nat} {listed : Array Bool} {s : AS}
theorem AW.out (h:AW P B N ops fuel listed s):∀E a w,s.is B E a w→wpAny P .any ops (QN N) fuel listed a w:=h.rec fun h=>h
variable {Q : Exit → Act → World → Prop} {Q' : Exit → Act → World → Prop}
theorem Oper.wp_Q {o:Oper}{a:Act}{w:World}{K:Act→World→Prop}(hq:∀e a w,e≠ .normal→Q e a w→Q' e a w)(h:o.wp P a w K Q):o.wp P a w K Q':=by
 have hl:LetsOut Q→LetsOut Q':=fun ⟨a,w,h⟩=>⟨a,w,hq _ _ _ Ef h⟩
 unfold Oper.wp at *;generalize (execOp a.eval o).run P w=r at *
 cases r with
 |ok n w'=>
  cases n<;>simp only [Oper.upon] at h ⊢ <;>
   first
    |exact h
    |exact Calls.mono h (fun e w'' he=>by cases e<;>first|exact he|exact hq _ _ _ Ef he|exact hl he)
 |halt x w'=>cases x<;>simp only [Oper.upon] at h ⊢ <;>first|exact h|exact hq _ _ _ Ef h
theorem C0n (hq:∀e a w,Q e a w→Q' e a w):∀(fuel:Nat) (listed:Array Bool) (a:Act) (w:World),wpAny P .any ops Q fuel listed a w→wpAny P .any ops Q' fuel listed a w
 | 0,_,_,_,h=>⟨h.1,hq _ _ _ h.2⟩
 |fuel+1,listed,a,w,h=>⟨fun h0=>hq _ _ _ (h.1 h0),fun i hi=>by
   have:=wpOp_mono (fun a w=>C0n hq fuel _ a w) (h.2 i hi)
   have hl:LetsOut Q→LetsOut Q':=fun ⟨a,w,h⟩=>⟨a,w,hq _ _ _ h⟩
   unfold wpOp at *
   split
   ·rename_i ho;simpa only [ho] using this
   rename_i o ho
   simp only [ho] at this
   split
   ·rename_i hw;simp only [hw,Mo] at this;exact this.imp (Oper.wp_Q fun e a w _=>hq e a w) (fun ⟨h1,h2⟩=>⟨h1,hl h2⟩)
   rename_i hw;rw [Ab hw] at this;exact this⟩
variable {K : List KI}
theorem Oj (hm:P.follows .mixedOrders=true){id:Nat}(h:AW P B (fun a w=>post P Q K .normal a w) ops ops.size (Array.replicate ops.size false) s):GW P B Q (.code (.region id ops true)::K) s:=
 ⟨fun E a w hs=>wp_region_any hm (C0n (fun e a w he=>by cases e<;>first|exact he|exact he.elim) _ _ _ _ (h.out E a _ (hs.call (w':= {w with drawn:=w.drawn+1}) ⟨rfl,rfl,rfl,Bu _,fun _ _=>rfl⟩).is))⟩
theorem Oi (hr:(Region.ready .any ops listed).isEmpty=true)(h:GW P B Q K s):AW P B (fun a w=>post P Q K .normal a w) ops 0 listed s:=
 ⟨fun E a w hs=>⟨by simpa using hr,h.out E a w hs⟩⟩
def C3z (P:Program) (B:Er) (N:Act→World→Prop) (ops:Array Oper) (fuel:Nat) (listed:Array Bool) (s:AS):List Nat→Prop
 | []=>True
 |i::r=>(match ops[i]? with
  |some o=>GW P B QF [.ops false ops [o],.loop (fun a w=>wpAny P .any ops (QN N) fuel (listed.setIfInBounds i true) a w)] s
  |none=>False)∧C3z P B N ops fuel listed s r
theorem C03 {l:List Nat}(h:C3z P B N ops fuel listed s l){i:Nat}(hi:i∈l):
  ∃o,ops[i]? =some o∧GW P B QF [.ops false ops [o],.loop (fun a w=>wpAny P .any ops (QN N) fuel (listed.setIfInBounds i true) a w)] s:=by
 induction l with
 |nil=>simp at hi
 |cons j r ih=>
  obtain ⟨h1,h2⟩:=h
  rcases C7.1 hi with rfl|hi
  ·split at h1
   ·rename_i o ho;exact ⟨o,ho,h1⟩
   exact h1.elim
  exact ih h2 hi
def eqL (a b:List Nat):Bool:=
 match a,b with
 | [],[]=>true
 |x::a,y::b=>match Nat.beq x y with
  |true=>eqL a b
  |false=>false
 |_,_=>false
theorem C42 {a b:List Nat}(h:eqL a b=true):a=b:=by
 induction a generalizing b with
 |nil=>cases b<;>simp_all [eqL]
 |cons x a ih=>
  cases b with
  |nil=>simp [eqL] at h
  |cons y b=>
   unfold eqL at h
   split at h
   ·rename_i e;rw [F7 e,ih h]
   simp at h
theorem Au (l:List Nat)(hr:(eqL (Region.ready .any ops listed) l&&!l.isEmpty)=true)(h:C3z P B N ops fuel listed s l):AW P B N ops (fuel+1) listed s:=by
 simp only [Cj,Mp] at hr;have hr1:=C42 hr.1;refine ⟨fun E a w hs=>⟨fun h0=>?_,fun i hi=>?_⟩⟩
 ·rw [hr1] at h0
  rw [h0] at hr
  simp at hr
 rw [hr1] at hi;obtain ⟨o,ho,hg⟩:=C03 h hi
 have:=hg.out E a w hs
 change wpList P ops (Exit.then _ QF) [o] a w at this
 unfold wpList at this;unfold wpOp;simp only [ho]
 split
 ·rename_i hw
  rw [Ah hw] at this;refine .inl ?_
  rcases this with h1|⟨_,a',w',h1⟩
  ·exact Oper.wp_Q (fun e a w hne he=>by cases e<;>first|exact absurd rfl hne|exact he.elim) h1
  exact h1.elim
 rename_i hw
 rw [Ab hw] at this;exact this
theorem Aq (h:AW P B N ops fuel listed s):GW P B QF [.loop (fun a w=>wpAny P .any ops (QN N) fuel listed a w)] s:=
 ⟨fun E a w hs=>h.out E a w hs⟩
def A1t:Op→Bool
 | .move _=>true
 | .assign _=>true
 | .binOp _ _ _ _ _=>true
 | .fieldAddr _ _ _=>true
 | .nilCheck _=>true
 |_=>false
variable {ps : List Prop}
theorem B04 (hT:C0 P T){wr:Bool}{op:Op}{x:AV}(hp0:A1t op=true)(hs:Lk T wr s op= .ok ps x)(hp:∀p∈ps,p){E:Fl}{a:Act}{w:World}(h:s.is B E a w)(o:Oper)(ho:o.op=op):∃v,(∀w',(execOp a.eval o).run P w'= .ok (.value v) w')∧D0 E w (s.ag E) s.next x v:=by
 obtain ⟨dst,op',ty,pos,after,guard⟩:=o
 simp only at ho
 subst ho
 cases op'<;>simp only [A1t,T5] at hp0
 case move y=>
  simp only [Lk,Gn.ok.injEq] at hs;obtain ⟨rfl,rfl⟩:=hs;exact ⟨a.eval y,fun w'=>by simp [execOp],h.ev y⟩
 case assign y=>
  simp only [Lk,Gn.ok.injEq] at hs;obtain ⟨rfl,rfl⟩:=hs;exact ⟨a.eval y,fun w'=>by simp [execOp],h.ev y⟩
 case binOp b t y z g=>
  simp only [Lk] at hs;obtain ⟨r,h1,h2⟩:=C38 hT hs hp (h.ev y) (h.ev z) y z;refine ⟨r,fun w'=>?_,h2⟩;have h1:=h1 w';simp only [execOp,Sem.run_bind];simp only [Sem.run_bind] at h1;rw [h1];rfl
 case fieldAddr t y f=>
  simp only [Lk] at hs;have hy:=h.ev y
  split at hs
  ·rename_i o u hf
   split at hs
   ·rename_i k off hsz e
    obtain ⟨j,hj,hjs⟩:=E9.1 hsz;rw [e] at hy;simp only [Gn.ok.injEq] at hs;obtain ⟨rfl,rfl⟩:=hs;generalize hv:a.eval y=v at hy
    cases hy with
    |box _ hk=>exact ⟨_,fun w'=>by simp only [execOp,hv,Sem.run_bind,Mm hT hf hj (Cz hjs),Result.andThen_ok];rfl,.box _ hk⟩
   ·rename_i n es row j' off hsz e
    obtain ⟨j,hj,hjs⟩:=E9.1 hsz;rw [e] at hy;simp only [Gn.ok.injEq] at hs;obtain ⟨rfl,rfl⟩:=hs;generalize hv:a.eval y=v at hy
    cases hy with
    |el _ b o' cap hr h0 hi=>exact ⟨_,fun w'=>by simp only [execOp,hv,Sem.run_bind,Mm hT hf hj (Cz hjs),Result.andThen_ok];rfl,by rw [Wm];exact .el _ b o' cap hr h0 hi⟩
   ·rename_i k es j' off hsz e
    obtain ⟨j,hj,hjs⟩:=E9.1 hsz;rw [e] at hy;simp only [Gn.ok.injEq] at hs;obtain ⟨rfl,rfl⟩:=hs;generalize hv:a.eval y=v at hy
    cases hy with
    |oel _ b o' n cap hk hov h0 hi=>exact ⟨_,fun w'=>by simp only [execOp,hv,Sem.run_bind,Mm hT hf hj (Cz hjs),Result.andThen_ok];rfl,by rw [Wm];exact .oel _ b o' n cap hk hov h0 hi⟩
   simp at hs
  simp at hs
 case nilCheck y=>
  simp only [Lk] at hs;have hy:=h.ev y
  split at hs
  ·rename_i k off e
   rw [e] at hy;simp only [Gn.ok.injEq] at hs;obtain ⟨rfl,rfl⟩:=hs;generalize hv:a.eval y=v at hy
   cases hy with
   |box _ hk=>exact ⟨_,fun w'=>by simp only [execOp,hv];rfl,.box _ hk⟩
  ·rename_i n es row j off e
   rw [e] at hy;simp only [Gn.ok.injEq] at hs;obtain ⟨rfl,rfl⟩:=hs;generalize hv:a.eval y=v at hy
   cases hy with
   |el _ b o' cap hr h0 hi=>exact ⟨_,fun w'=>by simp only [execOp,hv];rfl,.el _ b o' cap hr h0 hi⟩
  ·rename_i k es j off e
   rw [e] at hy;simp only [Gn.ok.injEq] at hs;obtain ⟨rfl,rfl⟩:=hs;generalize hv:a.eval y=v at hy
   cases hy with
   |oel _ b o' n cap hk hov h0 hi=>exact ⟨_,fun w'=>by simp only [execOp,hv];rfl,.oel _ b o' n cap hk hov h0 hi⟩
  simp at hs
def D0k (ops:Array Oper) (listed:Array Bool) (i:Nat) (oi:Oper):Bool:=
 (List.range ops.size).all fun j=>j==i||listed.getD j true||match ops[j]? with
  |some oj=>(oj.after.toList.any fun e=>Region.binds .any e&&e.on==i)||oi.apart ops oj
  |none=>true
theorem C2u (hT:C0 P T)(wr:Bool)(i:Nat){o:Oper}(hi:ops[i]? =some o)(hg:o.guard=none)(hk:A1t o.op=true)(hb:(Region.noSelect ops&&(Region.ready .any ops listed).contains i&&D0k ops listed i o)=true){x:AV}(hst:Lk T wr s o.op= .ok ps x)(hp:∀p∈ps,p)(h:AW P B N ops fuel (listed.setIfInBounds i true) (s.put o.dst x)):AW P B N ops (fuel+1) listed s:=by
 simp only [Cj,Z6] at hb;obtain ⟨⟨h1,h2⟩,h3⟩:=hb;refine ⟨fun E a w hs=>?_⟩;obtain ⟨v,hv,hd⟩:=B04 hT hk hst hp hs o rfl;refine wpAny_first hi (Region.noSelect_spec h1) (fun c a w hq=>hq) fuel listed a w (fun j oj hoj hji hun hno=>?_) h2 (.inl ⟨by simp [Region.wanted,hg],hv⟩) (h.out E _ w (hs.put o.dst hd))
 have:=Ja.1 h3 j (Fk.2 (T2.1 hoj).1)
 simp only [hoj,hun,A2c,Yd,Rv,hji,false_or,Uv,Cj] at this
 rcases this with ⟨e,he,hb,hon⟩|h
 ·exact absurd hon (hno e (Uf.1 he) hb)
 exact h
def D1y (ps:List Prop):Prop:=
 match ps with
 | []=>True
 |p::r=>p∧D1y r
theorem Q7 (h:D1y ps):∀p∈ps,p:=by
 induction ps with
 |nil=>simp
 |cons q r ih=>
  intro p hp
  rcases C7.1 hp with rfl|hp
  ·exact h.1
  exact ih h.2 p hp
variable {f : FuncId} {xs : List AV} {dst : Option Tmp}
theorem Mg {q:Bool}(k:Nat)(c':Ad){c:Ad}(hk:Bm s.own k=some c)(hc:Kn c c')(h:CW P B Q q f xs dst K {s with own:=Jf s.own k c'}):CW P B Q q f xs dst K s:=by
 obtain ⟨h0,h⟩:=h;refine ⟨⟨h0,fun E a w hs vs hl hv=>?_⟩⟩;have hm:=Ca hk
 have av:∀b,({s with own:=Jf s.own k c'}:AS).ag E b→s.ag E b:=by
  rintro b (hb|⟨y,hy,hb⟩)
  ·exact .inl hb
  obtain ⟨z,hz,e⟩:=Ie hy;exact .inr ⟨z,hz,by rw [e];exact hb⟩
 have mv:∀x v,D0 E w (s.ag E) s.next x v→D0 E w (({s with own:=Jf s.own k c'}:AS).ag E) s.next x v:=fun x v hx=>
  hx.move (Bu _) (fun _ _=>⟨rfl,rfl⟩) (fun _ _ _=>rfl) (fun b _ hb=>av b hb)
 refine h E a w ⟨hs.defers,hs.ak,hs.size,fun i x hx=>mv _ _ (hs.ac i x hx),fun x hx=>?_,hs.boxes2,hs.keys,fun y hy=>?_,by rw [Yz];exact hs.ownkeys,fun y hy z hz hne=>?_,fun x hx y hy=>?_,hs.one,hs.base,fun b hb=>hs.fresh b (av b hb)⟩ vs hl (fun i x hx=>mv _ _ (hv i x hx))
 ·obtain ⟨h1,vs,ty,h2,h3,h4⟩:=hs.aw x hx
  exact ⟨h1,vs,ty,h2,h3,fun i y hy=>mv _ _ (h4 i y hy)⟩
 ·rcases X7 hy with ⟨h1,h2,_⟩|⟨h1,_⟩
  ·obtain ⟨g1,g2,g3⟩:=hs.own _ hm
   rw [h1,h2];exact ⟨g1,hc.own g2,g3⟩
  exact hs.own y h1
 ·obtain ⟨y',hy',e1⟩:=Ie hy
  obtain ⟨z',hz',e2⟩:=Ie hz;rw [←e1,←e2];exact hs.sep y' hy' z' hz' (by rw [e1,e2];exact hne)
 obtain ⟨y',hy',e1⟩:=Ie hy;rw [←e1];exact hs.sepB x hx y' hy'
def B2s {α:Type} (e:α→List Ad) (row:Nat→List Ad):Nat→List α→Prop
 |_,[]=>True
 |k,x::r=>row k=e x∧B2s e row (k+1) r
variable {α : Type} {row : Nat → List Ad}
theorem A3g [Inhabited α] {e:α→List Ad}:∀{k:Nat} {xs:List α},B2s e row k xs→∀i,i<xs.length→row (k+i)=e (xs.getD i default)
 |_,[],_,i,hi=>by simp at hi
 |k,x::r,h,0,_=>h.1
 |k,x::r,h,i+1,hi=>by
  have:=A3g h.2 i (by simpa using hi)
  rw [show k+(i+1)=k+1+i by omega]
  simpa using this
theorem Cc [Inhabited α] {n es:Nat}{e:α→List Ad}{xs:List α}(hn:n=xs.length)(h:B2s e row 0 xs):Kn (.sl n es row) (Mu es e xs):=by
 subst hn;refine B3s fun i hi=>?_
 have:=A3g h i hi
 rw [Rw] at this;rw [this];exact I5.rfl' _
theorem X6 (l:List Ow):Bb [] l=l:=by
 induction l with
 |nil=>rfl
 |cons x r ih=>exact A6 (x:: ·) ih
theorem A91 (s:AS):Qb [] s=s:=by
 obtain ⟨n,sl,bx,ow,lk⟩:=s;exact A6 (fun o=>AS.mk n sl bx o lk) (X6 ow)
theorem D2y {ins:List Hb}{ι:Type}{φ:ι→Prop}{ax:ι→List Hb}(hf:P1 P (fun _=>True) f [] [] ins φ ax)(hx:A2p s.own xs=some ins)(h:∀i,φ i→GW P B Q K ((Gi (ax i) s).2.put dst (Gi (ax i) s).1)):CW P B Q false f xs dst K s:=
 A4w [] hf (fun _ _=>trivial) (fun p hp=>by cases hp) trivial rfl (by
  rw [show Bb (([]:List AV).flatMap D5) s.own=s.own from X6 _];exact hx) (fun i hi=>by
  have:=h i hi
  rw [show Qb (([]:List AV).flatMap D5) s=s from A91 s]
  exact this)
theorem B89 (n:Nat)(h:GW P B Q K {s with next:=s.next+n}):GW P B Q K s:=by
 refine ⟨fun E a w hs=>?_⟩
 let E':Fl:=⟨fun k=>if k<s.next then E.ov k else .slice none 0 0,E.fp⟩
 have kE:∀k,k<s.next→E'.β k=E.β k∧E'.ov k=E.ov k:=fun k hk=>by
  have h:E'.ov k=E.ov k:=by simp [E',hk]
  exact ⟨Fl.β_of h,h⟩
 have kb:∀x∈s.aw,E'.β x.key=E.β x.key:=fun x hx=>(kE _ (hs.aw x hx).1).1
 have av:∀b,({s with next:=s.next+n}:AS).ag E' b→s.ag E b:=by
  rintro b (⟨x,hx,hb⟩|hb)
  ·exact .inl ⟨x,hx,by rw [←kb x hx];exact hb⟩
  exact .inr hb
 have mv:∀x v,D0 E w (s.ag E) s.next x v→D0 E' w (({s with next:=s.next+n}:AS).ag E') (s.next+n) x v:=fun x v hx=>
  hx.move (Uk _ _) kE (fun _ _ _=>rfl) (fun b _ hb=>av b hb)
 refine h.out E' a w ⟨hs.defers,fun p hp=>⟨Kk (hs.ak p hp).1 (Uk _ _),by rw [(kE _ (hs.ak p hp).1).2];exact (hs.ak p hp).2⟩,hs.size,fun i x hx=>mv _ _ (hs.ac i x hx),fun x hx=>?_,fun x hx y hy e=>hs.boxes2 x hx y hy (by rw [←kb x hx,←kb y hy];exact e),hs.keys,fun y hy=>?_,hs.ownkeys,hs.sep,fun x hx y hy=>?_,fun k _=>?_,hs.base,fun b hb=>hs.fresh b (av b hb)⟩
 ·obtain ⟨h1,vs,ty,h2,h3,h4⟩:=hs.aw x hx
  exact ⟨Kk h1 (Uk _ _),vs,ty,by rw [kb x hx];exact h2,h3,fun i y hy=>mv _ _ (h4 i y hy)⟩
 ·obtain ⟨h1,h2,h3⟩:=hs.own y hy
  exact ⟨Kk h1 (Uk _ _),by rw [(kE _ h1).2];exact h2,h3⟩
 ·rw [kb x hx]
  exact hs.sepB x hx y hy
 simp only [E']
 split
 ·rename_i hk;exact hs.one k hk
 rfl
def A64 {α:Type} (e:α→List Ad) (row:Nat→List Ad):Nat→List α→Prop
 |_,[]=>True
 |k,x::r=>I5 (row k) (e x)∧A64 e row (k+1) r
theorem A0t [Inhabited α] {e:α→List Ad}:∀{k:Nat} {xs:List α},A64 e row k xs→∀i,i<xs.length→I5 (row (k+i)) (e (xs.getD i default))
 |_,[],_,i,hi=>by simp at hi
 |k,x::r,h,0,_=>h.1
 |k,x::r,h,i+1,hi=>by
  have:=A0t h.2 i (by simpa using hi)
  rw [show k+(i+1)=k+1+i by omega]
  simpa using this
theorem Nw [Inhabited α] {n es:Nat}{e:α→List Ad}{xs:List α}(hn:n=xs.length)(h:A64 e row 0 xs):Kn (.sl n es row) (Mu es e xs):=by
 subst hn;refine B3s fun i hi=>?_
 have:=A0t h i hi
 rwa [Rw] at this
theorem C4c {H:World→Prop}{pins:List (Ad×Value)}{ins:List Hb}{ι:Type}{φ:ι→Prop}{ax:ι→List Hb}(hf:P1 P H f pins [] ins φ ax)(hH:∀w,B.rel w→H w)(hp:Ln B pins)(hx:A2p s.own xs=some ins)(h:∀i,φ i→GW P B Q K ((Gi (ax i) s).2.put dst (Gi (ax i) s).1)):CW P B Q false f xs dst K s:=
 A4w [] hf hH hp trivial rfl (by
  rw [show Bb (([]:List AV).flatMap D5) s.own=s.own from X6 _];exact hx) (fun i hi=>by
  have:=h i hi
  rw [show Qb (([]:List AV).flatMap D5) s=s from A91 s]
  exact this)
theorem Zy {p:α→Prop}:∀(xs:List α) (k:Nat) (d:α),(∀x∈xs,p x)→p d→p (xs.getD k d)
 | [],_,_,_,hd=>hd
 |x::_,0,_,h,_=>h x Ef
 |_::r,k+1,d,h,hd=>by simpa using Zy r k d (fun y hy=>h y (Cq _ hy)) hd
end Go.Sx
set_option maxRecDepth 100000
namespace Go.Sx
open Go
open Go.RowKit (Below)
variable {P : Program} {T : List (TypeId × TI)}
variable {B : Er} {H : World → Prop} {Q : Exit → Act → World → Prop} {q : Bool} {f : FuncId} {xs : List AV} {dst : Option Tmp} {K : List KI} {s : AS} {ins : List Hb} {ax : List Hb}
theorem C1a (hf:Ex P H f ins ax)(hH:∀w,B.rel w→H w)(hx:Ir s xs=some ins)(h:G P B Q K ((Gi ax s).2.put dst (Gi ax s).1)):A2i P B Q q f xs dst K s:=by
 refine ⟨hf.1,fun E a w hs vs hl hv=>?_⟩;obtain ⟨h1,h2⟩:=Is hx;refine (hf.2 w (hH w hs.base) vs A7 (fun i x hi=>?_)).mono (fun e w' hg=>?_)
 ·obtain ⟨y,hy,hc⟩:=h2 i x hi
  exact K4 hs hc (hv i y hy)
 obtain ⟨hb,rs,fps,rfl,hrl,hro,hfr,hdis⟩:=hg;have hA:=hs.call hb
 obtain ⟨E',hAd,hL,hD⟩:=M6 ax rs fps s E hA hrl hro (fun i hi=>(hfr i hi).1) hdis (fun i hi b hb'=>by
  have hge:=(hfr i hi).2 b hb';refine ⟨.inr hge,fun hav=>?_,.inl (G0 hs.base.size hge)⟩
  have:=hs.avoid_lt hav
  omega)
 have hres:=G7 ax (Do ax s).1 rs hrl hL hD;rw [Sg] at h;exact ⟨_,rfl,fun _=> .of_below hb,h E' _ w' ((hAd.isA.put dst hres).is)⟩
theorem C4g (hf:Ex P H f ins ax)(hH:∀w,B.rel w→H w)(hx:Ir s xs=some ins)(h:G P B Q K (s.put dst (Pi ax))):A2i P B Q q f xs dst K s:=by
 refine ⟨hf.1,fun E a w hs vs hl hv=>?_⟩;obtain ⟨h1,h2⟩:=Is hx;refine (hf.2 w (hH w hs.base) vs A7 (fun i x hi=>?_)).mono (fun e w' hg=>?_)
 ·obtain ⟨y,hy,hc⟩:=h2 i x hi
  exact K4 hs hc (hv i y hy)
 obtain ⟨hb,rs,fps,rfl,hrl,hro,hfr,hdis⟩:=hg;have hI:=(hs.call hb).is
 have hno:∀i,i<ax.length→∀b∈fps i,¬ s.ag E b:=fun i hi b hb' hav=>by
  have:=hs.avoid_lt hav
  have:=(hfr i hi).2 b hb'
  omega
 have hone:∀i y,ax[i]? =some y→D0 E w' (s.ag E) s.next (Lb y) (rs.getD i undef):=by
  intro i y hy;have hi:i<ax.length:=(Cu.1 hy).1;have ho:=hro i y hy
  cases y with
  |one c=>exact .c (Bz.rep ho (hno i hi))
  |agg cs=>
   obtain ⟨us,gps,hu,hul,hur,hfp⟩:=ho;rw [hu];refine .agg us (by simp [hul]) (fun j x hj=>?_);simp only [Ec,E9] at hj;obtain ⟨c,hc,rfl⟩:=hj;have hj:j<cs.length:=(Cu.1 hc).1;exact .c ((hur j c hc).rep (fun b hb'=>hno i hi b (by rw [hfp];exact Dp hj hb')))
  |ptr cs=>exact ho.elim
  |fn f ao=>exact ho.elim
 have hres:D0 E w' (s.ag E) s.next (Pi ax) (J6 rs):=by
  have:=G7 (E:=E) (A:=s.ag E) (N:=s.next) (w:=w') ax (ax.map Lb) rs hrl Ef (fun i x hi=>by
   simp only [Ec,E9] at hi;obtain ⟨y,hy,rfl⟩:=hi
   exact hone i y hy)
  match ax,this with
  | [],this=>exact this
  | [o],this=>exact this
  |o1::o2::r,this=>exact this
 exact ⟨_,rfl,fun _=> .of_below hb,h E _ w' (hI.put dst hres)⟩
theorem B60 (hf:Ex P H f ins ax)(hH:∀w,B.rel w→H w)(hx:Ir s xs=some ins)(h:GW P B Q K ((Gi ax s).2.put dst (Gi ax s).1)):CW P B Q q f xs dst K s:=⟨C1a hf hH hx (h.rec id)⟩
theorem D0y (hf:Ex P H f ins ax)(hH:∀w,B.rel w→H w)(hx:Ir s xs=some ins)(h:GW P B Q K (s.put dst (Pi ax))):CW P B Q q f xs dst K s:=⟨C4g hf hH hx (h.rec id)⟩
theorem C8h (hT:C0 P T)(wr:Bool){fn:Func}{c:Code}{n es:Nat}{row:Nat→List Ad}(hf:P.funcs[f]? =some fn)(hb:fn.body=some c)(hn:(fn.name== "runtime.NumGoroutine")=false)(h:∀W,H W→∀a cp,Ln ⟨W,fun _=>False⟩ [(.sl n es row,.slice a n cp)]→vcW P ⟨W,fun _=>False⟩ (bodyPost P fn fun e w'=>Jp W w' ax e) (P7 T wr 100000 [.code c] (Dg fn.ntmps [.one (.val (.slice a n cp))]))):Ex P H f [.one (.sl n es row)] ax:=by
 refine ⟨⟨fn,hf,hn,by simp [hb]⟩,fun w hHw vs hl hv=>?_⟩;have h0:Qz w (fun _=>False) (.sl n es row) (vs.getD 0 undef):=hv 0 _ rfl
 have hs:∃a cp,vs.getD 0 undef= .slice a n cp:=by
  generalize vs.getD 0 undef=v at h0
  cases h0 with
  |nil=>exact ⟨_,_,rfl⟩
  |emp=>exact ⟨_,_,rfl⟩
  |sl=>exact ⟨_,_,rfl⟩
 obtain ⟨a,cp,he⟩:=hs
 have hpin:Ln ⟨w,fun _=>False⟩ [(.sl n es row,.slice a n cp)]:=fun p hp=>by
  simp only [Hh] at hp;subst hp;rw [←he];exact h0
 have hm:Ex P (fun w'=>H w'∧Ln ⟨w',fun _=>False⟩ [(.sl n es row,.slice a n cp)]) f [.one (.val (.slice a n cp))] ax:=
  Kq hT wr hf hb hn fun W hW=>h W hW.1 a cp hW.2
 refine hm.2 w ⟨hHw,hpin⟩ vs (by simpa using hl) (fun i x hi=>?_)
 match i,hi with
 | 0,hi=>
  simp only [H3,Em] at hi;subst hi;rw [he];exact .val _ rfl
end Go.Sx
set_option maxRecDepth 100000
namespace Go.Sx
open Go
open Go.RowKit (Below)
variable {P : Program} {T : List (TypeId × TI)} {ops : Array Oper}
inductive FK where
 |emp (es:Nat)
 |rd (v:Value)
 |ra (vs:List Value)
structure Flt where
 i:Nat
 d:Tmp
 k:FK
def B9z (T:List (TypeId×TI)) (op:Op):Bool:=
 match op with
 | .buildSlice t 0 ps=>ps.isEmpty&&match find T t with
  |some i=>match i.elem with
   |some e=>(find T e).isSome
   |none=>false
  |none=>false
 |_=>false
variable {o : Oper}
theorem C8d (hT:C0 P T)(h:B9z T o.op=true)(ρ:Operand→Value)(w:World):∃ob,(execOp ρ o).run P w= .ok (.value (.slice (some ⟨w.heap.size,0,none⟩) 0 0)) (w.alloc ob):=by
 obtain ⟨dst,op,ty,pos,after,guard⟩:=o
 simp only at h
 unfold B9z at h
 split at h
 ·rename_i t ps
  simp only [Cj] at h;obtain ⟨h1,h2⟩:=h
  split at h2
  ·rename_i i hi
   split at h2
   ·rename_i e he
    obtain ⟨j,hj⟩:=A73.1 h2;have hps:ps= #[]:=by simpa using h1
    subst hps;refine ⟨.cells #[] e,?_⟩
    have hrun:(Instr.buildSlice t 0 ((#[]:Array (Nat×Operand)).map fun p=>(p.1,ρ p.2))).run P w= .ok (.slice (some ⟨w.heap.size,0,none⟩) 0 0) (w.alloc (.cells #[] e)):=by
     simp [Instr.buildSlice,run_underlying (C1 (hT t i hi) he),B9 (hT e j hj),newRow,Array.range_zero',Instr.fill]
    simp only [execOp,Sem.run_bind,hrun,Result.andThen_ok];rfl
   simp at h2
  simp at h2
 simp at h
def D18 (v:Value):Prop:=∃b,v= .slice (some ⟨b,0,none⟩) 0 0
def isF (k:FK) (v:Value):Prop:=
 match k with
 | .emp _=>D18 v
 | .rd x=>v=x
 | .ra xs=>v= .agg xs.toArray
def C7v (fs:List Flt) (u:List Nat) (a:Act):Prop:=∀f∈fs,f.i∉u→isF f.k (a.tmps.getD f.d undef)
inductive FW (P:Program) (B:Er) (N:Act→World→Prop) (ops:Array Oper) (chain:List Nat) (fs:List Flt) (s:AS):Prop
 |mk (h:∀fuel listed u E a w,s.is B E a w→chain.length+u.length≤fuel→u.Nodup→
   (∀j o,ops[j]? =some o→listed.getD j false=false→j∈chain∨j∈u)→(∀c∈chain,listed.getD c true=false)→(∀j∈u,listed.getD j true=false)→
   (∀j∈u,∃f∈fs,f.i=j)→C7v fs u a→R3 P ops N fuel listed a w):FW P B N ops chain fs s
variable {B : Er} {N : Act → World → Prop} {chain : List Nat} {fs : List Flt} {s : AS}
theorem FW.out (h:FW P B N ops chain fs s):∀fuel listed u E a w,s.is B E a w→chain.length+u.length≤fuel→u.Nodup→
   (∀j o,ops[j]? =some o→listed.getD j false=false→j∈chain∨j∈u)→(∀c∈chain,listed.getD c true=false)→(∀j∈u,listed.getD j true=false)→
   (∀j∈u,∃f∈fs,f.i=j)→C7v fs u a→R3 P ops N fuel listed a w:=h.rec fun h=>h
def B9f (ops:Array Oper) (l:List Edge) (bad:Nat→Bool):Bool:=l.all fun e=>!Region.binds .any e||(Nat.blt e.on ops.size&&!bad e.on)
def B9h (T:List (TypeId×TI)) (ops:Array Oper) (chain:List Nat) (fs:List Flt) (s:AS) (f:Flt):Bool:=
 match ops[f.i]? with
 |some o=>o.guard.isNone&&(match o.dst with|some d=>Nat.beq d f.d|none=>false)&&(match f.k with| .emp _=>B9z T o.op|_=>true)&&B9f ops o.after.toList (fun k=>chain.contains k||fs.any fun g=>Nat.beq g.i k)&&
   !chain.contains f.i&&(fs.all fun g=>Nat.beq g.i f.i||!Nat.beq g.d f.d)&&Nat.blt f.d s.ac.length&&(match I4 s.ac f.d with| .any=>true|_=>false)
 |none=>false
def Qc (T:List (TypeId×TI)) (ops:Array Oper) (chain:List Nat) (fs:List Flt) (s:AS):Bool:=fs.all (B9h T ops chain fs s)&&Gl (fs.map (·.i))
theorem A5h (h:Qc T ops chain fs s=true):fs.all (B9h T ops chain fs s)=true:=by
 simp only [Qc,Cj] at h;exact h.1
theorem B7d (h:Qc T ops chain fs s=true):∀g∈fs,∀f∈fs,g≠f→g.i≠f.i:=by
 simp only [Qc,Cj] at h;have hn:=Eu h.2;intro g hg f hf hne e;obtain ⟨i,hi,rfl⟩:=Po hg;obtain ⟨j,hj,rfl⟩:=Po hf
 by_cases hij:i=j
 ·subst hij;exact hne rfl
 have h1:=Ry.1 hn
 rcases Uh hij with hl|hl
 ·exact h1 i j (by simpa using hi) (by simpa using hj) hl (by simpa using e)
 exact h1 j i (by simpa using hj) (by simpa using hi) hl (by simpa using e.symm)
structure D1x (T:List (TypeId×TI)) (ops:Array Oper) (chain:List Nat) (fs:List Flt) (s:AS) (f:Flt) (o:Oper):Prop where
 get:ops[f.i]? =some o
 guard:o.guard=none
 dst:o.dst=some f.d
 emp:(match f.k with| .emp _=>B9z T o.op|_=>true)=true
 edges:∀e∈o.after,Region.binds .any e=true→e.on<ops.size∧e.on∉chain∧∀g∈fs,g.i≠e.on
 out:f.i∉chain
 apart:∀g∈fs,g.i≠f.i→g.d≠f.d
 lt:f.d<s.ac.length
 any:I4 s.ac f.d= .any
variable {f : Flt}
theorem Nx (h:B9h T ops chain fs s f=true):∃o,D1x T ops chain fs s f o:=by
 unfold B9h at h
 split at h
 ·rename_i o ho
  simp only [Cj] at h;obtain ⟨⟨⟨⟨⟨⟨⟨h1,h2⟩,h3⟩,h4⟩,h5⟩,h6⟩,h7⟩,h8⟩:=h;refine ⟨o,ho,by simpa using h1,?_,h3,fun e he hb=>?_,by simpa using h5,fun g hg hne=>?_,Cz h7,?_⟩
  ·split at h2
   ·rename_i d hd;rw [hd,F7 h2]
   simp at h2
  ·have:=Ja.1 h4 e (Uf.2 he)
   simp only [hb,Bool.not_true,Zb,Cj,Mp,Bool.or_eq_false_iff,A2d] at this;obtain ⟨k1,k2,k3⟩:=this;refine ⟨by have:=Cz k1;omega,by simpa using k2,fun g hg e=>k3 g hg (by simp [e])⟩
  ·have:=Ja.1 h6 g hg
   simp only [Yd,Mp] at this
   rcases this with h|h
   ·exact absurd (F7 h) hne
   intro e;rw [e] at h
   simp at h
  split at h8
  ·assumption
  simp at h8
 simp at h
def Y6 (T:List (TypeId×TI)) (ops:Array Oper) (s:AS) (fs:List Flt):Prop:=
 match fs with
 | []=>True
 |f::r=>(match f.k with
  | .emp _=>True
  | .rd v=>∃o,ops[f.i]? =some o∧Lk T false s o.op= .ok [] (.v v)∧J5 [v]=true
  | .ra vs=>∃o,ops[f.i]? =some o∧Lk T false s o.op= .ok [] (.agg (vs.map AV.v))∧∀v∈vs,J5 [v]=true)∧Y6 T ops s r
variable {v : Value}
theorem B0w (h:Y6 T ops s fs)(hf:f∈fs)(hk:f.k= .rd v)(ho:ops[f.i]? =some o):Lk T false s o.op= .ok [] (.v v)∧J5 [v]=true:=by
 induction fs with
 |nil=>simp at hf
 |cons g r ih=>
  rcases C7.1 hf with rfl|hf
  ·have h1:=h.1
   rw [hk] at h1;obtain ⟨o',h2,h3⟩:=h1;rw [ho] at h2;obtain rfl:=Bv h2;exact h3
  exact ih h.2 hf
variable {vs : List Value}
theorem A6y (h:Y6 T ops s fs)(hf:f∈fs)(hk:f.k= .ra vs)(ho:ops[f.i]? =some o):Lk T false s o.op= .ok [] (.agg (vs.map AV.v))∧∀v∈vs,J5 [v]=true:=by
 induction fs with
 |nil=>simp at hf
 |cons g r ih=>
  rcases C7.1 hf with rfl|hf
  ·have h1:=h.1
   rw [hk] at h1;obtain ⟨o',h2,h3⟩:=h1;rw [ho] at h2;obtain rfl:=Bv h2;exact h3
  exact ih h.2 hf
variable {E : Fl} {w : World}
theorem C4s {A:Nat→Prop}{N:Nat}(h:D0 E w A N (.agg (vs.map AV.v)) v):v= .agg vs.toArray:=by
 cases h with
 |agg us hl hu=>
  have:us=vs:=by
   apply List.ext_getElem
   ·simpa using hl
   intro i h1 h2
   have:=hu i (.v vs[i]) (by simp [h2])
   have:=B3 this
   simpa [List.getD,h1] using this
  rw [this]
theorem B8h {l:List AV}{i:Nat}(h:I4 l i= .any):Cd l i .any=l:=by
 induction l generalizing i with
 |nil=>rfl
 |cons x r ih=>cases i with
  |zero=>simp only [I4] at h;simp [Cd,h]
  |succ i=>simp only [I4] at h;simp [Cd,ih h]
variable {a : Act} {d : Tmp}
theorem AS.is.putAny (h:s.is B E a w)(hd:I4 s.ac d= .any)(v:Value):s.is B E (a.put (some d) v) w:=by
 have:=h.put (some d) (x:= .any) (v:=v) (.any v)
 have e:s.put (some d) .any=s:=by simp only [AS.put,B8h hd]
 rwa [e] at this
theorem C5b (h:d<a.tmps.size):(a.put (some d) v).tmps.getD d undef=v:=by
 simp [Act.put,Array.getD,Z3,h]
theorem A2w {d':Tmp}(h:d≠d'):(a.put (some d) v).tmps.getD d' undef=a.tmps.getD d' undef:=by
 simp only [Act.put,Array.getD,Z3]
 by_cases h':d'<a.tmps.size
 ·simp [h',h]
 simp [h']
theorem Zz {l:Array Bool}{j:Nat}(h:l.getD j true=false):l.getD j false=false:=by
 by_cases hj:j<l.size
 ·simp only [Array.getD,hj,dite_true] at h ⊢;exact h
 simp [Array.getD,hj]
variable {fuel : Nat} {listed : Array Bool}
theorem A5g (hT:C0 P T)(hF:Qc T ops chain fs s=true)(hR:Y6 T ops s fs)(ih:∀listed u E a w,s.is B E a w→chain.length+u.length≤fuel→u.Nodup→
   (∀j o,ops[j]? =some o→listed.getD j false=false→j∈chain∨j∈u)→(∀c∈chain,listed.getD c true=false)→(∀j∈u,listed.getD j true=false)→
   (∀j∈u,∃f∈fs,f.i=j)→C7v fs u a→R3 P ops N fuel listed a w){u:List Nat}(hs:s.is B E a w)(hl:chain.length+u.length≤fuel+1)(hnd:u.Nodup)(hun:∀j o,ops[j]? =some o→listed.getD j false=false→j∈chain∨j∈u)(hch:∀c∈chain,listed.getD c true=false)(hul:∀j∈u,listed.getD j true=false)(huf:∀j∈u,∃f∈fs,f.i=j)(hI:C7v fs u a){j:Nat}(hj:j∈u):opM P ops j (R3 P ops N fuel (listed.setIfInBounds j true)) a w:=by
 obtain ⟨f,hf,rfl⟩:=huf j hj;have hD:=B7d hF;have hF:=A5h hF;obtain ⟨o,O⟩:=Nx (Ja.1 hF f hf)
 have hrun:∃v w',(execOp a.eval o).run P w= .ok (.value v) w'∧Below w.heap.size w w'∧isF f.k v:=by
  have hemp:=O.emp
  cases hk:f.k with
  |emp es=>
   rw [hk] at hemp;obtain ⟨ob,hrun⟩:=C8d hT hemp a.eval w;exact ⟨_,_,hrun,Jc w ob,⟨_,rfl⟩⟩
  |rd x=>
   obtain ⟨v,h1,h2⟩:=A00 hT (B0w hR hf hk O.get).1 (fun p hp=>by cases hp) hs o rfl
   have:=B3 h2
   subst this;exact ⟨_,_,h1 w (Ed.refl w),Below.refl _ _,rfl⟩
  |ra xs=>
   obtain ⟨v,h1,h2⟩:=A00 hT (A6y hR hf hk O.get).1 (fun p hp=>by cases hp) hs o rfl
   have:=C4s h2
   subst this;exact ⟨_,_,h1 w (Ed.refl w),Below.refl _ _,rfl⟩
 obtain ⟨v,w',hrun,hbel,hv⟩:=hrun;unfold opM;simp only [O.get];have hw:Region.wanted o (yielded ops a.tmps)=true:=by simp [Region.wanted,O.guard]
 simp only [hw,Mo];unfold Kp;rw [hrun];refine ⟨fun _=>Ed.of_below hbel,?_⟩
 rw [O.dst];have hs':=((hs.call hbel).is).putAny O.any v;have hsz:f.d<a.tmps.size:=by rw [hs.size];exact O.lt
 refine ih _ (u.erase f.i) E _ _ hs' (by rw [List.length_erase_of_mem hj];have:=List.length_pos_of_mem hj;omega) (hnd.erase _) (fun k o' ho' hk=>?_) (fun c hc=>?_) (fun k hk=>?_) (fun k hk=>huf k (List.mem_of_mem_erase hk)) (fun g hg hgu=>?_)
 ·by_cases e:f.i=k
  ·subst e
   have hlt:f.i<listed.size:=by
    have:=hul _ hj
    by_cases h:f.i<listed.size
    ·exact h
    simp [Array.getD,h] at this
   simp [Array.getD,hlt] at hk
  rw [Zc false e] at hk;refine (hun k o' ho' hk).imp id fun h=>?_;exact (List.mem_erase_of_ne (Ne.symm e)).2 h
 ·have e:f.i≠c:=fun e=>O.out (e▸hc)
  rw [Zc true e];exact hch c hc
 ·have e:f.i≠k:=fun e=>by subst e;exact (List.Nodup.mem_erase_iff hnd).1 hk |>.1 rfl
  rw [Zc true e];exact hul k (List.mem_of_mem_erase hk)
 by_cases e:g.i=f.i
 ·by_cases hgf:g=f
  ·subst hgf
   rw [C5b hsz];exact hv
  exact absurd e (hD g hg f hf hgf)
 have hne:=O.apart g hg e;rw [A2w (Ne.symm hne)];refine hI g hg fun h=>hgu ((List.mem_erase_of_ne e).2 h)
theorem Lt (hT:C0 P T)(hF:Qc T ops [] fs s=true)(hR:Y6 T ops s fs)(h:∀E a w,s.is B E a w→N a w):FW P B N ops [] fs s:=by
 refine ⟨fun fuel=>?_⟩
 induction fuel with
 |zero=>
  intro listed u E a w hs hl _ hun _ _ _ _;have hu:u=[]:=Pk (by simpa using hl);subst hu;refine ⟨?_,h E a w hs⟩
  match hr:Region.ready .any ops listed with
  | []=>rfl
  |i::r=>
   obtain ⟨h1,o,ho,_⟩:=mem_ready.1 (show i∈Region.ready .any ops listed by rw [hr];simp)
   rcases hun i o ho (Zz h1) with h|h<;>simp at h
 |succ fuel ih=>
  intro listed u E a w hs hl hnd hun hch hul huf hI;refine ⟨fun _=>h E a w hs,fun i hi=>?_⟩
  obtain ⟨h1,o,ho,_⟩:=mem_ready.1 hi
  have hiu:i∈u:=by
   rcases hun i o ho (Zz h1) with h|h
   ·simp at h
   exact h
  exact A5g hT hF hR ih hs hl hnd hun hch hul huf hI hiu
def Tv (o:Oper) (fs:List Flt):List Flt:=fs.filter fun f=>o.after.toList.any fun e=>Region.binds .any e&&Nat.beq e.on f.i
def X9 (o:Oper) (fs:List Flt):List Flt:=fs.filter fun f=>!o.after.toList.any fun e=>Region.binds .any e&&Nat.beq e.on f.i
def A4p (f:Flt) (s:AS):AS:=
 match f.k with
 | .emp es=> {s with ac:=Cd s.ac f.d (.own s.next),own:=⟨s.next,.sl 0 es fun _=>[]⟩::s.own,next:=s.next+1}
 | .rd v=> {s with ac:=Cd s.ac f.d (.v v)}
 | .ra vs=> {s with ac:=Cd s.ac f.d (.agg (vs.map AV.v))}
def A2n (fs:List Flt) (s:AS):AS:=
 match fs with
 | []=>s
 |f::r=>A2n r (A4p f s)
theorem A6w (hsz:d<a.tmps.size)(hv:a.tmps.getD d undef=v):a.put (some d) v=a:=by
 have:a.tmps.setIfInBounds d v=a.tmps:=by
  apply Array.ext
  ·rw [Z3]
  intro i h1 h2;rw [B3a]
  split
  ·rename_i e
   subst e;rw [←hv]
   simp [Array.getD,hsz]
  rfl
 show ({a with tmps:=a.tmps.setIfInBounds d v}:Act)=a
 rw [this]
theorem B1e (f:Flt)(s:AS):(A4p f s).ac.length=s.ac.length:=by
 unfold A4p
 split<;>simp [Bj]
theorem C02 (h:s.is B E a w)(hd:f.d<s.ac.length)(h1:∀v,f.k= .rd v→v.oneCell'=true)(h2:∀vs,f.k= .ra vs→∀v∈vs,v.oneCell'=true)(hv:isF f.k (a.tmps.getD f.d undef)):∃E',(A4p f s).is B E' a w:=by
 have hsz:f.d<a.tmps.size:=by rw [h.size];exact hd
 unfold A4p
 cases hk:f.k with
 |emp es=>
  rw [hk] at hv;obtain ⟨b,hv⟩:=hv;have hI:s.isA B E (s.ag E) a w:=⟨h.defers,h.ak,h.size,h.ac,h.aw,h.boxes2,h.keys,h.own,h.ownkeys,h.sep,h.sepB,h.one,h.base,h.fresh,fun _ h=>h⟩
  obtain ⟨k1,k2⟩:=hI.addOwn (.emp es (fun _=>[]) b 0) Ef Ef;refine ⟨E.withOwn s.next (.slice (some ⟨b,0,none⟩) 0 0) [],?_⟩
  have:=((k1.put (some f.d) (x:= .own s.next) (v:= .slice (some ⟨b,0,none⟩) 0 0) k2).is)
  rw [A6w hsz hv] at this;exact this
 |rd v=>
  rw [hk] at hv;refine ⟨E,?_⟩
  have:=h.put (some f.d) (x:= .v v) (v:=v) (.c (.val v (h1 v hk)))
  rw [A6w hsz hv] at this;exact this
 |ra vs=>
  rw [hk] at hv;refine ⟨E,?_⟩
  have:=h.put (some f.d) (x:= .agg (vs.map AV.v)) (v:= .agg vs.toArray) (.agg vs Ef (fun i x hx=>by
   simp only [Ec,E9] at hx;obtain ⟨v,hv,rfl⟩:=hx;have e:vs.getD i undef=v:=by simp [List.getD,hv]
   rw [e]
   exact .c (.val v (h2 vs hk v (Hr hv)))))
  rw [A6w hsz hv] at this;exact this
theorem B3m:∀(fs:List Flt) {s:AS} {E:Fl},s.is B E a w→(∀f∈fs,f.d<s.ac.length)→(∀f∈fs,∀v,f.k= .rd v→v.oneCell'=true)→(∀f∈fs,∀vs,f.k= .ra vs→∀v∈vs,v.oneCell'=true)→(∀f∈fs,isF f.k (a.tmps.getD f.d undef))→∃E',(A2n fs s).is B E' a w
 | [],_,E,h,_,_,_,_=>⟨E,h⟩
 |f::r,s,E,h,hd,h1,h3,hv=>by
  obtain ⟨E1,h2⟩:=C02 h (hd f Ef) (h1 f Ef) (h3 f Ef) (hv f Ef)
  exact B3m r h2 (fun g hg=>by
   rw [B1e]
   exact hd g (Cq _ hg)) (fun g hg=>h1 g (Cq _ hg)) (fun g hg=>h3 g (Cq _ hg)) (fun g hg=>hv g (Cq _ hg))
def Va (ops:Array Oper) (chain:List Nat) (fs:List Flt) (o:Oper):Bool:=
 B9f ops o.after.toList (fun j=>chain.contains j)&&fs.all fun f=>match o.dst with|some d=>!Nat.beq d f.d|none=>true
def A17 (ops:Array Oper) (chain cands:List Nat):Bool:=
 Gl chain&&(cands.all fun k=>chain.contains k)&&!cands.isEmpty&&chain.all fun c=>cands.contains c||match ops[c]? with
  |some oc=>oc.after.toList.any fun e=>Region.binds .any e&&chain.contains e.on
  |none=>false
def D2t (P:Program) (B:Er) (N:Act→World→Prop) (ops:Array Oper) (chain:List Nat) (fs:List Flt) (s:AS) (i:Nat):Prop:=
 ∃o s',ops[i]? =some o∧Va ops chain fs o=true∧GW P B QF [.ops true ops [o],.loop (fun a w=>∃E,s'.is B E a w)] (A2n (Tv o fs) s)∧FW P B N ops (chain.erase i) (X9 o fs) s'
theorem C7a (hT:C0 P T){cands:List Nat}(hF0:Qc T ops chain fs s=true)(hW:A17 ops chain cands=true)(hR:Y6 T ops s fs)(hS:∀i∈cands,D2t P B N ops chain fs s i):FW P B N ops chain fs s:=by
 have hF:=A5h hF0;unfold A17 at hW;simp only [Cj] at hW;obtain ⟨⟨⟨w1,w2⟩,w3⟩,w4⟩:=hW;have wnd:=Eu w1;have wmem:∀k∈cands,k∈chain:=fun k hk=>by simpa using List.all_eq_true.1 w2 k hk
 refine ⟨fun fuel=>?_⟩
 have hne:∃k,k∈cands:=by
  cases hc:cands with
  |nil=>rw [hc] at w3;simp at w3
  |cons k r=>exact ⟨k,by simp⟩
 obtain ⟨k0,hk0⟩:=hne;have hlen:1≤chain.length:=List.length_pos_of_mem (wmem k0 hk0)
 induction fuel with
 |zero=>intro listed u E a w _ hl;omega
 |succ fuel ih=>
  intro listed u E a w hs hl hnd hun hch hul huf hI;refine ⟨fun h0=>?_,fun i hi=>?_⟩
  ·exfalso
   match u,hul,huf,hun with
   | [],_,_,hun=>
    obtain ⟨o,_,ho,hc,_⟩:=hS k0 hk0;simp only [Va,Cj] at hc
    have:k0∈Region.ready .any ops listed:=by
     refine mem_ready.2 ⟨hch k0 (wmem k0 hk0),o,ho,fun e he hb=>?_⟩
     have:=Ja.1 hc.1 e (Uf.2 he)
     simp only [hb,Bool.not_true,Zb,Cj,Mp] at this;have hlt:e.on<ops.size:=Cz this.1;refine Classical.byContradiction fun hne=>?_;have hne:listed.getD e.on false=false:=by simpa using hne
     rcases hun e.on _ (Se hlt) hne with h|h
     ·exact absurd h (by simpa using this.2)
     simp at h
    rw [h0] at this
    cases this
   |j::u',hul,huf,hun=>
    obtain ⟨f,hf,rfl⟩:=huf j Ef;obtain ⟨of,O⟩:=Nx (Ja.1 hF f hf)
    have:f.i∈Region.ready .any ops listed:=by
     refine mem_ready.2 ⟨hul f.i Ef,of,O.get,fun e he hb=>?_⟩;obtain ⟨h1,h2,h3⟩:=O.edges e he hb;refine Classical.byContradiction fun hne=>?_;have hne:listed.getD e.on false=false:=by simpa using hne
     rcases hun e.on _ (Se h1) hne with h|h
     ·exact h2 h
     obtain ⟨g,hg,e⟩:=huf _ h;exact h3 g hg e
    rw [h0] at this
    cases this
  obtain ⟨h1,oi,hoi,hall⟩:=mem_ready.1 hi
  rcases hun i oi hoi (Zz h1) with hm|hm
  ·by_cases hcand:i∈cands
   ·obtain ⟨o,s',ho,hc,ht,h⟩:=hS i hcand
    rw [ho] at hoi;obtain rfl:=Bv hoi;simp only [Va,Cj] at hc;obtain ⟨_,hc5⟩:=hc
    have hneed:∀f∈Tv o fs,f∈fs∧listed.getD f.i false=true:=fun f hf=>by
     obtain ⟨hf1,hf2⟩:=List.mem_filter.1 hf;obtain ⟨e,he,hb⟩:=Uv.1 hf2;simp only [Cj] at hb;refine ⟨hf1,?_⟩;rw [←F7 hb.2];exact hall e (Uf.1 he) hb.1
    have hnotu:∀f∈Tv o fs,f.i∉u:=fun f hf hu=>by
     have:=Zz (hul _ hu)
     rw [(hneed f hf).2] at this
     cases this
    obtain ⟨E1,hs1⟩:=B3m (Tv o fs) hs (fun f hf=>(Nx (Ja.1 hF f (hneed f hf).1)).elim fun _ O=>O.lt) (fun f hf v hk=>(Nx (Ja.1 hF f (hneed f hf).1)).elim fun _ O=>K7 (B0w hR (hneed f hf).1 hk O.get).2 v Ef) (fun f hf vs hk v hv=>(Nx (Ja.1 hF f (hneed f hf).1)).elim fun _ O=>K7 ((A6y hR (hneed f hf).1 hk O.get).2 v hv) v Ef) (fun f hf=>hI f (hneed f hf).1 (hnotu f hf));have hg:Fz P ops (fun a w=>∃E,s'.is B E a w) [o] a w:=ht.out E1 a w hs1
    have hil:i<listed.size:=by
     by_cases h:i<listed.size
     ·exact h
     simp [Array.getD,h] at h1
    have next:∀v w',(∃E,s'.is B E (a.put o.dst v) w')→R3 P ops N fuel (listed.setIfInBounds i true) (a.put o.dst v) w':=by
     rintro v w' ⟨E',hs'⟩
     refine h.out fuel _ u E' _ w' hs' (by rw [List.length_erase_of_mem hm];omega) hnd (fun j oj hoj hj=>?_) (fun c hc=>?_) (fun j hj=>?_) (fun j hj=>?_) (fun f hf hfu=>?_)
     ·by_cases e:i=j
      ·subst e
       simp [Array.getD,hil] at hj
      rw [Zc false e] at hj;exact (hun j oj hoj hj).imp (fun h=>(List.mem_erase_of_ne (Ne.symm e)).2 h) id
     ·obtain ⟨e,hc⟩:=(List.Nodup.mem_erase_iff wnd).1 hc
      rw [Zc true (Ne.symm e)];exact hch c hc
     ·have e:i≠j:=fun e=>by
       subst e;obtain ⟨f,hf,e⟩:=huf _ hj;obtain ⟨_,O⟩:=Nx (Ja.1 hF f hf);exact O.out (by rw [e];exact hm)
      rw [Zc true e];exact hul j hj
     ·obtain ⟨f,hf,rfl⟩:=huf j hj
      refine ⟨f,List.mem_filter.2 ⟨hf,?_⟩,rfl⟩;simp only [Mp];refine Wh.2 fun hc=>?_;exact hnotu f (List.mem_filter.2 ⟨hf,hc⟩) hj
     obtain ⟨hf1,_⟩:=List.mem_filter.1 hf;have hv:=hI f hf1 hfu;have hd:=Ja.1 hc5 f hf1
     cases hdst:o.dst with
     |none=>exact hv
     |some d=>
      rw [hdst] at hd;have hne:d≠f.d:=fun e=>by subst e;simp at hd
      rw [A2w hne];exact hv
    unfold opM;simp only [ho];unfold Fz at hg
    split
    ·rename_i hw
     rw [Ah hw] at hg
     rcases hg with ⟨v,h1,h2⟩|⟨_,hd⟩
     ·unfold Kp
      rw [h1 w (Ed.refl w)];exact ⟨fun _=>Ed.refl w,next v w h2⟩
     unfold Kp at hd ⊢;exact Yc.mono (fun v w' ⟨k1,k2⟩=>⟨k1,next v w' k2⟩) hd
    rename_i hw
    rw [Ab hw] at hg;exact next undef w hg
   exfalso
   have:=Ja.1 w4 i hm
   rw [hoi] at this;have hcf:cands.contains i=false:=by simpa using hcand
   rw [hcf,Zb] at this;obtain ⟨e,he,hb⟩:=Uv.1 this;simp only [Cj] at hb;have h2:=hall e (Uf.1 he) hb.1;have h3:=Zz (hch e.on (by simpa using hb.2));rw [h2] at h3
   cases h3
  exact A5g hT hF0 hR ih hs hl hnd hun hch hul huf hI hm
theorem D0p (hT:C0 P T){k:Nat}{rest:List Nat}{s':AS}(ho:ops[k]? =some o)(hF:(Qc T ops (k::rest) fs s&&(A17 ops (k::rest) [k]&&Va ops (k::rest) fs o))=true)(hR:Y6 T ops s fs)(ht:GW P B QF [.ops true ops [o],.loop (fun a w=>∃E,s'.is B E a w)] (A2n (Tv o fs) s))(h:FW P B N ops rest (X9 o fs) s'):FW P B N ops (k::rest) fs s:=by
 simp only [Cj] at hF;refine C7a hT hF.1 hF.2.1 hR (fun i hi=>?_);obtain rfl:i=k:=by simpa using hi
 refine ⟨o,s',ho,hF.2.2,ht,?_⟩;rw [List.erase_cons_head];exact h
theorem Na (hT:C0 P T)(chain:List Nat)(k l:Nat)(c1 c2:List Nat){s1 s2:AS}{o1 o2:Oper}(ho1:ops[k]? =some o1)(ho2:ops[l]? =some o2)(hF:(Qc T ops chain fs s&&(A17 ops chain [k,l]&&(Va ops chain fs o1&&Va ops chain fs o2)))=true)(hR:Y6 T ops s fs)(e1:chain.erase k=c1)(e2:chain.erase l=c2)(t1:GW P B QF [.ops true ops [o1],.loop (fun a w=>∃E,s1.is B E a w)] (A2n (Tv o1 fs) s))(h1:FW P B N ops c1 (X9 o1 fs) s1)(t2:GW P B QF [.ops true ops [o2],.loop (fun a w=>∃E,s2.is B E a w)] (A2n (Tv o2 fs) s))(h2:FW P B N ops c2 (X9 o2 fs) s2):FW P B N ops chain fs s:=by
 simp only [Cj] at hF;refine C7a hT hF.1 hF.2.1 hR (fun i hi=>?_);simp only [C7,K0,Ld] at hi
 rcases hi with rfl|rfl
 ·exact ⟨o1,s1,ho1,hF.2.2.1,t1,e1▸h1⟩
 exact ⟨o2,s2,ho2,hF.2.2.2,t2,e2▸h2⟩
theorem C8:GW P B QF [.loop (fun a w=>∃E,s.is B E a w)] s:=⟨fun E _ _ hs=>⟨E,hs⟩⟩
def Tc (P:Program) (ops:Array Oper) (o:Oper) (v:Value) (a:Act):Prop:=
 (Region.wanted o (yielded ops a.tmps)=true∧∀w',(execOp a.eval o).run P w'= .ok (.value v) w')∨(Region.wanted o (yielded ops a.tmps)=false∧v=undef)
theorem Tc.opM {i:Nat}(hi:ops[i]? =some o)(hy:Tc P ops o v a){K:Act→World→Prop}(h:K (a.put o.dst v) w):opM P ops i K a w:=by
 unfold Sx.opM;simp only [hi]
 rcases hy with ⟨hw,hv⟩|⟨hw,rfl⟩
 ·simp only [hw,Mo]
  unfold Kp;rw [hv w];exact ⟨fun _=>Ed.refl w,h⟩
 simp only [hw,T5,T6];exact h
theorem C6f {j:Nat}{oi oj:Oper}(hj:ops[j]? =some oj)(hap:oi.apart ops oj=true)(hsi:∀cs b,oi.op≠ .select cs b)(hsj:∀cs b,oj.op≠ .select cs b){K:Act→World→Prop}(hy:Tc P ops oi v a)(h:opM P ops j K (a.put oi.dst v) w):
  opM P ops j (fun a' w'=>Tc P ops oi v a'∧K (a'.put oi.dst v) w') a w:=by
 obtain ⟨h1,h2,h3⟩:=Oper.apart_spec hap
 have keep:∀u,Tc P ops oi v (a.put oj.dst u):=fun u=>by
  unfold Tc at *;rw [execOp_put oi hsi a oj.dst u h3,wanted_put oi a oj.dst u h3];exact hy
 unfold opM at *;simp only [hj] at *;rw [wanted_put oj a oi.dst v h1] at h
 split
 ·rename_i hw
  simp only [hw,Mo] at h;unfold Kp at *;rw [execOp_put oj hsj a oi.dst v h1] at h;refine Yc.mono (fun u w' ⟨k1,k2⟩=>⟨k1,keep u,?_⟩) h;rw [←Act.put_comm a v u h2];exact k2
 rename_i hw
 simp only [hw] at h;exact ⟨keep _,by rw [←Act.put_comm a v undef h2];exact h⟩
def B0c (ops:Array Oper) (listed:Array Bool) (i:Nat) (oi:Oper):Bool:=
 (List.range ops.size).all fun j=>j==i||listed.getD j true||(match ops[j]? with
  |some oj=>oi.apart ops oj||(oj.after.toList.any fun e=>Region.binds .any e&&e.on==i)
  |none=>true)
theorem V8 {Q:Act→World→Prop}{i:Nat}{oi:Oper}(hi:ops[i]? =some oi)(hsel:∀(j:Nat) (o:Oper) cs b,ops[j]? =some o→o.op≠ .select cs b):
  ∀(fuel:Nat) (listed:Array Bool) (a:Act) (w:World),B0c ops listed i oi=true→
   i∈Region.ready .any ops listed→Tc P ops oi v a→R3 P ops Q fuel (listed.setIfInBounds i true) (a.put oi.dst v) w→R3 P ops Q (fuel+1) listed a w:=by
 intro fuel
 induction fuel with
 |zero=>
  intro listed a w _ hr hy H;refine ⟨fun h=>(by rw [h] at hr;cases hr),fun j hj=>?_⟩
  by_cases hji:j=i
  ·subst hji;exact hy.opM hi H
  have:=ready_mono hj hji
  rw [H.1] at this
  cases this
 |succ fuel ih=>
  intro listed a w hfree hr hy H;refine ⟨fun h=>(by rw [h] at hr;cases hr),fun j hj=>?_⟩
  by_cases hji:j=i
  ·subst hji;exact hy.opM hi H
  have h1:=H.2 j (ready_mono hj hji);obtain ⟨hjun,oj,hoj,hall⟩:=mem_ready.1 hj;have hun:=Vy hr
  have hf:oi.apart ops oj=true:=by
   have:=Ja.1 hfree j (Fk.2 (T2.1 hoj).1)
   simp only [hoj,hjun,A2c,Yd,Rv,hji,false_or] at this
   rcases this with h|h
   ·exact h
   obtain ⟨e,he,hb⟩:=Uv.1 h;simp only [Cj,Rv] at hb
   have:=hall e (Uf.1 he) hb.1
   rw [hb.2,hun] at this
   cases this
  have h2:=C6f hoj hf (fun cs b=>hsel i oi cs b hi) (fun cs b=>hsel j oj cs b hoj) hy h1
  have hfree':B0c ops (listed.setIfInBounds j true) i oi=true:=by
   refine Ja.2 fun k hk=>?_
   have:=Ja.1 hfree k hk
   by_cases hjk:j=k
   ·subst hjk
    have hlt:j<listed.size:=by
     by_cases h:j<listed.size
     ·exact h
     simp [Array.getD,h] at hjun
    have:(listed.setIfInBounds j true).getD j true=true:=by simp [Array.getD,hlt]
    simp only [this,Bool.or_true,Bool.true_or]
   rw [Zc true hjk];exact this
  refine B47 (fun a' w' h3=>ih (listed.setIfInBounds j true) a' w' hfree' (ready_mono hr (Ne.symm hji)) h3.1 ?_) h2;rw [Array.setIfInBounds_comm _ _ hji];exact h3.2
def B8b (ops:Array Oper) (fin:Array Bool) (chain:List Nat) (fs:List Flt):Bool:=
 ((List.range ops.size).all fun j=>fin.getD j false||chain.contains j||fs.any fun f=>Nat.beq f.i j)&&(chain.all fun c=>!fin.getD c true)&&(fs.all fun f=>!fin.getD f.i true)&&Gl (fs.map (·.i))
variable {fin : Array Bool}
theorem D2b (hr:B8b ops fin chain fs=true)(h:FW P B N ops chain fs s):GW P B QF [.loop (R3 P ops N (chain.length+fs.length) fin)] s:=by
 unfold B8b at hr;simp only [Cj] at hr;obtain ⟨⟨⟨h1,h2⟩,h3⟩,h4⟩:=hr;refine ⟨fun E a w hs=>?_⟩
 show R3 P ops N (chain.length+fs.length) fin a w
 refine h.out _ fin (fs.map (·.i)) E a w hs Ef (Eu h4) (fun j o ho hj=>?_) (fun c hc=>by simpa using List.all_eq_true.1 h2 c hc) (fun j hj=>?_) (fun j hj=>?_) (fun f hf hn=>?_)
 ·have:=Ja.1 h1 j (Fk.2 (T2.1 ho).1)
  simp only [hj,Zb,Yd] at this
  rcases this with h|h
  ·exact .inl (by simpa using h)
  obtain ⟨f,hf,e⟩:=Uv.1 h;exact .inr (Ea.2 ⟨f,hf,F7 e⟩)
 ·obtain ⟨f,hf,rfl⟩:=Ea.1 hj
  simpa using List.all_eq_true.1 h3 f hf
 ·obtain ⟨f,hf,e⟩:=Ea.1 hj
  exact ⟨f,hf,e⟩
 exact absurd (Ea.2 ⟨f,hf,rfl⟩) hn
inductive BW (P:Program) (B:Er) (N:Act→World→Prop) (ops:Array Oper) (fuel:Nat) (listed:Array Bool) (s:AS):Prop
 |mk (h:∀E a w,s.is B E a w→R3 P ops N fuel listed a w):BW P B N ops fuel listed s
theorem BW.out (h:BW P B N ops fuel listed s):∀E a w,s.is B E a w→R3 P ops N fuel listed a w:=h.rec fun h=>h
theorem D26 (hT:C0 P T)(wr:Bool)(i:Nat)(hi:ops[i]? =some o)(hk:A1t o.op=true)(hb:(o.guard.isNone&&Region.noSelect ops&&(Region.ready .any ops listed).contains i&&B0c ops listed i o)=true){ps:List Prop}{x:AV}(hst:Lk T wr s o.op= .ok ps x)(hp:∀p∈ps,p)(h:BW P B N ops fuel (listed.setIfInBounds i true) (s.put o.dst x)):BW P B N ops (fuel+1) listed s:=by
 simp only [Cj,Z6] at hb;obtain ⟨⟨⟨h0,h1⟩,h2⟩,h3⟩:=hb;refine ⟨fun E a w hs=>?_⟩;obtain ⟨v,hv,hd⟩:=B04 hT hk hst hp hs o rfl;have hg:o.guard=none:=by simpa using h0
 exact V8 hi (Region.noSelect_spec h1) fuel listed a w h3 h2 (.inl ⟨by simp [Region.wanted,hg],hv⟩) (h.out E _ w (hs.put o.dst hd))
theorem Np (chain:List Nat)(fs:List Flt)(hr:(B8b ops fin chain fs&&Nat.beq (chain.length+fs.length) fuel)=true)(h:FW P B N ops chain fs s):BW P B N ops fuel fin s:=by
 simp only [Cj] at hr;obtain ⟨hr,hfu⟩:=hr;obtain rfl:=F7 hfu;exact ⟨fun E a w hs=>(D2b hr h).out E a w hs⟩
variable {K : List KI} {Q : Exit → Act → World → Prop}
theorem Jd (hm:P.follows .mixedOrders=true){id:Nat}(h:BW P B (fun a w=>post P Q K .normal a w) ops ops.size (Array.replicate ops.size false) s):GW P B Q (.code (.region id ops true)::K) s:=by
 refine ⟨fun E a w hs=>?_⟩;refine wp_region_any hm (Wu (Q:=fun a w=>post P Q K .normal a w) (fun _ _ h=>h) _ _ _ _ ?_);exact h.out E a _ ((hs.call (w':= {w with drawn:=w.drawn+1}) ⟨rfl,rfl,rfl,Bu _,fun _ _=>rfl⟩).is)
theorem B1m (hT:C0 P T)(wr:Bool){f:FuncId}{fn:Func}{c:Code}{cs:List Ad}{ax:List Hb}(hf:P.funcs[f]? =some fn)(hb:fn.body=some c)(hn:(fn.name== "runtime.NumGoroutine")=false)
  (h:∀W (us:List Value),us.length=cs.length→(∀(i:Nat) (x:Value),cs[i]? =some (.val x)→us.getD i undef=x)→(∀u∈us,J5 [u]=true)→Ln ⟨W,fun _=>False⟩ (cs.zip us)→
   vcW P ⟨W,fun _=>False⟩ (bodyPost P fn fun e w'=>Jp W w' ax e) (P7 T wr 100000 [.code c] (Dg fn.ntmps [.agg (us.map Ad.val)]))):Sf P f [.agg cs] ax:=by
 refine ⟨⟨fn,hf,hn,by simp [hb]⟩,fun w vs hl hv=>?_⟩;obtain ⟨us,he,hul,hus⟩:∃us:List Value,vs.getD 0 undef= .agg us.toArray∧us.length=cs.length∧∀i c,cs[i]? =some c→Qz w (fun _=>False) c (us.getD i undef):=hv 0 _ rfl
 have hone:∀u∈us,u.oneCell'=true:=fun u hu=>by
  obtain ⟨i,hi,rfl⟩:=Po hu
  have:=(hus i _ (Dh A7)).one
  simpa [List.getD,hi] using this
 have hpin:Ln ⟨w,fun _=>False⟩ (cs.zip us):=fun p hp=>by
  obtain ⟨i,hi,rfl⟩:=Po hp;have hic:i<cs.length:=by simp at hi;omega
  have hiu:i<us.length:=by omega
  have:=hus i _ (Dh hic)
  simpa [List.getD,hiu] using this
 have hm:Ex P (fun w'=>Ln ⟨w',fun _=>False⟩ (cs.zip us)) f [.agg (us.map Ad.val)] ax:=
  Kq hT wr hf hb hn fun W hW=>h W us hul (fun i x hi=>by
   have:=hus i _ hi
   generalize us.getD i undef=u at this
   cases this;rfl) (fun u hu=>by
   have:=hone u hu
   cases u<;>first|rfl|simp [Value.oneCell'] at this) hW
 refine hm.2 w hpin vs (by simpa using hl) (fun i x hi=>?_)
 match i,hi with
 | 0,hi=>
  simp only [H3,Em] at hi;subst hi;refine ⟨us,he,by simp,fun i c hc=>?_⟩;simp only [Ec,E9] at hc;obtain ⟨u,hu,rfl⟩:=hc
  have:us.getD i undef=u:=by simp [List.getD,hu]
  rw [this];exact .val u (hone u (Hr hu))
variable {pins : List (Ad × Value)} {dst : Option Tmp} {c : Ad}
theorem P8 (hF:Ln B pins){q:Bool}{f:FuncId}{xs ys:List AV}(i j l:Nat)(hh:(pins[l]?,I4 xs i,I4 ys j)=(some (c,v),.agg ys,.c (.val v)))(h:CW P B Q q f (Cd xs i (.agg (Cd ys j (.c c)))) dst K s):CW P B Q q f xs dst K s:=by
 simp only [Jh] at hh;obtain ⟨hl,hi,hj⟩:=hh;obtain ⟨h⟩:=h;refine ⟨h.1,fun E a w hs vs hl' hv=>h.2 E a w hs vs (by rw [Bj];exact hl') fun m z hz=>?_⟩;rw [Cr] at hz
 split at hz
 ·rename_i hm
  obtain ⟨rfl,hm⟩:=hm;obtain rfl:=Bv hz;have hd:=hv i (.agg ys) (by rw [Cb,Dh hm] at hi;rw [Dh hm];simpa using hi);generalize vs.getD i undef=u at hd
  cases hd with
  |agg ws hwl hw=>
   refine .agg ws (by rw [Bj];exact hwl) fun n y hy=>?_;rw [Cr] at hy
   split at hy
   ·rename_i hn
    obtain ⟨rfl,hn⟩:=hn;obtain rfl:=Bv hy;have hd2:=hw j (.c (.val v)) (by rw [Cb,Dh hn] at hj;rw [Dh hn];simpa using hj);rw [B3 hd2];exact D0.c (A:=s.ag E) (N:=s.next) (hF.now hs (fun _ h=>h) _ (Hr hl))
   exact hw n y hy
 exact hv m z hz
theorem D11 (hT:C0 P T)(wr:Bool){J:Type}{c:Code}(fs:List Nat)(us:J→List (Nat×AV))(bs:J→List Bx)(os:J→List Ow)(φ:J→Prop)(h1:vcW P B Q (P7 T wr 100000 (.code c:: .loop (Inv B (fun j=>s.upd fs (us j) (bs j) (os j)) φ (fun _=>0) 1)::K) s))(h2:∀j,φ j→GW P B Q K (s.upd fs (us j) (bs j) (os j))):GW P B Q (.code c::K) s:=by
 refine ⟨fun E a w hs=>?_⟩;have g1:G P B Q (.code c:: .loop (Inv B (fun j=>s.upd fs (us j) (bs j) (os j)) φ (fun _=>0) 1)::K) s:=(go hT wr h1).rec id;refine Code.wp_mono (fun e a' w' hq=>?_) (g1 E a w hs)
 cases e with
 |normal=>
  obtain ⟨j,hj,_,E',hE'⟩:=(hq:Inv B (fun j=>s.upd fs (us j) (bs j) (os j)) φ (fun _=>0) 1 a' w');exact (h2 j hj).out E' a' w' hE'
 |exit id=>exact hq
 |goto l=>exact hq
 |ret=>exact hq
 |panic c=>exact hq
 |outgrown=>exact hq
theorem B2v (hF:Ln B pins)(k j l:Nat){b:Bx}(hl:pins[l]? =some (c,v))(hb:Fq s.aw k=some b)(hj:I4 b.cells j= .c (.val v))(h:GW P B Q K {s with aw:=Fe s.aw k (Cd b.cells j (.c c))}):GW P B Q K s:=by
 obtain ⟨hm,hk⟩:=F9 hb
 have keys:∀(l:List Bx) (cs:List AV),(Fe l k cs).map (·.key)=l.map (·.key):=fun l cs=>by
  induction l with
  |nil=>rfl
  |cons x r ih=>
   unfold Fe
   split
   ·rfl
   simp [ih]
 have mem:∀(l:List Bx) (cs:List AV) (x:Bx),x∈Fe l k cs→x∈l∨(x=⟨k,cs⟩∧∃y,Fq l k=some y):=fun l cs=>by
  induction l with
  |nil=>intro x hx;simp [Fe] at hx
  |cons y r ih=>
   intro x hx;unfold Fe at hx
   split at hx
   ·rename_i hy
    rcases C7.1 hx with rfl|hx
    ·refine .inr ⟨by rw [←F7 hy],y,by simp [Fq,hy]⟩
    exact .inl (Cq _ hx)
   rename_i hy
   rcases C7.1 hx with rfl|hx
   ·exact .inl Ef
   rcases ih x hx with h|⟨h1,h2⟩
   ·exact .inl (Cq _ h)
   exact .inr ⟨h1,by simpa [Fq,hy] using h2⟩
 refine ⟨fun E a w hs=>h.rec fun g=>g E a w ?_⟩
 have av:∀z,({s with aw:=Fe s.aw k (Cd b.cells j (.c c))}:AS).ag E z↔s.ag E z:=fun z=>by
  have hk2:(∃x∈Fe s.aw k (Cd b.cells j (.c c)),E.β x.key=z)↔∃x∈s.aw,E.β x.key=z:=by
   have e:=keys s.aw (Cd b.cells j (.c c))
   constructor
   ·rintro ⟨x,hx,rfl⟩
    have:x.key∈s.aw.map (·.key):=by rw [←e];exact List.mem_map_of_mem hx
    obtain ⟨y,hy,h2⟩:=Ea.1 this;exact ⟨y,hy,by rw [h2]⟩
   rintro ⟨x,hx,rfl⟩
   have:x.key∈(Fe s.aw k (Cd b.cells j (.c c))).map (·.key):=by rw [e];exact List.mem_map_of_mem hx
   obtain ⟨y,hy,h2⟩:=Ea.1 this;exact ⟨y,hy,by rw [h2]⟩
  unfold AS.ag;exact or_congr hk2 Iff.rfl
 have hav:({s with aw:=Fe s.aw k (Cd b.cells j (.c c))}:AS).ag E=s.ag E:=funext fun z=>propext (av z)
 have hbox:∀x∈Fe s.aw k (Cd b.cells j (.c c)),x.key<s.next∧∃vs ty,w.heap[E.β x.key]? =some (.cells vs ty (0,0))∧vs.size=x.cells.length∧∀i y,x.cells[i]? =some y→D0 E w (s.ag E) s.next y (vs.getD i undef):=fun x hx=>by
  rcases mem _ _ _ hx with h|⟨rfl,_⟩
  ·exact hs.aw x h
  obtain ⟨h1,vs,ty,h2,h3,h4⟩:=hs.aw b hm;refine ⟨hk▸h1,vs,ty,by rw [←hk];exact h2,by rw [Bj];exact h3,fun i y hy=>?_⟩;rw [Cr] at hy
  split at hy
  ·rename_i hi
   obtain ⟨rfl,hi⟩:=hi;obtain rfl:=Bv hy;have hd:=h4 j (.c (.val v)) (by rw [Cb,Dh hi] at hj;rw [Dh hi];simpa using hj);rw [B3 hd];exact .c (hF.now hs (fun _ h=>h) _ (Hr hl))
  exact h4 i y hy
 have hmk:∀x∈Fe s.aw k (Cd b.cells j (.c c)),∃y∈s.aw,y.key=x.key:=fun x hx=>by
  rcases mem _ _ _ hx with h|⟨rfl,_⟩
  ·exact ⟨x,h,rfl⟩
  exact ⟨b,hm,hk⟩
 refine ⟨hs.defers,hs.ak,hs.size,fun i x hx=>by rw [hav];exact hs.ac i x hx,fun x hx=>by rw [hav];exact hbox x hx,fun x hx y hy e=>?_,by rw [keys];exact hs.keys,hs.own,hs.ownkeys,hs.sep,fun x hx y hy=>?_,hs.one,hs.base,fun z hz=>hs.fresh z (by rw [hav] at hz;exact hz)⟩
 ·obtain ⟨x',hx',ex⟩:=hmk x hx
  obtain ⟨y',hy',ey⟩:=hmk y hy;rw [←ex,←ey];exact hs.boxes2 x' hx' y' hy' (by rw [ex,ey];exact e)
 obtain ⟨x',hx',ex⟩:=hmk x hx;rw [←ex];exact hs.sepB x' hx' y hy
theorem B2w (hF:Ln B pins){q:Bool}{f:FuncId}{xs:List AV}(i l:Nat)(hl:pins[l]? =some (c,v))(hi:I4 xs i= .c (.val v))(h:CW P B Q q f (Cd xs i (.c c)) dst K s):CW P B Q q f xs dst K s:=by
 obtain ⟨h⟩:=h;refine ⟨h.1,fun E a w hs vs hl' hv=>h.2 E a w hs vs (by rw [Bj];exact hl') fun m z hz=>?_⟩;rw [Cr] at hz
 split at hz
 ·rename_i hm
  obtain ⟨rfl,hm⟩:=hm;obtain rfl:=Bv hz;have hd:=hv i (.c (.val v)) (by rw [Cb,Dh hm] at hi;rw [Dh hm];simpa using hi);rw [B3 hd];exact D0.c (A:=s.ag E) (N:=s.next) (hF.now hs (fun _ h=>h) _ (Hr hl))
 exact hv m z hz
end Go.Sx
set_option maxRecDepth 100000
namespace Go.Sx
open Go
open Go.RowKit (Below)
variable {P : Program} {T : List (TypeId × TI)}
variable {B : Er} {Q : Exit → Act → World → Prop} {K : List KI} {s : AS} {es : Nat} {n : Nat} {row : Nat → List Ad}
theorem C8m (k jn off:Nat)(hk:Bm s.own k=some (.sl n es row))(hj:jn<n){c:Ad}(hc:(row jn)[off]? =some c)(h:∀v,GW P B Q K {s with own:=⟨s.next,c⟩::⟨k,.sl n es fun i=>if i=jn then E6 (row i) off [.val v] else row i⟩::Bb [k] s.own,next:=s.next+1,ak:=(s.next,v)::s.ak}):GW P B Q K s:=by
 refine ⟨fun E a w hs=>?_⟩;have hm:=Ca hk;obtain ⟨hklt,o2,o3⟩:=hs.own _ hm
 simp only at o2 o3 hklt
 generalize hov:E.ov k=ovk at o2;generalize hfp:E.fp k=fp at o2 o3
 cases o2 with
 |nil=>exact absurd hj (Le _)
 |emp=>exact absurd hj (Le _)
 |sl _ _ _ b offb cap ty cells fps hn hcp hb hcs hl hr=>
  have hoff:off<es:=by have:=(Cu.1 hc).1;rwa [hl jn hj] at this
  have hin:=hr jn off c hj hc;obtain ⟨hb0,hnd1⟩:=Ip.1 o3;obtain ⟨f1,f2⟩:=Cg.1 hnd1;have hpos:jn * es+off<n * es:=Gs hj hoff
  have hcl:(offb+jn) * es+off<cells.size:=by
   have:=Gs (show offb+jn<offb+cap by omega) hoff
   omega
  generalize hu:cells.getD ((offb+jn) * es+off) undef=u at hin
  have hdis:∀z∈fps (jn * es+off),z≠b∧∀k,k<n * es→k≠jn * es+off→z∉fps k:=by
   intro z hz;refine ⟨fun e=>hb0 (e▸Dp hpos hz),fun k hk hne hz'=>?_⟩;have hp:=Ry.1 f2
   rcases Uh hne with h'|h'
   ·have:=hp k (jn * es+off) (by simpa using hk) (by simpa using hpos) h' z
    simp only [Ui] at this;exact this hz' hz
   have:=hp (jn * es+off) k (by simpa using hpos) (by simpa using hk) h' z
   simp only [Ui] at this;exact this hz hz'
  have hone:u.oneCell'=true:=hin.one
  obtain ⟨s1,s2⟩:=A6n hn hcp hb hcs hl hr o3 hj hoff (c:= .val u) (g:=[]) (by rw [hu];exact .val u hone) Ef Ef
   (c':= .sl n es fun i=>if i=jn then E6 (row i) off [.val u] else row i) ⟨_,rfl,fun i _ hne=>by simp [hne],by simp⟩
  have hI:=hs.drop [k]
  have key:∀z,z∈b::(List.range (n * es)).flatMap fps→s.ag E z∧¬ ({s with own:=Bb [k] s.own}:AS).ag E z∧B.fresh z:=by
   intro z hz;have hzk:z∈E.fp k:=by rw [hfp];exact hz
   have hav:s.ag E z:= .inr ⟨_,hm,hzk⟩;refine ⟨hav,?_,hs.fresh z hav⟩
   rintro (⟨r,hr',rfl⟩|⟨r,hr',hz'⟩)
   ·exact hs.sepB r hr' _ hm hzk
   obtain ⟨q1,q2⟩:=Bl.1 hr';exact hs.sep _ hm r q1 (fun e=>q2 (by simp at e;simp [e])) z hzk hz'
  have sub1:∀z,z∈b::(List.range (n * es)).flatMap (fun k=>if k=jn * es+off then [] else fps k)→z∈b::(List.range (n * es)).flatMap fps:=by
   intro z hz
   rcases C7.1 hz with rfl|hz
   ·simp
   obtain ⟨p,hp,hz⟩:=E7.1 hz
   split at hz
   ·simp at hz
   exact Cq _ (E7.2 ⟨p,hp,hz⟩)
  have hI3:=hI.addAt (k:=k) hklt (fun y' hy=>fun e=>(Bl.1 hy).2 (by rw [e];simp)) (by rw [hov];exact s1) s2 (fun z hz=>key z (sub1 z hz))
  have hav3:∀z,z∈fps (jn * es+off)→¬ ({s with own:=⟨k,.sl n es fun i=>if i=jn then E6 (row i) off [.val u] else row i⟩::Bb [k] s.own}:AS).ag (E.setFp k (b::(List.range (n * es)).flatMap (fun k=>if k=jn * es+off then [] else fps k))) z:=by
   intro z hz;have hzin:z∈b::(List.range (n * es)).flatMap fps:=Cq _ (Dp hpos hz)
   rintro (⟨r,hr',rfl⟩|⟨r,hr',hz'⟩)
   ·exact (key _ hzin).2.1 (.inl ⟨r,hr',rfl⟩)
   rcases C7.1 hr' with rfl|hr'
   ·simp only [Fl.setFp,Mo] at hz'
    rcases C7.1 hz' with rfl|hz'
    ·exact (hdis _ hz).1 rfl
    obtain ⟨p,hp,hz'⟩:=E7.1 hz'
    split at hz'
    ·simp at hz'
    exact (hdis z hz).2 p (Fk.1 hp) (by assumption) hz'
   have hne:r.key≠k:=fun e=>(Bl.1 hr').2 (by rw [e];simp);simp only [Fl.setFp,hne,T6] at hz';exact (key z hzin).2.1 (.inr ⟨r,hr',hz'⟩)
  obtain ⟨k1,k2⟩:=hI3.addOwn hin (f1 _ (Fk.2 hpos)) (fun z hz=>⟨(key z (Cq _ (Dp hpos hz))).1,hav3 z hz,(key z (Cq _ (Dp hpos hz))).2.2⟩)
  have k3:({s with own:=⟨s.next,c⟩::⟨k,.sl n es fun i=>if i=jn then E6 (row i) off [.val u] else row i⟩::Bb [k] s.own,next:=s.next+1,ak:=(s.next,u)::s.ak}:AS).isA B
    ((E.setFp k (b::(List.range (n * es)).flatMap (fun k=>if k=jn * es+off then [] else fps k))).withOwn s.next u (fps (jn * es+off))) (s.ag E) a w:=by
   refine ⟨k1.defers,fun p hp=>?_,k1.size,k1.ac,k1.aw,k1.boxes2,k1.keys,k1.own,k1.ownkeys,k1.sep,k1.sepB,k1.one,k1.base,k1.fresh,k1.sub⟩
   rcases C7.1 hp with rfl|hp
   ·exact ⟨Ru _,by simp [Fl.withOwn]⟩
   exact k1.ak p hp
  exact (h u).out _ _ w k3.is
theorem C5j (row:Nat→List Ad)(j off:Nat)(r:List Ad)(v:Value):(fun i=>if i=j then E6 (Hf row j r i) off [.val v] else Hf row j r i)=Hf row j (E6 r off [.val v]):=by
 funext i
 unfold Hf
 by_cases h:i=j
 ·subst h;simp
 simp [h]
variable {r : List Ad}
theorem D2k (k j:Nat)(hk:Bm s.own k=some (.sl n es row))(hr:row j=r)(h:GW P B Q K {s with own:=Jf s.own k (.sl n es (Hf row j r))}):GW P B Q K s:=by
 refine Fi k (.sl n es (Hf row j r)) hk ⟨rfl,rfl,fun i _=>?_⟩ h;unfold Hf
 split
 ·rename_i e;subst e;rw [hr];exact I5.refl _
 exact I5.refl _
theorem D04 (k j off:Nat)(hk:Bm s.own k=some (.sl n es (Hf row j r)))(hj:j<n){c:Ad}(hc:r[off]? =some c)(h:∀v,GW P B Q K {s with own:=⟨s.next,c⟩::⟨k,.sl n es (Hf row j (E6 r off [.val v]))⟩::Bb [k] s.own,next:=s.next+1,ak:=(s.next,v)::s.ak}):GW P B Q K s:=by
 refine C8m k j off hk hj (by rw [Cw];exact hc) (fun v=>?_)
 have:=h v
 rw [←C5j] at this;exact this
theorem He (i k:Nat){v:Value}(hh:(Dv s.ak k,I4 s.ac i)=(some v,.c (.val v)))(h:GW P B Q K {s with ac:=Cd s.ac i (.own k)}):GW P B Q K s:=by
 simp only [Jh] at hh;obtain ⟨hl,hi⟩:=hh;refine ⟨fun E a w hs=>h.rec fun g=>g E a w ⟨hs.defers,hs.ak,by rw [hs.size];exact (Bj _ _ _).symm,fun m z hz=>?_,hs.aw,hs.boxes2,hs.keys,hs.own,hs.ownkeys,hs.sep,hs.sepB,hs.one,hs.base,hs.fresh⟩⟩
 simp only at hz
 rw [Cr] at hz
 split at hz
 ·rename_i hm
  obtain ⟨rfl,hm⟩:=hm;obtain rfl:=Bv hz;have hd:=hs.ac i (.c (.val v)) (by rw [Cb,Dh hm] at hi;rw [Dh hm];simpa using hi);obtain ⟨h1,h2⟩:=hs.ak _ (Gr hl);have h2:E.ov k=v:=h2;rw [B3 hd,←h2];exact .own h1
 exact hs.ac m z hz
theorem D2a (hT:C0 P T){q:Bool}{all:Array Oper}{o:Oper}{rest:List Oper}{x:Operand}{t:TypeId}{i:TI}(hg:o.guard=none)(ho:o.op= .load t x)(hi:find T t=some i){k off jn:Nat}{j:Int}{xs:List AV}(hx:s.ev x= .oel k es j off)(hk:Bm s.own k=some (.sl n es (Hf row jn r)))(hjn:j.toNat=jn)(hf:P5 r=some xs)(hle:Nat.ble (off+i.size) r.length=true)(h:GW P B Q (.ops q all rest::K) (s.put o.dst (O2 i xs off))):GW P B Q (.ops q all (o::rest)::K) s:=by
 refine ⟨Eb hg (fun E a w hs=>?_)⟩;have hm:=Ca hk;obtain ⟨hklt,o2,o3⟩:=hs.own _ hm
 simp only at o2 o3 hklt
 have hev:=hs.ev x;rw [hx] at hev;generalize hv:a.eval x=v at hev
 cases hev with
 |oel _ b o' n' cap hkl hov h0 hj=>
  rw [hov] at o2;obtain ⟨m,rfl⟩:=Ud h0;simp only [Cp,Z4] at *;subst hjn;generalize E.fp k=fp at o2
  cases o2 with
  |emp=>exact absurd hj (Le _)
  |sl _ _ _ _ offb _ ty cells fps hn hc hb hsz hl hr=>
   have hrow:Hf row m r m=r:=Cw _ _ _;have hrl:r.length=es:=by have:=hl m hj;rwa [hrow] at this
   have hle2:off+i.size≤r.length:=Cz hle;obtain ⟨f1,f2⟩:=A2v hf
   have hlt:∀p,p<es→(offb+m) * es+p<cells.size:=fun p hp=>by
    have:=Gs (show offb+m<offb+cap by omega) hp
    omega
   have hd:∀p y,xs[p]? =some y→D0 E w (s.ag E) s.next y (((List.range es).map fun p=>cells.getD ((offb+m) * es+p) undef).getD p undef):=by
    intro p y hp;obtain ⟨v',hv1,rfl⟩:=f2 p y hp;have hpl:p<es:=by rw [←hrl];exact (Cu.1 hv1).1
    have:=hr m p _ hj (by rw [hrow];exact hv1)
    simp only [List.getD,Ec,A75,hpl,Qv,Uc];generalize cells.getD ((offb+m) * es+p) undef=u,fps (m * es+p)=g at this
    cases this with
    |val _ h1=>exact .c (.val _ h1)
   have hread:=Vc xs ((List.range es).map fun p=>cells.getD ((offb+m) * es+p) undef) off i (by rw [f1];exact hle2) hd
   have hrun:∀w',Ed w w'→_:=fun w' hkw=>J7 (hT t i hi) w' b (offb * es+m * es+off) ((List.range i.size).map fun p=>((List.range es).map fun p=>cells.getD ((offb+m) * es+p) undef).getD (off+p) undef) Ef (fun p hp=>by
    have h1:off+p<es:=by omega
    have:=hlt (off+p) h1
    rw [show offb * es+m * es+off+p=(offb+m) * es+(off+p) by rw [G1];omega]
    refine hkw.cell ?_;rw [cell_of_row w b _ cells ty (0,0) hb]
    simp [List.getD,hp,h1,Array.getD,this])
   refine ⟨_,fun w' hkw=>?_,h.out E _ w (hs.put o.dst hread)⟩;obtain ⟨dst,op',ty',pos,after,guard⟩:=o
   simp only at ho
   subst ho;simp only [execOp,hv,Instr.loadAt,Instr.sureAddr,Sem.run_bind,Sem.run_pure,Result.andThen_ok,hrun w' hkw]
   cases hag:i.agg with
   |true=>rfl
   |false=>
    obtain ⟨f,d,z,S⟩:=TI.of_spec (hT t i hi);have h1:=S.one (by rw [←S.agg];exact hag)
    simp [h1]
end Go.Sx
