/- Part 3 of the proof that each of the laws FnConsole returns true for every input. No conditions. -/
import Derived.Test.YtmhcebdkjgkmlaaGreatDoorQ2
import Derived.Laws.BytesArg
import Derived.Lib.ItoaNum
import Derived.Sort.Grow
import Derived.Deep.Draws
import Derived.Lib.ItoaLen
import Derived.Lib.Join
import Derived.WideLaws
import Derived.Laws.Strings2
import Derived.Lib.AtoiAll
import Derived.Lib.Fields

set_option linter.unusedSimpArgs false
set_option linter.unusedVariables false
namespace Go.Sx
open Go.RowKit (Below)
variable {P : Program} {T : List (TypeId × TI)}
variable {B : Fg} {Q : Exit → Act → World → Prop} {K : List KI} {s : AS}
theorem GW.out (h:GW P B Q K s):G P B Q K s:=h.rec fun h=>h
variable {n : Nat} {es : Nat} {row : Nat → List Ag} {off : Nat} {j : Nat} {c' : Ag}
theorem A77 {w:World}{b cap:Nat}{ty:TypeId}{cells:Array Value}{fps:Nat→List Nat}(hn:n≤cap)(hc:cap≤maxLen)(hb:w.heap[b]? =some (.cells cells ty (0,0)))(hs:(off+cap) * es≤cells.size)(hl:∀i,i<n→(row i).length=es)(hr:∀i j c,i<n→(row i)[j]? =some c→Bw w c (cells.getD ((off+i) * es+j) undef) (fps (i * es+j)))(hnd:(b::(List.range (n * es)).flatMap fps).Nodup){o:Nat}(hj:j<n)(ho:o<es){c:Ag}{g:List Nat}(hg:Bw w c (cells.getD ((off+j) * es+o) undef) g)(hgn:g.Nodup)(hgd:∀x∈g,x≠b∧∀k,k<n * es→k≠j * es+o→x∉fps k)(hu:Vf n es row j o [c] c'):
  Bw w c' (.slice (some ⟨b,off * es,none⟩) n cap) (b::(List.range (n * es)).flatMap (fun k=>if k=j * es+o then g else fps k))∧
   (b::(List.range (n * es)).flatMap (fun k=>if k=j * es+o then g else fps k)).Nodup:=by
 obtain ⟨row',rfl,hu1,hu2⟩:=hu;obtain ⟨hb0,hnd1⟩:=Is.1 hnd
 constructor
 ·refine .sl n es row' b off cap ty cells _ hn hc hb hs (fun i hi=>?_) (fun i m d hi hd=>?_)
  ·by_cases e:i=j
   ·subst e
    rw [hu2]
    simp [Ed,hl i hi]
    omega
   rw [hu1 i hi e];exact hl i hi
  by_cases e:i=j
  ·subst e
   rw [hu2] at hd;have hl1:(List.take o (row i)).length=o:=by simp [hl i hi];omega
   simp only [Ed] at hd
   by_cases h1:m=o
   ·subst h1
    rw [Ak rfl];rw [Cr,Fo A7,hl1,Nat.sub_self] at hd;simp only [X4,Ha,Ex] at hd;subst hd;exact hg
   rw [Ab A7];refine hr i m d hi ?_
   by_cases h2:m<o
   ·rw [Cr,Fi A7,X6,Ak h2] at hd
    exact hd
   rw [Fo (by simp [hl i hi];omega)] at hd;simp only [D3,hl1,Tf,Lx] at hd
   rwa [show o+1+(m-(o+1))=m by omega] at hd
  rw [hu1 i hi e] at hd;have hml:m<es:=by have:=(Cx.1 hd).1;rw [hl i hi] at this;exact this
  have hne:i * es+m≠j * es+o:=by
   intro h
   rcases Uq e with h'|h'
   ·have:(i+1) * es≤j * es:=Kh _ h'
    rw [G7] at this;omega
   have:(j+1) * es≤i * es:=Kh _ h'
   rw [G7] at this;omega
  rw [Ab hne];exact hr i m d hi hd
 obtain ⟨f1,f2⟩:=Cb.1 hnd1;refine Is.2 ⟨fun h=>?_,Cb.2 ⟨fun k hk=>?_,?_⟩⟩
 ·obtain ⟨k,hk,hx⟩:=Ee.1 h
  split at hx
  ·exact (hgd b hx).1 rfl
  exact hb0 (Dy (Fz.1 hk) hx)
 ·split
  ·exact hgn
  exact f1 k hk
 refine B41 ?_ ((List.nodup_range (n:=n * es)).and f2);intro p q hp hq ⟨hne,hpq⟩ z hz hz'
 split at hz
 ·split at hz'
  ·omega
  exact (hgd z hz).2 q (Fz.1 hq) (by assumption) hz'
 split at hz'
 ·exact (hgd z hz').2 p (Fz.1 hp) (by assumption) hz
 exact hpq z hz hz'
def Sb (c:Ag):Bool:=
 match c with
 | .sl _ _ _=>true
 |_=>false
variable {all : Array Oper} {o : Oper} {rest : List Oper} {t : TypeId} {i : TI} {k : Nat}
theorem D18 (hT:Bz P T){q:Bool}{x:Operand}(hg:o.guard=none)(ho:o.op= .load t x)(hi:find T t=some i)(hag:i.agg=false){j:Int}(hx:s.ev x= .oel k es j off)(hk:Bm s.own k=some (.sl n es row)){c:Ag}(hc:(row j.toNat)[off]? =some c)(h:∀v,GW P B Q (.ops q all rest::K) (({s with own:=⟨s.next,c⟩::⟨k,.sl n es fun i=>if i=j.toNat then Ed (row i) off [.val v] else row i⟩::Bb [k] s.own,next:=s.next+1,ay:=(s.next,v)::s.ay}:AS).put o.dst (.own s.next))):
  GW P B Q (.ops q all (o::rest)::K) s:=by
 refine ⟨Ek hg (fun E a w hs=>?_)⟩;have hm:=C5 hk;obtain ⟨hklt,o2,o3⟩:=hs.own _ hm
 simp only at o2 o3 hklt
 have hev:=hs.ev x;rw [hx] at hev;generalize hv:a.eval x=v at hev
 cases hev with
 |oel _ b o' n' cap hkl hov h0 hj=>
  rw [hov] at o2;generalize hfp:E.fp k=fp at o2 o3;obtain ⟨jn,rfl⟩:=A2e h0;simp only [Bv,A0g] at *
  cases o2 with
  |emp=>exact absurd hj (L4 _)
  |sl _ _ _ _ offb _ ty cells fps hn hcp hb hcs hl hr=>
   have hoff:off<es:=by have:=(Cx.1 hc).1;rwa [hl jn hj] at this
   have hin:=hr jn off c hj hc;obtain ⟨hb0,hnd1⟩:=Is.1 o3;obtain ⟨f1,f2⟩:=Cb.1 hnd1;have hpos:jn * es+off<n * es:=H1 hj hoff
   have hcl:(offb+jn) * es+off<cells.size:=by
    have:=H1 (show offb+jn<offb+cap by omega) hoff
    omega
   generalize hu:cells.getD ((offb+jn) * es+off) undef=u at hin
   have hdis:∀z∈fps (jn * es+off),z≠b∧∀k,k<n * es→k≠jn * es+off→z∉fps k:=by
    intro z hz;refine ⟨fun e=>hb0 (e▸Dy hpos hz),fun k hk hne hz'=>?_⟩;have hp:=S2.1 f2
    rcases Uq hne with h'|h'
    ·have:=hp k (jn * es+off) (by simpa using hk) (by simpa using hpos) h' z
     simp only [Ur] at this;exact this hz' hz
    have:=hp (jn * es+off) k (by simpa using hpos) (by simpa using hk) h' z
    simp only [Ur] at this;exact this hz hz'
   have hone:u.oneCell'=true:=hin.one
   obtain ⟨s1,s2⟩:=A77 hn hcp hb hcs hl hr o3 hj hoff (c:= .val u) (g:=[]) (by rw [hu];exact .val u hone) Ey Ey
    (c':= .sl n es fun i=>if i=jn then Ed (row i) off [.val u] else row i) ⟨_,rfl,fun i _ hne=>by simp [hne],by simp⟩
   have hI:=hs.drop [k]
   have key:∀z,z∈b::(List.range (n * es)).flatMap fps→s.ag E z∧¬ ({s with own:=Bb [k] s.own}:AS).ag E z∧B.fresh z:=by
    intro z hz;have hzk:z∈E.fp k:=by rw [hfp];exact hz
    have hav:s.ag E z:= .inr ⟨_,hm,hzk⟩;refine ⟨hav,?_,hs.fresh z hav⟩
    rintro (⟨r,hr',rfl⟩|⟨r,hr',hz'⟩)
    ·exact hs.sepB r hr' _ hm hzk
    obtain ⟨q1,q2⟩:=Bl.1 hr';exact hs.sep _ hm r q1 (fun e=>q2 (by simp at e;simp [e])) z hzk hz'
   have sub1:∀z,z∈b::(List.range (n * es)).flatMap (fun k=>if k=jn * es+off then [] else fps k)→z∈b::(List.range (n * es)).flatMap fps:=by
    intro z hz
    rcases Ch.1 hz with rfl|hz
    ·simp
    obtain ⟨p,hp,hz⟩:=Ee.1 hz
    split at hz
    ·simp at hz
    exact Db _ (Ee.2 ⟨p,hp,hz⟩)
   have hI3:=hI.addAt (k:=k) hklt (fun y' hy=>fun e=>(Bl.1 hy).2 (by rw [e];simp)) (by rw [hov];exact s1) s2 (fun z hz=>key z (sub1 z hz))
   have hav3:∀z,z∈fps (jn * es+off)→¬ ({s with own:=⟨k,.sl n es fun i=>if i=jn then Ed (row i) off [.val u] else row i⟩::Bb [k] s.own}:AS).ag (E.setFp k (b::(List.range (n * es)).flatMap (fun k=>if k=jn * es+off then [] else fps k))) z:=by
    intro z hz;have hzin:z∈b::(List.range (n * es)).flatMap fps:=Db _ (Dy hpos hz)
    rintro (⟨r,hr',rfl⟩|⟨r,hr',hz'⟩)
    ·exact (key _ hzin).2.1 (.inl ⟨r,hr',rfl⟩)
    rcases Ch.1 hr' with rfl|hr'
    ·simp only [G0.setFp,Mp] at hz'
     rcases Ch.1 hz' with rfl|hz'
     ·exact (hdis _ hz).1 rfl
     obtain ⟨p,hp,hz'⟩:=Ee.1 hz'
     split at hz'
     ·simp at hz'
     exact (hdis z hz).2 p (Fz.1 hp) (by assumption) hz'
    have hne:r.key≠k:=fun e=>(Bl.1 hr').2 (by rw [e];simp);simp only [G0.setFp,hne,Te] at hz';exact (key z hzin).2.1 (.inr ⟨r,hr',hz'⟩)
   obtain ⟨k1,k2⟩:=hI3.addOwn hin (f1 _ (Fz.2 hpos)) (fun z hz=>⟨(key z (Db _ (Dy hpos hz))).1,hav3 z hz,(key z (Db _ (Dy hpos hz))).2.2⟩)
   have k3:({s with own:=⟨s.next,c⟩::⟨k,.sl n es fun i=>if i=jn then Ed (row i) off [.val u] else row i⟩::Bb [k] s.own,next:=s.next+1,ay:=(s.next,u)::s.ay}:AS).isA B
     ((E.setFp k (b::(List.range (n * es)).flatMap (fun k=>if k=jn * es+off then [] else fps k))).withOwn s.next u (fps (jn * es+off))) (s.ag E) a w:=by
    refine ⟨k1.defers,fun p hp=>?_,k1.size,k1.am,k1.aw,k1.boxes2,k1.keys,k1.own,k1.ownkeys,k1.sep,k1.sepB,k1.one,k1.base,k1.fresh,k1.sub⟩
    rcases Ch.1 hp with rfl|hp
    ·exact ⟨Rz _,by simp [G0.withOwn]⟩
    exact k1.ay p hp
   refine ⟨u,fun w' hkw=>?_,(h u).out _ _ w ((k3.put o.dst k2).is)⟩;obtain ⟨dst,op',ty',pos,after,guard⟩:=o
   simp only at ho
   subst ho;obtain ⟨f,d,z,S⟩:=TI.of_spec (hT t i hi);have hd:Kq d=false:=by rw [←S.agg];exact hag
   have h1:=S.one hd
   have hrun:=Ja (hT t i hi) w' b (offb * es+jn * es+off) ((List.range i.size).map fun _=>u) Ey (fun p hp=>by
    obtain rfl:p=0:=by omega
    refine hkw.cell ?_;rw [show offb * es+jn * es+off+0=(offb+jn) * es+off by rw [G7];omega,cell_of_row w b _ cells ty (0,0) hb]
    simp only [h1,List.range_one,I1,Wx,A2f];rw [←hu,A0k]
    simp [hcl])
   simp only [execOp,hv,Instr.loadAt,Instr.sureAddr,Sem.run_bind,Sem.run_pure,Result.andThen_ok,hrun,hag,h1];rfl
variable {v : Value}
theorem C8x (k k2:Nat){c:Ag}(hk:Bm s.own k=some (.sl n es row))(hj:j<n)(hc:(row j)[off]? =some (.val v))(h2:Bm s.own k2=some c)(hl:Dw s.ay k2=some v)(hne:Nat.beq k k2=false)(c':Ag)(hu:Vf n es row j off [c] c')(h:GW P B Q K {s with own:=⟨k,c'⟩::Bb [k,k2] s.own}):GW P B Q K s:=by
 refine ⟨fun E a w hs=>?_⟩;have hm:=C5 hk;have hm2:=C5 h2;have hkk:k≠k2:=fun e=>by subst e;simp at hne
 obtain ⟨hklt,o2,o3⟩:=hs.own _ hm;obtain ⟨hklt2,p2,p3⟩:=hs.own _ hm2
 simp only at o2 o3 hklt p2 p3 hklt2
 have hlv:=(hs.ay _ (H0 hl)).2
 simp only at hlv
 have hI:=hs.drop [k,k2]
 have key:∀z,(z∈E.fp k∨z∈E.fp k2)→s.ag E z∧¬ ({s with own:=Bb [k,k2] s.own}:AS).ag E z∧B.fresh z:=by
  intro z hz
  have:∃y∈s.own,y.key∈[k,k2]∧z∈E.fp y.key:=by
   rcases hz with hz|hz
   ·exact ⟨_,hm,by simp,hz⟩
   exact ⟨_,hm2,by simp,hz⟩
  obtain ⟨y,hy,hyk,hz⟩:=this;have hav:s.ag E z:= .inr ⟨_,hy,hz⟩;refine ⟨hav,?_,hs.fresh z hav⟩
  rintro (⟨r,hr',rfl⟩|⟨r,hr',hz'⟩)
  ·exact hs.sepB r hr' _ hy hz
  obtain ⟨q1,q2⟩:=Bl.1 hr';exact hs.sep _ hy r q1 (fun e=>q2 (e▸hyk)) z hz hz'
 have hsep:=hs.sep _ hm _ hm2 hkk;generalize hov:E.ov k=vv,hfp:E.fp k=fp at o2 o3
 cases o2 with
 |nil=>omega
 |emp=>omega
 |sl _ _ _ b offb cap ty cells fps hn hcp hb hcs hl' hr=>
  have hoff:off<es:=by have:=(Cx.1 hc).1;rwa [hl' j hj] at this
  have hin:=hr j off _ hj hc;generalize hu':cells.getD ((offb+j) * es+off) undef=u at hin
  have huv:u=v:=by
   revert hin
   generalize fps (j * es+off)=g;intro hin
   cases hin;rfl
  obtain ⟨s1,s2⟩:=A77 hn hcp hb hcs hl' hr o3 hj hoff (c:=c) (g:=E.fp k2) (by rw [hu',huv,←hlv];exact p2) p3 (fun z hz=>by
   refine ⟨fun e=>?_,fun p hp _ hz'=>?_⟩
   ·subst e
    exact hsep z (by simp only [hfp];simp) hz
   exact hsep z (by simp only [hfp];exact Db _ (Dy hp hz')) hz) hu
  have hI3:=hI.addAt (k:=k) hklt (fun y' hy=>fun e=>(Bl.1 hy).2 (by rw [e];simp)) (by rw [hov];exact s1) s2 (fun z hz=>by
   rcases Ch.1 hz with rfl|hz
   ·exact key z (.inl (by rw [hfp];simp))
   obtain ⟨p,hp,hz⟩:=Ee.1 hz
   split at hz
   ·exact key z (.inr hz)
   exact key z (.inl (by rw [hfp];exact Db _ (Ee.2 ⟨p,hp,hz⟩))))
  exact h.out _ a w hI3.is
theorem U5 (i es:Nat)(row:Nat→List Ag)(hi:Ik s.am i= .c (.val (.slice none 0 0)))(h:GW P B Q K {s with am:=C9 s.am i (.own s.next),own:=⟨s.next,.sl 0 es row⟩::s.own,next:=s.next+1}):GW P B Q K s:=by
 refine ⟨fun E a w hs=>?_⟩;have hI:s.isA B E (s.ag E) a w:=⟨hs.defers,hs.ay,hs.size,hs.am,hs.aw,hs.boxes2,hs.keys,hs.own,hs.ownkeys,hs.sep,hs.sepB,hs.one,hs.base,hs.fresh,fun _ h=>h⟩
 obtain ⟨k1,k2⟩:=hI.addOwn (.nil es row) Ey Ey;have k3:=k1.is;refine h.out (E.withOwn s.next (.slice none 0 0) []) a w ⟨k3.defers,k3.ay,by rw [k3.size];exact (Bk _ _ _).symm,fun m z hz=>?_,k3.aw,k3.boxes2,k3.keys,k3.own,k3.ownkeys,k3.sep,k3.sepB,k3.one,k3.base,k3.fresh⟩
 simp only at hz
 rw [Co] at hz
 split at hz
 ·rename_i hm
  obtain ⟨rfl,hm⟩:=hm;obtain rfl:=E6 hz;have hd:=hs.am i (.c (.val (.slice none 0 0))) (by rw [Ce,Dl hm] at hi;rw [Dl hm];simpa using hi);rw [B3 hd]
  have:Cy (E.withOwn s.next (.slice none 0 0) []) w _ _ (.own s.next) (.slice none 0 0):=k2
  exact this.move (Ds _) (fun _ _=>⟨rfl,rfl⟩) (fun _ _ _=>rfl) (fun b _ hb=>k1.sub b hb)
 exact k3.am m z hz
abbrev Cn (xs:List Int):Ag:=Mx 1 (fun n=>[vi n]) xs
abbrev Df (xs:List Bool):Ag:=Mx 1 (fun b=>[vb b]) xs
abbrev C6 (xs:List ByteArray):Ag:=Mx 1 (fun b=>[vs b]) xs
structure Iz where
 ab:Int
 turn:Int
 deriving Inhabited,DecidableEq
def Iz.c (x:Iz):List Ag:=[vi x.ab,vi x.turn]
structure D3z where
 af:Iz
 n:Int
 deriving Inhabited,DecidableEq
structure Aa where
 op:Int
 af:Iz
 key:Int
 val:Int
 deriving Inhabited,DecidableEq
def Aa.c (x:Aa):List Ag:=[vi x.op,vi x.af.ab,vi x.af.turn,vi x.key,vi x.val]
abbrev A9 (xs:List Aa):Ag:=Mx 5 Aa.c xs
structure D5 where
 cap:Int
 ar:List Aa
 bv:Int
 back:Int
 bj:Int
 got:Int
 deriving Inhabited,DecidableEq
def D5.c (x:D5):List Ag:=[vi x.cap,A9 x.ar,vi x.bv,vi x.back,vi x.bj,vi x.got]
abbrev Ba (xs:List D5):Ag:=Mx 6 D5.c xs
structure C3 where
 kind:Int
 a:Int
 b:Int
 ax:List Int
 deriving Inhabited,DecidableEq
def C3.c (x:C3):List Ag:=[vi x.kind,vi x.a,vi x.b,Cn x.ax]
abbrev At (xs:List C3):Ag:=Mx 4 C3.c xs
structure B0 where
 ak:List C3
 aq:Int
 cap:Int
 deriving Inhabited,DecidableEq
def B0.c (x:B0):List Ag:=[At x.ak,vi x.aq,vi x.cap]
structure Ad where
 op:Int
 ab:Int
 key:Int
 val:Int
 deriving Inhabited,DecidableEq
def Ad.c (x:Ad):List Ag:=[vi x.op,vi x.ab,vi x.key,vi x.val]
abbrev Ai (xs:List Ad):Ag:=Mx 4 Ad.c xs
structure H6 where
 ab:Int
 ao:Bool
 deriving Inhabited,DecidableEq
def H6.c (x:H6):List Ag:=[vi x.ab,vb x.ao]
abbrev I0 (xs:List H6):Ag:=Mx 2 H6.c xs
structure Ae where
 ar:List Aa
 aa:List Aa
 au:List Aa
 cells:List Ad
 al:List Int
 ah:List Bool
 ai:List Bool
 an:List H6
 deriving Inhabited,DecidableEq
def Ae.c (x:Ae):List Ag:=[A9 x.ar,A9 x.aa,A9 x.au,Ai x.cells,Cn x.al,Df x.ah,Df x.ai,I0 x.an]
abbrev Af (xs:List Ae):Ag:=Mx 8 Ae.c xs
structure Gg where
 bz:Bool
 aj:Int
 sum:Int
 ah:Bool
 ao:Bool
 deriving Inhabited,DecidableEq
def Gg.c (x:Gg):List Ag:=[vb x.bz,vi x.aj,vi x.sum,vb x.ah,vb x.ao]
abbrev Aw (xs:List Gg):Ag:=Mx 5 Gg.c xs
structure De where
 to_:Int
 ab:Int
 ao:Bool
 deriving Inhabited,DecidableEq
def De.c (x:De):List Ag:=[vi x.to_,vi x.ab,vb x.ao]
abbrev Bf (xs:List De):Ag:=Mx 3 De.c xs
structure A3 where
 az:B0
 aq:List Ae
 ay:List D5
 ap:List Gg
 ac:List De
 deriving Inhabited,DecidableEq
def A3.c (x:A3):List Ag:=[At x.az.ak,vi x.az.aq,vi x.az.cap,Af x.aq,Ba x.ay,Aw x.ap,Bf x.ac]
structure Do where
 kind:Int
 a:Int
 b:Int
 deriving Inhabited,DecidableEq
def Do.c (x:Do):List Ag:=[vi x.kind,vi x.a,vi x.b]
abbrev D7 (xs:List Do):Ag:=Mx 3 Do.c xs
structure C7 where
 az:B0
 au:List Aa
 ae:List Do
 bq:Int
 deriving Inhabited,DecidableEq
def C7.c (x:C7):List Ag:=[At x.az.ak,vi x.az.aq,vi x.az.cap,A9 x.au,D7 x.ae,vi x.bq]
def wS {α:Type} (w:α→Nat) (xs:List α):Nat:=xs.length+(xs.map w).sum
def Iz.ok (x:Iz):Prop:=Gv .i64 x.ab∧Gv .i64 x.turn
def Aa.ok (x:Aa):Prop:=Gv .i64 x.op∧x.af.ok∧Gv .i64 x.key∧Gv .i64 x.val
def D5.w (x:D5):Nat:=x.ar.length
def D5.ok (x:D5):Prop:=Gv .i64 x.cap∧(x.ar.length≤maxLen∧∀y∈x.ar,y.ok)∧Gv .i64 x.bv∧Gv .i64 x.back∧Gv .i64 x.bj∧Gv .i64 x.got
def C3.w (x:C3):Nat:=x.ax.length
def C3.ok (x:C3):Prop:=Gv .i64 x.kind∧Gv .i64 x.a∧Gv .i64 x.b∧(x.ax.length≤maxLen∧∀y∈x.ax,Gv .i64 y)
def B0.w (x:B0):Nat:=wS C3.w x.ak
def B0.ok (x:B0):Prop:=(x.ak.length≤maxLen∧∀y∈x.ak,y.ok)∧Gv .i64 x.aq∧Gv .i64 x.cap
def Ad.ok (x:Ad):Prop:=Gv .i64 x.op∧Gv .i64 x.ab∧Gv .i64 x.key∧Gv .i64 x.val
def H6.ok (x:H6):Prop:=Gv .i64 x.ab
def Ae.w (x:Ae):Nat:=x.ar.length+x.aa.length+x.au.length+x.cells.length+x.al.length+x.ah.length+x.ai.length+x.an.length
def Ae.ok (x:Ae):Prop:=(x.ar.length≤maxLen∧∀y∈x.ar,y.ok)∧(x.aa.length≤maxLen∧∀y∈x.aa,y.ok)∧(x.au.length≤maxLen∧∀y∈x.au,y.ok)∧(x.cells.length≤maxLen∧∀y∈x.cells,y.ok)∧(x.al.length≤maxLen∧∀y∈x.al,Gv .i64 y)∧x.ah.length≤maxLen∧x.ai.length≤maxLen∧(x.an.length≤maxLen∧∀y∈x.an,y.ok)
def Gg.ok (x:Gg):Prop:=Gv .i64 x.aj∧Gv .i64 x.sum
def De.ok (x:De):Prop:=Gv .i64 x.to_∧Gv .i64 x.ab
def A3.w (x:A3):Nat:=x.az.w+wS Ae.w x.aq+wS D5.w x.ay+x.ap.length+x.ac.length
def A3.ok (x:A3):Prop:=x.az.ok∧(x.aq.length≤maxLen∧∀y∈x.aq,y.ok)∧(x.ay.length≤maxLen∧∀y∈x.ay,y.ok)∧(x.ap.length≤maxLen∧∀y∈x.ap,y.ok)∧(x.ac.length≤maxLen∧∀y∈x.ac,y.ok)
def Do.ok (x:Do):Prop:=Gv .i64 x.kind∧Gv .i64 x.a∧Gv .i64 x.b
def C7.w (x:C7):Nat:=x.az.w+x.au.length+x.ae.length
def C7.ok (x:C7):Prop:=x.az.ok∧(x.au.length≤maxLen∧∀y∈x.au,y.ok)∧(x.ae.length≤maxLen∧∀y∈x.ae,y.ok)∧Gv .i64 x.bq
variable {α : Type}
theorem D1f [Inhabited α] (w:α→Nat)(xs:List α)(k:Nat)(hk:k<xs.length):((xs.take (k+1)).map w).sum=((xs.take k).map w).sum+w (xs.getD k default):=by
 rw [List.take_add_one,Qu,List.sum_append,Dl hk]
 simp [List.getD,hk]
theorem Iu [Inhabited α] (w:α→Nat)(xs:List α)(k:Nat)(hk:k<xs.length):((xs.take k).map w).sum+w (xs.getD k default)≤(xs.map w).sum:=by
 rw [←D1f w xs k hk]
 conv=>rhs;rw [←Pk (k+1) xs,Qu,List.sum_append]
 omega
theorem C81 (w:α→Nat)(xs:List α):wS w xs=xs.length+(xs.map w).sum:=rfl
theorem Fj (b:ByteArray):(b==b)=true:=by rw [beq_toListBytes];simp
theorem Kl {a b:ByteArray}(h:(a==b)=true):a=b:=by
 rw [beq_toListBytes] at h;have h:=eq_of_beq h;rw [ByteArray.toList_eq,ByteArray.toList_eq] at h;obtain ⟨⟨x⟩⟩:=a;obtain ⟨⟨y⟩⟩:=b
 simp at h
 rw [h]
open Go.RowKit (Below)
def B00 (c c':Ag):Prop:=c'=c∨(c= .val (.slice none 0 0)∧∃es row,c'= .sl 0 es row)
def I8 (cs cs':List Ag):Prop:=
 match cs,cs' with
 | [],[]=>True
 |c::cs,c'::cs'=>B00 c c'∧I8 cs cs'
 |_,_=>False
variable {cs : List Ag}
theorem I8.get {cs':List Ag}(h:I8 cs cs'):cs'.length=cs.length∧∀(i:Nat) (c':Ag),cs'[i]? =some c'→∃c,cs[i]? =some c∧B00 c c':=by
 induction cs generalizing cs' with
 |nil=>cases cs'<;>simp_all [I8]
 |cons c cs ih=>
  cases cs' with
  |nil=>simp [I8] at h
  |cons c' cs'=>
   obtain ⟨h1,h2⟩:=h;obtain ⟨g1,g2⟩:=ih h2;refine ⟨by simp [g1],fun i d hd=>?_⟩
   cases i with
   |zero=>simp only [Ha,Ex] at hd;subst hd;exact ⟨c,by simp,h1⟩
   |succ i=>simpa using g2 i d (by simpa using hd)
theorem B00.own {w:World}{c:Ag}{fp:List Nat}(h:B00 c c')(ho:Bw w c v fp):Bw w c' v fp:=by
 rcases h with rfl|⟨rfl,es,row,rfl⟩
 ·exact ho
 cases ho;exact .nil es row
theorem B00.refl (c:Ag):B00 c c:= .inl rfl
def Kk (c c':Ag):Prop:=
 match c,c' with
 | .sl n es row,.sl n' es' row'=>n'=n∧es'=es∧∀i,i<n→I8 (row i) (row' i)
 |_,_=>False
theorem Kk.own {w:World}{c:Ag}{fp:List Nat}(h:Kk c c')(ho:Bw w c v fp):Bw w c' v fp:=by
 cases ho with
 |val x hx=>cases c'<;>exact h.elim
 |nil es row=>
  cases c' with
  |val=>exact h.elim
  |sl n' es' row'=>
   obtain ⟨rfl,rfl,_⟩:=h;exact .nil _ row'
 |emp es row b0 o0=>
  cases c' with
  |val=>exact h.elim
  |sl n' es' row'=>
   obtain ⟨rfl,rfl,_⟩:=h;exact .emp _ row' b0 o0
 |sl n es row b off cap ty cells fps hn hc hb hs hl hr=>
  cases c' with
  |val=>exact h.elim
  |sl n' es' row'=>
   obtain ⟨rfl,rfl,h⟩:=h;refine .sl _ _ row' b off cap ty cells fps hn hc hb hs (fun i hi=>?_) (fun i j d hi hd=>?_)
   ·rw [(h i hi).get.1];exact hl i hi
   obtain ⟨c,h1,h2⟩:=(h i hi).get.2 j d hd;exact h2.own (hr i j c hi h1)
def Ji (l:List Ow) (k:Nat) (c:Ag):List Ow:=
 match l with
 | []=>[]
 |y::r=>match Nat.beq y.key k with
  |true=>⟨k,c⟩::Ji r k c
  |false=>y::Ji r k c
theorem Xs {l:List Ow}{c:Ag}{y:Ow}(h:y∈Ji l k c):(y.key=k∧y.cell=c∧∃z∈l,z.key=k)∨(y∈l∧y.key≠k):=by
 induction l with
 |nil=>simp [Ji] at h
 |cons x r ih=>
  unfold Ji at h
  split at h
  ·rename_i e
   have e:=Fl e
   rcases Ch.1 h with rfl|h
   ·exact .inl ⟨rfl,rfl,x,by simp,e⟩
   rcases ih h with ⟨h1,h2,z,hz,h3⟩|⟨h1,h2⟩
   ·exact .inl ⟨h1,h2,z,Db _ hz,h3⟩
   exact .inr ⟨Db _ h1,h2⟩
  rename_i e
  rcases Ch.1 h with rfl|h
  ·exact .inr ⟨by simp,fun e'=>by rw [e',Nat.beq_refl] at e;cases e⟩
  rcases ih h with ⟨h1,h2,z,hz,h3⟩|⟨h1,h2⟩
  ·exact .inl ⟨h1,h2,z,Db _ hz,h3⟩
  exact .inr ⟨Db _ h1,h2⟩
theorem Zt (l:List Ow)(k:Nat)(c:Ag):(Ji l k c).map (·.key)=l.map (·.key):=by
 induction l with
 |nil=>rfl
 |cons x r ih=>
  unfold Ji
  split
  ·rename_i e
   have e:=Fl e
   simp [ih,e]
  simp [ih]
theorem Ih {l:List Ow}{c:Ag}{y:Ow}(h:y∈Ji l k c):∃z∈l,z.key=y.key:=by
 rcases Xs h with ⟨h1,_,z,hz,h3⟩|⟨h1,_⟩
 ·exact ⟨z,hz,h3.trans h1.symm⟩
 exact ⟨y,h1,rfl⟩
theorem Eu (k:Nat)(c':Ag){c:Ag}(hk:Bm s.own k=some c)(hc:Kk c c')(h:GW P B Q K {s with own:=Ji s.own k c'}):GW P B Q K s:=by
 refine ⟨fun E a w hs=>?_⟩;have hm:=C5 hk
 have av:∀b,({s with own:=Ji s.own k c'}:AS).ag E b→s.ag E b:=by
  rintro b (hb|⟨y,hy,hb⟩)
  ·exact .inl hb
  obtain ⟨z,hz,e⟩:=Ih hy;exact .inr ⟨z,hz,by rw [e];exact hb⟩
 have mv:∀x v,Cy E w (s.ag E) s.next x v→Cy E w (({s with own:=Ji s.own k c'}:AS).ag E) s.next x v:=fun x v hx=>
  hx.move (Ds _) (fun _ _=>⟨rfl,rfl⟩) (fun _ _ _=>rfl) (fun b _ hb=>av b hb)
 refine h.out E a w ⟨hs.defers,hs.ay,hs.size,fun i x hx=>mv _ _ (hs.am i x hx),fun x hx=>?_,hs.boxes2,hs.keys,fun y hy=>?_,by rw [Zt];exact hs.ownkeys,fun y hy z hz hne=>?_,fun x hx y hy=>?_,hs.one,hs.base,fun b hb=>hs.fresh b (av b hb)⟩
 ·obtain ⟨h1,vs,ty,h2,h3,h4⟩:=hs.aw x hx
  exact ⟨h1,vs,ty,h2,h3,fun i y hy=>mv _ _ (h4 i y hy)⟩
 ·rcases Xs hy with ⟨h1,h2,_⟩|⟨h1,_⟩
  ·obtain ⟨g1,g2,g3⟩:=hs.own _ hm
   rw [h1,h2];exact ⟨g1,hc.own g2,g3⟩
  exact hs.own y h1
 ·obtain ⟨y',hy',e1⟩:=Ih hy
  obtain ⟨z',hz',e2⟩:=Ih hz;rw [←e1,←e2];exact hs.sep y' hy' z' hz' (by rw [e1,e2];exact hne)
 obtain ⟨y',hy',e1⟩:=Ih hy;rw [←e1];exact hs.sepB x hx y' hy'
theorem B5j [Inhabited α] {e:α→List Ag}{xs:List α}(h:∀i,i<xs.length→I8 (row i) (e (xs.getD i default))):Kk (.sl xs.length es row) (Mx es e xs):=
 ⟨rfl,rfl,h⟩
theorem C24 [Inhabited α] {e:α→List Ag}{z:List Ag}(n:Nat)(h:I8 z (e default)):Kk (.sl n es fun _=>z) (Mx es e (List.replicate n default)):=
 ⟨Pl,rfl,fun i hi=>by
  have:(List.replicate n (default:α)).getD i default=default:=by simp [List.getD,hi]
  show I8 z (e ((List.replicate n default).getD i default))
  rw [this];exact h⟩
open Go.RowKit (Below)
def Wk (cs cs':List Ag):Prop:=cs'.length=cs.length∧∀(i:Nat) (c':Ag),cs'[i]? =some c'→∃c,cs[i]? =some c∧∀w A v,Qv w A c v→Qv w A c' v
theorem Wk.refl (cs:List Ag):Wk cs cs:=⟨rfl,fun _ c h=>⟨c,h,fun _ _ _ h=>h⟩⟩
theorem D3u [Inhabited α] {e:α→List Ag}{ok:α→Prop}(h:∀i,i<n→∃x,ok x∧Wk (row i) (e x)):
  ∃xs:List α,xs.length=n∧(∀y∈xs,ok y)∧Wk [.sl n es row] [Mx es e xs]:=by
 have hex:∀i,∃x,i<n→ok x∧Wk (row i) (e x):=fun i=>by
  by_cases hi:i<n
  ·obtain ⟨x,hx⟩:=h i hi;exact ⟨x,fun _=>hx⟩
  exact ⟨default,fun h=>absurd h hi⟩
 let g:=fun i=>Classical.choose (hex i)
 have hg:∀i,i<n→ok (g i)∧Wk (row i) (e (g i)):=fun i=>Classical.choose_spec (hex i);have hget:∀i,i<n→((List.range n).map g).getD i default=g i:=fun i hi=>by simp [List.getD,hi]
 refine ⟨(List.range n).map g,by simp,fun y hy=>?_,rfl,fun i c hc=>?_⟩
 ·obtain ⟨i,hi,rfl⟩:=Fm.1 hy
  exact (hg i (Fz.1 hi)).1
 cases i with
 |succ i=>simp at hc
 |zero=>
  simp only [Ha,Ex] at hc;subst hc;refine ⟨_,rfl,fun w A v hr=>?_⟩;have hlen:((List.range n).map g).length=n:=by simp
  unfold Mx;rw [hlen]
  cases hr with
  |nil=>exact .nil _ _
  |emp _ _ a=>exact .emp _ _ a
  |sl _ _ _ b off cap u hA hn hc hl hu hr=>
   refine .sl n es _ b off cap u hA hn hc (fun i hi=>?_) hu (fun i j c hi hc=>?_)
   ·rw [hget i hi,(hg i hi).2.1];exact hl i hi
   rw [hget i hi] at hc;obtain ⟨c0,h1,h2⟩:=(hg i hi).2.2 j c hc;exact h2 _ _ _ (hr i j c0 hi h1)
theorem Wk.repL {w:World}{xs ys:List Ag}{cs:List Value}(h:Wk xs ys)(hr:Z0 w xs cs):Z0 w ys cs:=by
 refine ⟨h.1.trans hr.1,fun i c hc=>?_⟩;obtain ⟨c0,h1,h2⟩:=h.2 i c hc;exact h2 _ _ _ (hr.2 i c0 h1)
theorem Z0.arg1 {w:World}{c:Ag}(h:Z0 w [c] [v]):Q6 w (fun _=>False) (.one c) v:=h.2 0 c rfl
def Hl (row:Nat→List Ag) (j:Nat) (r:List Ag):Nat→List Ag:=fun i=>if i=j then r else row i
theorem Cu (row:Nat→List Ag)(j:Nat)(r:List Ag):Hl row j r j=r:=by simp [Hl]
theorem O9 (row:Nat→List Ag)(j i:Nat)(r:List Ag)(h:i≠j):Hl row j r i=row i:=by simp [Hl,h]
variable {r : List Ag}
theorem B2q (h:Ed (row j) off cs=r):Vf n es row j off cs (.sl n es (Hl row j r)):=
 ⟨_,rfl,fun _ _ hi=>O9 _ _ _ _ hi,by rw [Cu,h]⟩
theorem I8.refl (cs:List Ag):I8 cs cs:=by
 induction cs with
 |nil=>trivial
 |cons c cs ih=>exact ⟨.refl c,ih⟩
theorem C0t {r':List Ag}(h:Ed r off cs=r'):Vf n es (Hl row j r) j off cs (.sl n es (Hl row j r')):=
 ⟨_,rfl,fun _ _ hi=>by rw [O9 _ _ _ _ hi,O9 _ _ _ _ hi],by rw [Cu,Cu,h]⟩
theorem C90 (row:Nat→List Ag)(j off:Nat)(v:Value)(hr:row j=r):(fun i=>if i=j then Ed (row i) off [.val v] else row i)=Hl row j (Ed r off [.val v]):=by
 funext i
 unfold Hl
 by_cases h:i=j
 ·subst h;rw [Ak rfl,Ak rfl,hr]
 rw [Ab h,Ab h]
open Go.RowKit (Below) in
theorem C8y {P:Program}(k k2:Nat)(off:Nat){c:Ag}(hk:Bm s.own k=some (.sl n es (Hl row j r)))(hj:j<n)(hc:r[off]? =some (.val v))(h2:Bm s.own k2=some c)(hl:Dw s.ay k2=some v)(hne:Nat.beq k k2=false){r':List Ag}(hr:Ed r off [c]=r')(h:GW P B Q K {s with own:=⟨k,.sl n es (Hl row j r')⟩::Bb [k,k2] s.own}):GW P B Q K s:=
 C8x k k2 hk hj (off:=off) (by rw [Cu];exact hc) h2 hl hne _ (C0t hr) h
theorem getD_set_self (l:List α)(j:Nat)(x d:α)(h:j<l.length):(l.set j x).getD j d=x:=by simp [List.getD,h]
theorem getD_set_ne (l:List α)(i j:Nat)(x d:α)(h:i≠j):(l.set j x).getD i d=l.getD i d:=by simp [List.getD,List.getElem?_set_ne (Ne.symm h)]
theorem Lu [Inhabited α] {e:α→List Ag}{xs:List α}{x1 x2:α}(hj:j<xs.length)(h:Ed (e x1) off cs=e x2):
  Vf (xs.set j x1).length es (fun i=>e ((xs.set j x1).getD i default)) j off cs (Mx es e (xs.set j x2)):=by
 refine ⟨_,by rw [Mx,K0,K0],fun i _ hne=>?_,?_⟩
 ·simp only [getD_set_ne _ _ _ _ _ hne]
 simp only [getD_set_self _ _ _ _ hj,h]
theorem Ht [Inhabited α] {e:α→List Ag}{xs:List α}{x2:α}(hj:j<xs.length)(h:Ed r off cs=e x2):
  Vf xs.length es (Hl (fun i=>e (xs.getD i default)) j r) j off cs (Mx es e (xs.set j x2)):=by
 refine ⟨_,by rw [Mx,K0],fun i _ hne=>?_,?_⟩
 ·simp only [getD_set_ne _ _ _ _ _ hne,O9 _ _ _ _ hne]
 simp only [getD_set_self _ _ _ _ hj,Cu,h]
theorem Ep [Inhabited α] (xs:List α)(k:Nat)(h:k<xs.length):xs.take (k+1)=xs.take k++[xs.getD k default]:=by
 rw [List.take_add_one];simp [List.getD,h]
theorem Er [Inhabited α] (p:α→Bool)(xs:List α)(k:Nat)(h:k<xs.length):
  (xs.take (k+1)).filter p=(xs.take k).filter p++(if p (xs.getD k default)=true then [xs.getD k default] else []):=by
 rw [Ep xs k h,List.filter_append]
 congr 1
 by_cases hp:p (xs.getD k default)=true
 ·rw [Ak hp,List.filter_cons_of_pos hp,List.filter_nil]
 rw [Ab hp,List.filter_cons_of_neg hp,List.filter_nil]
theorem E8 (p:α→Bool)(xs:List α)(k:Nat):((xs.take k).filter p).length≤xs.length:=by
 have h1:=Nr p (xs.take k);have h2:=Ly k xs;have h3:=List.length_take_le' k xs;omega
variable {β : Type}
theorem B9d [Inhabited α] (f:β→α→β)(z:β)(xs:List α)(k:Nat)(h:k<xs.length):
  (xs.take (k+1)).foldl f z=f ((xs.take k).foldl f z) (xs.getD k default):=by
 rw [Ep xs k h,A3l];rfl
theorem T2 [Inhabited α] (f:α→β)(xs:List α)(k:Nat)(h:k<xs.length):
  (xs.take (k+1)).map f=(xs.take k).map f++[f (xs.getD k default)]:=by
 rw [Ep xs k h,Qu];rfl
theorem B27 [Inhabited α] (f:α→List β)(xs:List α)(k:Nat)(h:k<xs.length):
  (xs.take (k+1)).flatMap f=(xs.take k).flatMap f++f (xs.getD k default):=by
 rw [Ep xs k h,Wu];simp
theorem C5h [Inhabited α] (p:α→Bool)(xs:List α)(k:Nat)(h:k<xs.length):
  (xs.take (k+1)).any p=((xs.take k).any p||p (xs.getD k default)):=by
 rw [Ep xs k h,List.any_append];simp
theorem A6a [Inhabited α] (p:α→Bool)(xs:List α)(k:Nat)(h:k<xs.length):
  (xs.take (k+1)).all p=((xs.take k).all p&&p (xs.getD k default)):=by
 rw [Ep xs k h,List.all_append];simp
theorem Al {d:α}{xs:List α}(h:k<xs.length):xs.getD k d∈xs:=by
 rw [List.getD,Dl h];exact A9f h
theorem R7 [Inhabited α] {p:α→Bool}{xs:List α}(h:k<xs.length)(hp:p (xs.getD k default)=true):xs.any p=true:=
 Th.2 ⟨_,Al h,hp⟩
theorem A3u [Inhabited α] {p:α→Bool}{xs:List α}(h:k<xs.length)(hp:p (xs.getD k default)=false):xs.all p=false:=by
 rw [List.all_eq_false];exact ⟨xs.getD k default,Al h,by rw [hp];decide⟩
theorem Ej (xs:List α)(k:Nat)(h:¬ k<xs.length):xs.take k=xs:=Ms A7
theorem C0 [Inhabited α] {e:α→List Ag}:Kk (.sl 0 es row) (Mx es e ([]:List α)):=⟨rfl,rfl,fun _ h=>nomatch h⟩
variable {q : Prop} {p : Prop} {b : Bool}
theorem Yc (hb:b=true)(h:p):(b=true→p)∧(b=false→q):=⟨fun _=>h,fun e=>by rw [hb] at e;cases e⟩
theorem Vy (hb:b=false)(h:q):(b=true→p)∧(b=false→q):=⟨fun e=>(by rw [hb] at e;cases e),fun _=>h⟩
theorem Gn (hq:q)(hp:p:=by first|omega|(show _∧_;omega)|((repeat (first|rw [Gr]|rw [bsz]|rw [Gq]|rw [Fb]|rw [H3]))<;>omega)|((repeat rw [Bv])<;>first|omega|(show _∧_;omega))|(simp only [Gr,bsz,Gq,Fb,H3];omega)|(simp only [Bv];first|omega|(show _∧_;omega))|decide):p∧q:=⟨hp,hq⟩
theorem Cp (hq:q)(hp:p:=by first|omega|(show _∧_;omega)|((repeat (first|rw [Gr]|rw [bsz]|rw [Gq]|rw [Fb]|rw [H3]))<;>omega)|((repeat rw [Bv])<;>first|omega|(show _∧_;omega))|(simp only [Gr,bsz,Gq,Fb,H3];omega)|(simp only [Bv];first|omega|(show _∧_;omega))|decide|(simp only [Qt,Ti,bne_iff_ne,A0m,Mq,Us,Go.Sx.Cl,Go.Sx.Gd,Np,Ta,ne_eq,Int.not_lt,Int.not_le,ge_iff_le,gt_iff_lt,Int.toNat_zero,Int.toNat_one,Bv] at * <;>first|omega|(show _∧_;omega))):p∧q:=⟨hp,hq⟩
theorem skf (h:q)(hb:b=false:=by first|with_reducible rfl|assumption|(simp;done)|fail):(b=true→p)∧(b=false→q):=Vy hb h
theorem skt (h:p)(hb:b=true:=by first|with_reducible rfl|assumption|(simp;done)|fail):(b=true→p)∧(b=false→q):=Yc hb h
theorem Ho (h:q)(hb:b=false:=by first|with_reducible rfl|assumption):(b=true→p)∧(b=false→q):=Vy hb h
theorem Hp (h:p)(hb:b=true:=by first|with_reducible rfl|assumption):(b=true→p)∧(b=false→q):=Yc hb h
open Go.RowKit (Below)
theorem B8t (hT:Bz P T){B:Fg}{Q:Exit→Act→World→Prop}{q:Bool}{all:Array Oper}{o:Oper}{rest:List Oper}{K:List KI}{s:AS}{t e:TypeId}{len:Nat}{parts:Array (Nat×Operand)}{i j:TI}
  (hg:o.guard=none)(ho:o.op= .buildSlice t len parts)(hi:find T t=some i)(hie:i.elem=some e)(hj:find T e=some j)(hsm:(Nat.ble (len * j.size) 10000&&Nat.blt 0 j.size)=true)
  {l:List AV}(hcs:Ts T (K6 len 0 j.size e) s parts.toList (repL len (Jt j))=some l){cs:List Ag}{ks:List Nat}(hc:V2 s.own l=some (cs,ks))(hkd:Gc ks=true)
  (h:G P B Q (.ops q all rest::K) (({s with own:=⟨s.next,.sl len j.size fun i=>(cs.drop (i * j.size)).take j.size⟩::Bb ks s.own,next:=s.next+1}:AS).put o.dst (.own s.next))):G P B Q (.ops q all (o::rest)::K) s:=by
 refine Ic hg (by rw [ho];simp [Dk]) (fun E a w hs=>?_);obtain ⟨f,d,z,S⟩:=TI.of_spec (hT e j hj);have hzs:z.cells.size=j.size:=by have:=S.zlen;rw [←S.cells] at this;simpa using this
 simp only [Ci] at hsm;have hpos:=Kn hsm.2;have hsmall:=Dg hsm.1;have hlen:len≤len * j.size:=Nat.le_mul_of_pos_right _ hpos
 have hz0:DL E w (s.ag E) s.next (repL len (Jt j)) ((Array.range (len * j.size)).map (z.cells[· % z.cells.size]!)):=by
  refine ⟨by simp [Mk,Jt,S.zlen],fun k y hy=>?_⟩;have hzl:(Jt j).length=j.size:=by simp [Jt,S.zlen]
  have hk:k<len * j.size:=by have:=(Cx.1 hy).1;rwa [Mk,hzl] at this
  rw [B7f _ _ _ (by rw [hzl];exact hk),hzl] at hy
  have:=(A5v (hT e j hj) S.cells E w (s.ag E) s.next).2 _ _ hy
  have hm:k % j.size<z.cells.size:=by rw [hzs];exact A2c _ (A0d (fun h=>by rw [h] at hk;simp at hk))
  have e1:((Array.range (len * j.size)).map (z.cells[· % z.cells.size]!)).getD k undef=z.cells.getD (k % j.size) undef:=by
   have:=Qg z.cells (len * j.size) k hk
   rw [show (Array.range (len * j.size)).map (z.cells[· % z.cells.size]!)=madeCells z.cells (len * j.size) from rfl,this,hzs]
   rw [getElem!_pos z.cells _ hm];simp only [Array.getD,hm,dif_pos];rfl
  rw [e1];exact this
 obtain ⟨cs',hfill,hDL⟩:=B26 hT hs (K6 len 0 j.size e) (fun k=>some (k * j.size,j.size)) (fun k o u hk j' hj'=>by
  obtain ⟨rfl,rfl⟩:=Yr _ _ _ _ _ _ _ hk;rw [hj] at hj';obtain rfl:=E6 hj'
  simp) parts.toList _ _ l hcs hz0
 have hll:l.length=len * j.size:=by
  have:=Y4 hcs
  rw [this,Mk]
  simp [Jt,S.zlen]
 have hcsl:cs'.size=len * j.size:=by have:=hDL.1;omega
 have hrun:(Instr.buildSlice t len (parts.map fun p=>(p.1,a.eval p.2))).run P w= .ok (.slice (some ⟨w.heap.size,0,none⟩) len len) (w.alloc (.cells cs' e)):=by
  have hnot:¬ (16777216<len * j.size):=by omega
  have hfill':Instr.fill (fun k=>some (k * j.size,j.size)) ((Array.range (len * j.size)).map (z.cells[· % z.cells.size]!)) (parts.map fun p=>(p.1,a.eval p.2)).toList=some cs':=by
   rw [A9j];exact hfill
  by_cases h0:len * j.size=0
  ·simp [Instr.buildSlice,run_underlying (Bt (hT t i hi) hie),Bc (hT e j hj),h0,newRow,Array.range_zero']
   simp [h0,Array.range_zero'] at hfill'
   rw [hfill']
   simp
  simp [Instr.buildSlice,run_underlying (Bt (hT t i hi) hie),Bc (hT e j hj),hnot,h0,newRow,zeroValue,typeInfo,S.hf,S.hz]
  simp at hfill'
  rw [hfill']
  simp
 have hnd:=F5 hkd;obtain ⟨q1,q2,gps,q3,q4,q5⟩:=A76 hs hc hnd (vs:=cs'.toList) (by simp only [Mr];omega) (fun m z hz=>by rw [Bo];exact hDL.2 m z hz);have hcl:cs.length=len * j.size:=by omega
 have hbel:=Jh w (.cells cs' e)
 have hlt:∀b∈(List.range cs.length).flatMap gps,b<w.heap.size:=by
  intro b hb;obtain ⟨k,hk,hb1⟩:=Ee.1 (q5 b hb);obtain ⟨y,hy,rfl⟩:=q2 k hk;exact (hs.own y hy).2.1.lt b hb1
 have hown:=Bw.sl (w:=w.alloc (.cells cs' e)) len j.size (fun i=>(cs.drop (i * j.size)).take j.size) w.heap.size 0 len e cs' gps
  (Ds _) (by simp only [maxLen];omega) (heap_alloc_new w _) (by simp [hcsl]) (fun k hk=>by
   have h2:k * j.size+j.size≤len * j.size:=by rw [←Pi];exact Kh _ hk
   simp [hcl];omega) (fun k m c hk hc'=>by
   have hm:m<j.size:=by have:=(Cx.1 hc').1;simp at this;omega
   rw [X6,Ak hm,Tf] at hc';have ho:=q3 _ _ hc';rw [Bo] at ho;rw [show (0+k) * j.size+m=k * j.size+m by rw [S0]]
   refine ho.move (fun b hb=>?_);have hkl:k * j.size+m<cs.length:=(Cx.1 hc').1
   exact Hq w _ _ (hlt b (Ee.2 ⟨_,Fz.2 hkl,hb⟩)))
 rw [←hcl] at hown;have hfp:(w.heap.size::(List.range cs.length).flatMap gps).Nodup:=Is.2 ⟨fun hm=>Nat.lt_irrefl _ (hlt _ hm),q4⟩;have hI:=hs.drop ks
 have key:∀b,b∈(List.range cs.length).flatMap gps→s.ag E b∧¬ ({s with own:=Bb ks s.own}:AS).ag E b:=by
  intro b hb;obtain ⟨k,hk1,hb1⟩:=Ee.1 (q5 b hb);obtain ⟨y,hy,rfl⟩:=q2 k hk1;refine ⟨.inr ⟨y,hy,hb1⟩,?_⟩
  rintro (⟨u,hu,rfl⟩|⟨u,hu,hb'⟩)
  ·exact hs.sepB u hu y hy hb1
  obtain ⟨hz1,hz2⟩:=Bl.1 hu;exact hs.sep y hy u hz1 (fun e=>hz2 (e▸hk1)) b hb1 hb'
 have hkept:C2j (fun _=>False) w (w.alloc (.cells cs' e)):=⟨rfl,rfl,rfl,by simp,fun k hk _=>Hq w _ _ hk⟩
 have hI2:=hI.kept hkept (fun b hb=>hb.elim)
 obtain ⟨k1,k2⟩:=hI2.addOwn hown hfp (fun b hb=>by
  rcases Ch.1 hb with rfl|hb
  ·refine ⟨.inr (Ds _),fun hav=>?_,.inl hs.base.size⟩
   have:=hs.avoid_lt (hI.sub _ hav)
   omega
  exact ⟨.inl (key b hb).1,(key b hb).2,hs.fresh b (key b hb).1⟩)
 have hput:=(k1.put o.dst k2).is
 refine ⟨_,_,.inl (by
  obtain ⟨dst,op',ty',pos,after,guard⟩:=o
  simp only at ho
  subst ho
  simp only [execOp,Sem.run_bind,hrun,Result.andThen_ok];rfl),fun hk=>(by
   exact ⟨by simp,fun k hk=>Hq w _ _ hk⟩),h _ _ _ (by simpa [AS.addOwn] using hput)⟩
theorem Li (hT:Bz P T){q:Bool}{e:TypeId}{len:Nat}{parts:Array (Nat×Operand)}{j:TI}(hh:(o.guard,o.op,find T t,i.elem,find T e,(Nat.ble (len * j.size) 10000&&Nat.blt 0 j.size))=(none,.buildSlice t len parts,some i,some e,some j,true)){l:List AV}(hcs:Ts T (K6 len 0 j.size e) s parts.toList (repL len (Jt j))=some l){ks:List Nat}(hc:V2 s.own l=some (cs,ks))(hkd:Gc ks=true)(h:GW P B Q (.ops q all rest::K) (({s with own:=⟨s.next,.sl len j.size fun i=>(cs.drop (i * j.size)).take j.size⟩::Bb ks s.own,next:=s.next+1}:AS).put o.dst (.own s.next))):GW P B Q (.ops q all (o::rest)::K) s:=by
 simp only [Je] at hh;obtain ⟨hg,ho,hi,hie,hj,hsm⟩:=hh;exact ⟨B8t hT hg ho hi hie hj hsm hcs hc hkd (h.rec id)⟩
theorem AS.is.reBox {E:G0}{a:Act}{w:World}(h:s.is B E a w){b:Bx}(hb:G1 s.aw k=some b)(cells:List AV)(hd:∀vs:Array Value,vs.size=b.cells.length→(∀i y,b.cells[i]? =some y→Cy E w (s.ag E) s.next y (vs.getD i undef))→vs.size=cells.length∧∀j y,cells[j]? =some y→Cy E w (s.ag E) s.next y (vs.getD j undef)):
  ({s with aw:=Fw s.aw k cells}:AS).is B E a w:=by
 obtain ⟨hm,rfl⟩:=Fq hb
 have av:∀c,({s with aw:=Fw s.aw b.key cells}:AS).ag E c↔s.ag E c:=by
  intro c
  constructor
  ·rintro (⟨x,hx,rfl⟩|h)
   ·rcases Ft hx h.keys with ⟨h1,_,y,hy,h2⟩|⟨h1,_⟩
    ·exact .inl ⟨y,hy,by rw [h1,h2]⟩
    exact .inl ⟨x,h1,rfl⟩
   exact .inr h
  rintro (⟨x,hx,rfl⟩|h)
  ·obtain ⟨y,hy,e⟩:=B2i (k:=b.key) (cs:=cells) hx
   exact .inl ⟨y,hy,by rw [e]⟩
  exact .inr h
 have mv:∀x v,Cy E w (s.ag E) s.next x v→Cy E w (({s with aw:=Fw s.aw b.key cells}:AS).ag E) s.next x v:=
  fun x v hx=>hx.move (Ds _) (fun _ _=>⟨rfl,rfl⟩) (fun _ _ _=>rfl) (fun c _ hc=>(av c).1 hc)
 refine ⟨h.defers,h.ay,h.size,fun i x hx=>mv _ _ (h.am i x hx),?_,?_,?_,h.own,h.ownkeys,h.sep,?_,h.one,h.base,fun c hc=>h.fresh c ((av c).1 hc)⟩
 ·intro x hx
  rcases Ft hx h.keys with ⟨h1,h2,_⟩|⟨h1,_⟩
  ·obtain ⟨g1,vs,ty,g2,g3,g4⟩:=h.aw b hm
   obtain ⟨e1,e2⟩:=hd vs g3 g4;exact ⟨h1▸g1,vs,ty,by rw [h1];exact g2,by rw [h2];exact e1,fun j y hj=>mv _ _ (e2 j y (by rw [←h2];exact hj))⟩
  obtain ⟨g1,vs,ty,g2,g3,g4⟩:=h.aw x h1;exact ⟨g1,vs,ty,g2,g3,fun j y hj=>mv _ _ (g4 j y hj)⟩
 ·intro x hx y hy he
  rcases Ft hx h.keys with ⟨h1,_⟩|⟨h1,_⟩<;>rcases Ft hy h.keys with ⟨g1,_⟩|⟨g1,_⟩
  ·rw [h1,g1]
  ·rw [h1] at he ⊢
   exact h.boxes2 b hm y g1 he
  ·rw [g1] at he ⊢
   exact h.boxes2 x h1 b hm he
  exact h.boxes2 x h1 y g1 he
 ·show ((Fw s.aw b.key cells).map (·.key)).Nodup
  rw [Qq];exact h.keys
 intro x hx y hy
 rcases Ft hx h.keys with ⟨h1,_⟩|⟨h1,_⟩
 ·rw [h1];exact h.sepB b hm y hy
 exact h.sepB x h1 y hy
theorem Xz (k off es:Nat)(row:Nat→List Ag){b:Bx}(hb:G1 s.aw k=some b)(hi:Ik b.cells off= .c (.val (.slice none 0 0)))(h:GW P B Q K {s with aw:=Fw s.aw k (C9 b.cells off (.own s.next)),own:=⟨s.next,.sl 0 es row⟩::s.own,next:=s.next+1}):GW P B Q K s:=by
 refine ⟨fun E a w hs=>?_⟩;have hI:s.isA B E (s.ag E) a w:=⟨hs.defers,hs.ay,hs.size,hs.am,hs.aw,hs.boxes2,hs.keys,hs.own,hs.ownkeys,hs.sep,hs.sepB,hs.one,hs.base,hs.fresh,fun _ h=>h⟩
 obtain ⟨k1,k2⟩:=hI.addOwn (.nil es row) Ey Ey;have k3:=k1.is
 have k4:=k3.reBox (k:=k) (b:=b) hb (C9 b.cells off (.own s.next)) (fun vs h1 h2=>by
  refine ⟨by rw [Bk];exact h1,fun j y hj=>?_⟩;rw [Co] at hj
  split at hj
  ·rename_i hm
   obtain ⟨rfl,hm⟩:=hm;obtain rfl:=E6 hj;have hd:=h2 off (.c (.val (.slice none 0 0))) (by rw [Ce,Dl hm] at hi;rw [Dl hm];simpa using hi);rw [B3 hd];exact k2.move (Ds _) (fun _ _=>⟨rfl,rfl⟩) (fun _ _ _=>rfl) (fun b _ hb=>k1.sub b hb)
  exact h2 j y hj)
 exact h.out _ _ _ k4
theorem Aj (id:Nat)(hm:P.follows .mixedOrders=true){ops:Array Oper}(ord:List Nat)(hB:C7g ops ord=true)(h:GW P B Q (.ops true ops (Zi ops ord)::K) s):GW P B Q (.code (.region id ops true)::K) s:=D1k hm ord hB h
theorem Bs [Inhabited α] {e:α→List Ag}{row1:Nat→List Ag}{xs:List α}:Va 0 xs.length es row1 (fun i=>e (xs.getD i default)) (Mx es e xs):=
 ⟨_,by rw [Mx,S0],fun i hi=>by omega,fun i hi=>by simp⟩
theorem Ri [Inhabited α] {e:α→List Ag}(xs:List α)(h:∀x,∀c∈e x,∃v,c= .val v):F3 xs.length (fun i=>e (xs.getD i default)):=fun _ _=>h _
theorem Sv (xs:List Int):F3 xs.length (fun i=>[vi (xs.getD i default)]):=Ri (e:=fun n=>[vi n]) xs fun _x _c hc=>⟨_,I3.1 hc⟩
theorem Tu (xs:List Bool):F3 xs.length (fun i=>[vb (xs.getD i default)]):=Ri (e:=fun n=>[vb n]) xs fun _x _c hc=>⟨_,I3.1 hc⟩
theorem Q0 (xs:List ByteArray):F3 xs.length (fun i=>[vs (xs.getD i default)]):=Ri (e:=fun n=>[vs n]) xs fun _x _c hc=>⟨_,I3.1 hc⟩
theorem J4 (xs:List Aa):F3 xs.length (fun i=>Aa.c (xs.getD i default)):=Ri xs fun x c hc=>by
 simp only [Aa.c,Ch,Ph,T9] at hc
 rcases hc with rfl|rfl|rfl|rfl|rfl<;>exact ⟨_,rfl⟩
theorem Gi (xs:List Ad):F3 xs.length (fun i=>Ad.c (xs.getD i default)):=Ri xs fun x c hc=>by
 simp only [Ad.c,Ch,Ph,T9] at hc
 rcases hc with rfl|rfl|rfl|rfl<;>exact ⟨_,rfl⟩
theorem H7 (xs:List De):F3 xs.length (fun i=>De.c (xs.getD i default)):=Ri xs fun x c hc=>by
 simp only [De.c,Ch,Ph,T9] at hc
 rcases hc with rfl|rfl|rfl<;>exact ⟨_,rfl⟩
theorem A6z (xs:List H6):F3 xs.length (fun i=>H6.c (xs.getD i default)):=Ri xs fun x c hc=>by
 simp only [H6.c,Ch,Ph,T9] at hc
 rcases hc with rfl|rfl<;>exact ⟨_,rfl⟩
theorem Mh (xs:List Gg):F3 xs.length (fun i=>Gg.c (xs.getD i default)):=Ri xs fun x c hc=>by
 simp only [Gg.c,Ch,Ph,T9] at hc
 rcases hc with rfl|rfl|rfl|rfl|rfl<;>exact ⟨_,rfl⟩
def E4 (n lo hi:Int):Bool:=if n≥lo then decide (n≤hi) else false
def Cs (n lo hi:Int):Int:=if hi<lo∨n<lo then lo else if hi<n then hi else n
def Ev (key n:Int):Int:=if n<1 then 0 else if key.tmod n<0 then key.tmod n+n else key.tmod n
theorem Cl {n lo hi:Int}:E4 n lo hi=true↔lo≤n∧n≤hi:=by
 unfold E4
 split
 ·simp;omega
 simp;omega
theorem G2 (n lo hi:Int)(h:lo≤hi):lo≤Cs n lo hi∧Cs n lo hi≤hi:=by
 unfold Cs
 split
 ·omega
 split<;>omega
theorem C41 (k:Nat)(h:k<4611686018427387904):IntKind.i64.wrap ((k:Int)+1)=((k+1:Nat):Int):=by
 rw [L0 (by show _∧_;omega)];omega
variable {x : A3}
theorem A3.workers_le (h:x.w≤n):x.aq.length≤n:=by simp only [A3.w,wS] at h;omega
theorem A3.tokens_le (h:x.w≤n):x.ap.length≤n:=by simp only [A3.w,wS] at h;omega
theorem A3.news_le (h:x.w≤n):x.ac.length≤n:=by simp only [A3.w,wS] at h;omega
theorem A3.worker_le (h:x.w≤n)(hk:k<x.aq.length):((x.aq.take k).map Ae.w).sum+(x.aq.getD k default).w≤n:=by
 have:=Iu Ae.w x.aq k hk
 simp only [A3.w,wS] at h;omega
theorem A3.link_le (h:x.w≤n)(hk:k<x.ay.length):((x.ay.take k).map D5.w).sum+(x.ay.getD k default).w≤n:=by
 have:=Iu D5.w x.ay k hk
 simp only [A3.w,wS] at h;omega
theorem C1h (x y:Int):(x==y)=decide (x=y):=by rw [S3];simp
theorem B4x [Inhabited α] (a b:List α)(k:Nat)(h:a.take k=b.take k)(ha:k<a.length)(hb:k<b.length):a.take (k+1)=b.take (k+1)↔a.getD k default=b.getD k default:=by
 rw [Ep a k ha,Ep b k hb,h]
 simp
theorem Ad.eqv (x y:Ad):(x.op==y.op&&(x.ab==y.ab&&(x.key==y.key&&(x.val==y.val&&true))))=decide (x=y):=by
 obtain ⟨_,_,_,_⟩:=x;obtain ⟨_,_,_,_⟩:=y;rw [S3];simp [and_assoc]
def Ff (xs:List Aa) (e:Int):List Aa:=xs.filter fun r=>r.af.ab==e
def B9x (w:Ae) (e:Int):Bool:=w.au.any fun r=>decide (r.af.ab≤e)
def A9c (w:Ae) (e:Int):Nat:=(Ff w.ar e).length+(Ff w.aa e).length
def Lc (w:Ae) (e:Int):Bool:=if B9x w e then false else (A9c w e:Int)==0
def Kr (w:Ae) (e:Int):Bool:=w.an.any fun d=>d.ab==e
def Qp (c:A3) (e:Int):Bool:=if 0<c.aq.length then Kr (c.aq.getD 0 default) e else false
theorem O4 (xs:List Aa)(e:Int):(Ff xs e).length≤xs.length:=Nr _ _
def Hy {α:Type} (p:α→Bool):List α→Nat
 | []=>0
 |x::r=>if p x=true then 0 else Hy p r+1
def Pf {α:Type} (p:α→Bool) (xs:List α):Int:=if xs.any p=true then (Hy p xs:Int) else-1
theorem C6j [Inhabited α] (p:α→Bool)(xs:List α)(k:Nat)(h:(xs.take k).any p=false)(hk:k<xs.length)(hp:p (xs.getD k default)=true):Hy p xs=k:=by
 induction xs generalizing k with
 |nil=>simp at hk
 |cons x r ih=>
  cases k with
  |zero=>
   simp only [A2f] at hp
   simp [Hy,hp]
  |succ k=>
   simp only [List.take_succ_cons,List.any_cons,Bool.or_eq_false_iff] at h
   have:=ih k h.2 (by simpa using hk) (by simpa using hp)
   simp [Hy,h.1,this]
theorem Su [Inhabited α] (p:α→Bool)(xs:List α)(k:Nat)(h:(xs.take k).any p=false)(hk:k<xs.length)(hp:p (xs.getD k default)=true):Pf p xs=k:=by
 rw [Pf,Ak (R7 hk hp),C6j p xs k h hk hp]
theorem M8 (p:α→Bool)(xs:List α)(h:xs.any p=false):Pf p xs= -1:=by rw [Pf,Ab (by rw [h];decide)]
theorem A2q (p:α→Bool)(xs:List α):decide (Pf p xs≥0)=xs.any p:=by
 unfold Pf
 cases h:xs.any p with
 |true=>rw [Ak rfl];exact Dc A7
 |false=>rw [Ab Bq];exact Cd A7
theorem Gy [Inhabited α] {p:α→Bool}{xs:List α}(h:(xs.take k).any p=false)(hk:k<xs.length)(hp:p (xs.getD k default)=false):(xs.take (k+1)).any p=false:=by
 rw [C5h p xs k hk,h,hp];rfl
open Go.RowKit (Below)
abbrev vy (b:UInt8):Ag:= .val (.int .u8 b.toNat)
abbrev Kf (xs:List UInt8):Ag:=Mx 1 (fun b=>[vy b]) xs
theorem C8r (hT:Bz P T){q:Bool}{x:Operand}{u e:TypeId}{j l:TI}(hg:o.guard=none)(ho:o.op= .convert t u x)(hi:find T t=some i)(hie:i.elem=some e)(hj:find T e=some j)(hfl:j.flat=some [.int .u8])(hag:j.agg=false)(hl:find T u=some l)(hstr:l.str=true){bs:List UInt8}(hx:A6c s.own (s.ev x)=some (Kf bs))(h:G P B Q (.ops q all rest::K) (s.put o.dst (.v (.string ⟨bs.toArray⟩)))):G P B Q (.ops q all (o::rest)::K) s:=by
 refine Ek hg (fun E a w hs=>?_);have hr:=Vj hs hx (hs.ev x);have hu:=Bt (hT t i hi) hie;have hd:=O8 (hT u l hl) hstr;have he:P.underlying e=some (.int .u8):=A60 hT hj hag hfl;obtain ⟨dst,op',ty,pos,after,guard⟩:=o
 simp only at ho
 subst ho;generalize hv:a.eval x=v at hr;refine ⟨.string ⟨bs.toArray⟩,fun w' hk=>?_,h E _ w (hs.put dst (.c (.val _ rfl)))⟩;simp only [execOp,hv,Sem.run_bind];generalize hc:Kf bs=c at hr
 cases hr with
 |val x h=>simp [Mx] at hc
 |nil es row=>
  simp only [Mx,Ag.sl.injEq] at hc;obtain ⟨hc,_⟩:=hc;obtain rfl:=Pj hc;rw [run_convert_bytes_nil w' t e hu he 0 0 u hd]
  rfl
 |emp es row a'=>
  simp only [Mx,Ag.sl.injEq] at hc;obtain ⟨hc,_⟩:=hc;obtain rfl:=Pj hc;rw [run_convert_bytes_string w' t u e _ 0 0 hu he hd,run_bytesToString w' a' 0 0 [] (by simp [loadCells,loadCellsFrom])]
  rfl
 |sl n es row b off cap u' hA hn hcp hl' hu' hr'=>
  simp only [Mx,Ag.sl.injEq] at hc;obtain ⟨rfl,rfl,rfl⟩:=hc
  rw [run_convert_bytes_arg w' t e hu he b off bs.length cap (bs.map fun b=>(b.toNat:Int)) Ey (fun k hk'=>by
   have h1:=hk.cell (hu' k 0 hk' A7);have h2:=hr' k 0 _ hk' rfl;have h3:u' k 0= .int .u8 ((bs.getD k default).toNat):=by generalize u' k 0=z at h2;cases h2;rfl
   rw [h3] at h1;simp only [Nat.mul_one,Ry] at h1;rw [h1]
   simp [List.getD,hk']) u hd]
  simp only [Result.andThen_ok,Sem.run_pure]
  congr 3
  simp [strOfNums,Function.comp_def]
theorem C8q (hT:Bz P T){q:Bool}{x:Operand}{u e:TypeId}{j l:TI}(hh:(o.guard,o.op,find T t,i.elem,find T e,j.flat,j.agg,find T u,l.str)=(none,.convert t u x,some i,some e,some j,some [.int .u8],false,some l,true))(bs:List UInt8)(hx:A6c s.own (s.ev x)=some (Kf bs))(h:GW P B Q (.ops q all rest::K) (s.put o.dst (.v (.string ⟨bs.toArray⟩)))):GW P B Q (.ops q all (o::rest)::K) s:=by
 simp only [Je] at hh;obtain ⟨hg,ho,hi,hie,hj,hfl,hag,hl,hstr⟩:=hh;exact ⟨C8r hT hg ho hi hie hj hfl hag hl hstr hx (h.rec id)⟩
theorem C2z (xs:List UInt8)(b:ByteArray):Va xs.length b.size 1 (fun i=>[vy (xs.getD i default)]) (fun i=>[.val (.int .u8 (b.data.getD i 0).toNat)]) (Kf (xs++b.data.toList)):=by
 refine ⟨fun i=>[vy ((xs++b.data.toList).getD i default)],by simp only [Kf,Mx,D3,Mr];rfl,fun i hi=>?_,fun i hi=>?_⟩
 ·simp [List.getD,Fi hi]
 have hi':i<b.data.size:=hi
 have e:(xs++b.data.toList).getD (xs.length+i) default=b.data.getD i 0:=by
  rw [List.getD,Fo A7,Nat.add_sub_cancel_left,Array.getElem?_toList,V5 hi',A0k,V5 hi'];rfl
 exact A6 (fun z:UInt8=>[vy z]) e
variable {ops : Array Oper}
def C1w (ops:Array Oper):List Nat→Array Bool→Option (Array Bool)
 | [],listed=>some listed
 |i::r,listed=>match ops[i]? with
  |some o=>match Dk o.op with
   | 0=>match (Region.ready .any ops listed).contains i&&B5x ops listed i o with
    |true=>C1w ops r (listed.setIfInBounds i true)
    |false=>none
   |_=>none
  |none=>none
def B3b (ops:Array Oper) (listed:Array Bool) (i:Nat) (t:List Nat):Bool:=
 match t with
 | []=>false
 |j::r=>j==i&&(ops[i]?).isSome&&Xk ops r (listed.setIfInBounds i true)
def C7h (ops:Array Oper) (pre:List Nat) (tails:List (List Nat)):Bool:=
 Region.noSelect ops&&tails.all (fun t=>pre.length+t.length==ops.size)&&match C1w ops pre (Array.replicate ops.size false) with
 |none=>false
 |some listed=>!(Region.ready .any ops listed).isEmpty&&!tails.isEmpty&&(Region.ready .any ops listed).all fun i=>tails.any (B3b ops listed i)
variable {tails : List (List Nat)}
theorem B5f (hsel:∀(j:Nat) (o:Oper) cs b,ops[j]? =some o→o.op≠ .select cs b){Q:Act→World→Prop}{m:Nat}(hm:∀t∈tails,t.length=m)(hne:tails≠[]):∀(pre:List Nat) (listed fin:Array Bool) (a:Act) (w:World),
  C1w ops pre listed=some fin→Pm ops listed→(Region.ready .any ops fin).isEmpty=false→((Region.ready .any ops fin).all fun i=>tails.any (B3b ops fin i))=true→
  (∀t∈tails,G6 P ops Q ((pre++t).filterMap fun i=>ops[i]?) a w)→Qz P ops Q (pre.length+m) listed a w
 | [],listed,fin,a,w,h,hc,hr,ht,hq=>by
  obtain rfl:=E6 h
  cases m with
  |zero=>
   exfalso
   match hl:Region.ready .any ops listed with
   | []=>rw [hl] at hr;simp at hr
   |i::r=>
    rw [hl] at ht;simp only [Wy,Ci,Th] at ht;obtain ⟨⟨t,h1,h2⟩,_⟩:=ht
    have:=hm t h1
    obtain rfl:=Pj this
    simp [B3b] at h2
  |succ m=>
   rw [show ([]:List Nat).length+(m+1)=m+1 by simp]
   refine ⟨fun h0=>(by rw [h0] at hr;simp at hr),fun i hi=>?_⟩;have hi':=Jc.1 ht i hi;obtain ⟨t,h1,h2⟩:=Th.1 hi'
   match t,h2,hm t h1,hq t h1 with
   |j::r,h2,hlen,hq=>
    simp only [B3b,Ci,Qt] at h2;obtain ⟨⟨rfl,h3⟩,h4⟩:=h2;obtain ⟨o,ho⟩:=A9g.1 h3;have hl:r.length=m:=by simpa using hlen
    have ih:=fun a w=>A0u (P:=P) (Q:=Q) hsel r (listed.setIfInBounds j true) a w h4 (hc.set hi);rw [hl] at ih;have e:([]++j::r).filterMap (fun i=>ops[i]?)=o::r.filterMap fun i=>ops[i]? :=by simp [ho]
    rw [e] at hq;unfold opM;simp only [ho];unfold G6 at hq
    split
    ·rename_i hw
     rw [Ak hw] at hq
     rcases hq with ⟨v,h1,h2⟩|⟨_,hd⟩
     ·unfold Ko
      rw [h1 w (En.refl w)];exact ⟨fun _=>En.refl w,ih _ _ h2⟩
     exact hd.mono fun a w h=>ih a w h
    rename_i hw
    rw [Ab hw] at hq;exact ih _ _ hq
 |i::pre,listed,fin,a,w,h,hc,hr,ht,hq=>by
  unfold C1w at h
  split at h
  ·rename_i o ho
   split at h
   ·rename_i hk
    split at h
    ·rename_i hf
     simp only [Ci,A0j] at hf;obtain ⟨hrd,hf⟩:=hf
     have hfree:∀j oj,ops[j]? =some oj→j≠i→listed.getD j true=false→Wr ops ops.size j i=true∨(o.apart ops oj=true∧(Pd o.op=true∨Dk oj.op≤1)):=by
      intro j oj hoj hji hun
      have:=Jc.1 hf j (Fz.2 (Tb.1 hoj).1)
      simp only [hoj,hun,A3h,Yx,Qt,hji,false_or,Ci] at this;exact this.symm.imp id fun ⟨h1,h2⟩=>⟨h1,h2.imp id fun h=>Dg h⟩
     have hl:∀t,(i::pre++t).filterMap (fun i=>ops[i]?)=o::(pre++t).filterMap fun i=>ops[i]? :=fun t=>by simp [ho]
     have hy:∃v,Lz P ops o v a w∧∀t∈tails,G6 P ops Q ((pre++t).filterMap fun i=>ops[i]?) (a.put o.dst v) w:=by
      by_cases hw:Region.wanted o (yielded ops a.tmps)=true
      ·have one:∀t∈tails,∃v,(∀w',En w w'→(execOp a.eval o).run P w'= .ok (.value v) w')∧G6 P ops Q ((pre++t).filterMap fun i=>ops[i]?) (a.put o.dst v) w:=fun t ht=>by
        have:=hq t ht
        rw [hl] at this;unfold G6 at this;rw [Ak hw] at this
        rcases this with ⟨v,h1,h2⟩|⟨hn,_⟩
        ·exact ⟨v,h1,h2⟩
        exact absurd hk hn
       obtain ⟨t0,ht0⟩:=List.exists_mem_of_ne_nil _ hne;obtain ⟨v,h1,_⟩:=one t0 ht0;refine ⟨v,.inl ⟨hw,fun w' hk=>hk.elim (fun hb=>Sr hb a.eval (h1 w (En.refl w))) (h1 w')⟩,fun t ht=>?_⟩;obtain ⟨v',g1,g2⟩:=one t ht;have e1:=h1 w (En.refl w);have e2:=g1 w (En.refl w);rw [e1] at e2;simp only [Result.ok.injEq,Next.value.injEq,and_true] at e2;rw [e2];exact g2
      refine ⟨undef,.inr ⟨by simpa using hw,rfl⟩,fun t ht=>?_⟩
      have:=hq t ht
      rw [hl] at this;unfold G6 at this
      rwa [Ab hw] at this
     obtain ⟨v,hy,hK⟩:=hy;have ih:=B5f hsel hm hne pre _ fin _ w h (hc.set hrd) hr ht hK;rw [show (i::pre).length+m=(pre.length+m)+1 by simp;omega]
     exact Nx ho hsel ops.size (pre.length+m) listed a w hc hfree hrd hy ih
    simp at h
   simp at h
  simp at h
theorem B0y {id:Nat}{a:Act}{w:World}{pre:List Nat}(hm:P.follows .mixedOrders=true)(hB:C7h ops pre tails=true)(h:∀t∈tails,G6 P ops (fun a w=>Q .normal a w) (Zi ops (pre++t)) a {w with drawn:=w.drawn+1}):(Code.region id ops true).wp P Q a w:=by
 simp only [C7h,Ci] at hB;obtain ⟨⟨h1,h2⟩,h3⟩:=hB
 split at h3
 ·simp at h3
 rename_i fin hp
 simp only [Ci,Mq] at h3;obtain ⟨⟨h4,h5⟩,h6⟩:=h3;have hne:tails≠[]:=by rintro rfl;simp at h5
 have hlen:∀t∈tails,pre.length+t.length=ops.size:=fun t ht=>by simpa using List.all_eq_true.1 h2 t ht
 obtain ⟨t0,ht0⟩:=List.exists_mem_of_ne_nil _ hne;refine wp_region_any hm (Xb (Q:=fun a w=>Q .normal a w) (fun _ _ h=>h) _ _ _ _ ?_)
 have:=B5f (P:=P) (Q:=fun a w=>Q .normal a w) (Region.noSelect_spec h1) (m:=t0.length) (fun t ht=>by have:=hlen t ht;have:=hlen t0 ht0;omega) hne pre (Array.replicate ops.size false) fin a _ hp
  (fun j o _ hl=>by exfalso;by_cases hj:j<ops.size<;>simp [hj] at hl) h4 h6 h
 rwa [hlen t0 ht0] at this
def C5g (P:Program) (B:Fg) (Q:Exit→Act→World→Prop) (K:List KI) (s:AS) (ops:Array Oper) (pre:List Nat):List (List Nat)→Prop
 | []=>True
 |t::r=>GW P B Q (.ops true ops (Zi ops (pre++t))::K) s∧C5g P B Q K s ops pre r
theorem C2x {pre:List Nat}(h:C5g P B Q K s ops pre tails):∀t∈tails,GW P B Q (.ops true ops (Zi ops (pre++t))::K) s:=by
 induction tails with
 |nil=>simp
 |cons x r ih=>
  intro t ht
  rcases Ch.1 ht with rfl|ht
  ·exact h.1
  exact ih h.2 t ht
theorem D26 (pre:List Nat)(tails:List (List Nat))(hm:P.follows .mixedOrders=true){id:Nat}(hB:C7h ops pre tails=true)(h:C5g P B Q K s ops pre tails):GW P B Q (.code (.region id ops true)::K) s:=
 ⟨fun E a w hs=>B0y hm hB (fun t ht=>(C2x h t ht).rec fun h=>h E a _ (hs.call (w':= {w with drawn:=w.drawn+1}) ⟨rfl,rfl,rfl,Ds _,fun _ _=>rfl⟩).is)⟩
end Go.Sx
set_option maxRecDepth 100000
namespace Go.Sx
open Go
variable {Q : Exit → Act → World → Prop}
theorem Oq {B:Fg}{s:AS}(k:Nat)(c':Ag){c:Ag}(hk:Bm s.own k=some c)(hc:Kk c c')(h:RW B Q {s with own:=Ji s.own k c'}):RW B Q s:=by
 refine ⟨fun E a w hs=>?_⟩;have hm:=C5 hk
 have av:∀b,({s with own:=Ji s.own k c'}:AS).ag E b→s.ag E b:=by
  rintro b (hb|⟨y,hy,hb⟩)
  ·exact .inl hb
  obtain ⟨z,hz,e⟩:=Ih hy;exact .inr ⟨z,hz,by rw [e];exact hb⟩
 have mv:∀x v,Cy E w (s.ag E) s.next x v→Cy E w (({s with own:=Ji s.own k c'}:AS).ag E) s.next x v:=fun x v hx=>
  hx.move (Ds _) (fun _ _=>⟨rfl,rfl⟩) (fun _ _ _=>rfl) (fun b _ hb=>av b hb)
 obtain ⟨h⟩:=h;refine h E a w ⟨hs.defers,hs.ay,hs.size,fun i x hx=>mv _ _ (hs.am i x hx),fun x hx=>?_,hs.boxes2,hs.keys,fun y hy=>?_,by rw [Zt];exact hs.ownkeys,fun y hy z hz hne=>?_,fun x hx y hy=>?_,hs.one,hs.base,fun b hb=>hs.fresh b (av b hb)⟩
 ·obtain ⟨h1,vs,ty,h2,h3,h4⟩:=hs.aw x hx
  exact ⟨h1,vs,ty,h2,h3,fun i y hy=>mv _ _ (h4 i y hy)⟩
 ·rcases Xs hy with ⟨h1,h2,_⟩|⟨h1,_⟩
  ·obtain ⟨g1,g2,g3⟩:=hs.own _ hm
   rw [h1,h2];exact ⟨g1,hc.own g2,g3⟩
  exact hs.own y h1
 ·obtain ⟨y',hy',e1⟩:=Ih hy
  obtain ⟨z',hz',e2⟩:=Ih hz;rw [←e1,←e2];exact hs.sep y' hy' z' hz' (by rw [e1,e2];exact hne)
 obtain ⟨y',hy',e1⟩:=Ih hy;rw [←e1];exact hs.sepB x hx y' hy'
theorem A46 {B:Fg}{s:AS}(i es:Nat)(row:Nat→List Ag)(hi:Ik s.am i= .c (.val (.slice none 0 0)))(h:RW B Q {s with am:=C9 s.am i (.own s.next),own:=⟨s.next,.sl 0 es row⟩::s.own,next:=s.next+1}):RW B Q s:=by
 refine ⟨fun E a w hs=>?_⟩;have hI:s.isA B E (s.ag E) a w:=⟨hs.defers,hs.ay,hs.size,hs.am,hs.aw,hs.boxes2,hs.keys,hs.own,hs.ownkeys,hs.sep,hs.sepB,hs.one,hs.base,hs.fresh,fun _ h=>h⟩
 obtain ⟨k1,k2⟩:=hI.addOwn (.nil es row) Ey Ey;have k3:=k1.is;obtain ⟨h⟩:=h;refine h (E.withOwn s.next (.slice none 0 0) []) a w ⟨k3.defers,k3.ay,by rw [k3.size];exact (Bk _ _ _).symm,fun m z hz=>?_,k3.aw,k3.boxes2,k3.keys,k3.own,k3.ownkeys,k3.sep,k3.sepB,k3.one,k3.base,k3.fresh⟩
 simp only at hz
 rw [Co] at hz
 split at hz
 ·rename_i hm
  obtain ⟨rfl,hm⟩:=hm;obtain rfl:=E6 hz;have hd:=hs.am i (.c (.val (.slice none 0 0))) (by rw [Ce,Dl hm] at hi;rw [Dl hm];simpa using hi);rw [B3 hd]
  have:Cy (E.withOwn s.next (.slice none 0 0) []) w _ _ (.own s.next) (.slice none 0 0):=k2
  exact this.move (Ds _) (fun _ _=>⟨rfl,rfl⟩) (fun _ _ _=>rfl) (fun b _ hb=>k1.sub b hb)
 exact k3.am m z hz
end Go.Sx
set_option maxRecDepth 100000
namespace Go.Sx
open Go
variable {α : Type} {es : Nat} {row : Nat → List Ag}
theorem C17 [Inhabited α] {e:α→List Ag}{xs:List α}{x y:α}(h0:row 0=e x)(h1:row 1=e y):
  Va xs.length 2 es (fun i=>e (xs.getD i default)) row (Mx es e (xs++[x,y])):=by
 obtain ⟨r,hr,ha,hb⟩:=Oj es e xs [x,y];refine ⟨r,hr,ha,fun i hi=>?_⟩;rw [hb i hi]
 match i,hi with
 | 0,_=>exact h0.symm
 | 1,_=>exact h1.symm
theorem C8b [Inhabited α] {e:α→List Ag}{xs:List α}{x y z u:α}(h0:row 0=e x)(h1:row 1=e y)(h2:row 2=e z)(h3:row 3=e u):
  Va xs.length 4 es (fun i=>e (xs.getD i default)) row (Mx es e (xs++[x,y,z,u])):=by
 obtain ⟨r,hr,ha,hb⟩:=Oj es e xs [x,y,z,u];refine ⟨r,hr,ha,fun i hi=>?_⟩;rw [hb i hi]
 match i,hi with
 | 0,_=>exact h0.symm
 | 1,_=>exact h1.symm
 | 2,_=>exact h2.symm
 | 3,_=>exact h3.symm
theorem I8.rfl':∀l:List Ag,I8 l l
 | []=>trivial
 |_::l=>⟨.inl rfl,I8.rfl' l⟩
theorem C23 [Inhabited α] {e:α→List Ag}{x y z u:α}(h0:row 0=e x)(h1:row 1=e y)(h2:row 2=e z)(h3:row 3=e u):
  Kk (.sl 4 es row) (Mx es e [x,y,z,u]):=by
 refine ⟨rfl,rfl,fun i hi=>?_⟩
 match i,hi with
 | 0,_=>rw [h0];exact I8.rfl' _
 | 1,_=>rw [h1];exact I8.rfl' _
 | 2,_=>rw [h2];exact I8.rfl' _
 | 3,_=>rw [h3];exact I8.rfl' _
theorem Ps (f:Nat→List α)(k:Nat):(List.range (k+1)).flatMap f=(List.range k).flatMap f++f k:=by
 rw [Yy,Wu];simp
def pW (w:Nat):List Do:=[⟨1,w,0⟩,⟨3,w,0⟩,⟨2,w,0⟩,⟨7,w,0⟩]
def pK (w k:Nat):List Do:=if (w:Int)=k then [] else [⟨4,w,k⟩,⟨5,w,k⟩]
def pA (n:Nat):List Do:=(List.range n).flatMap pW
def pB (w j:Nat):List Do:=(List.range j).flatMap (pK w)
def pC (n m:Nat):List Do:=(List.range m).flatMap fun w=>pB w n
def pE (e:Nat):List Do:=(List.range e).map fun e=>⟨6,(e:Nat),0⟩
def Qy (n:Nat):List Do:=pA n++pC n n++pE 4
theorem B34 (k:Nat):pA (k+1)=pA k++pW k:=Ps _ _
theorem B35 (w k:Nat):pB w (k+1)=pB w k++pK w k:=Ps _ _
theorem B36 (n k:Nat):pC n (k+1)=pC n k++pB k n:=Ps _ _
theorem C1v (k:Nat):pE (k+1)=pE k++[⟨6,(k:Nat),0⟩]:=by simp [pE,Yy]
theorem A78 (k:Nat):(pA k).length=4 * k:=by
 induction k with
 |zero=>rfl
 |succ k ih=>rw [B34,D3,ih];rfl
theorem D2h (w k:Nat):(pK w k).length≤2:=by unfold pK;split<;>simp
theorem B91 (w k:Nat):(pB w k).length≤2 * k:=by
 induction k with
 |zero=>exact Ds _
 |succ k ih=>rw [B35,D3];have:=D2h w k;omega
theorem A79 (n k:Nat)(hn:n≤4):(pC n k).length≤8 * k:=by
 induction k with
 |zero=>exact Ds _
 |succ k ih=>rw [B36,D3];have:=B91 k n;omega
theorem B92 (k:Nat):(pE k).length=k:=by simp [pE]
theorem A0t (n:Nat)(hn:n≤4):(Qy n).length≤52:=by
 have:=A79 n n hn
 simp only [Qy,D3,A78,B92];omega
theorem D0s (w k:Nat)(h:k<4):(pW w).take (k+1)=(pW w).take k++[⟨([1,3,2,7]:List Int).getD k default,w,0⟩]:=by
 match k,h with
 | 0,_=>rfl
 | 1,_=>rfl
 | 2,_=>rfl
 | 3,_=>rfl
end Go.Sx
set_option maxRecDepth 100000
namespace Go.Sx
open Go
variable {P : Program} {T : List (TypeId × TI)}
def bnd (s:AS) (x:Option Operand) (d:Int):Option Int:=
 match x with
 |none=>some d
 |some y=>match s.ev y with
  | .c (.val (.int _ v))=>some v
  |_=>none
def C44 (x:Option Value) (l d:Int):Prop:=(x=none∧l=d)∨∃k,x=some (.int k l)
variable {l : Int}
theorem L6 {B:Fg}{E:G0}{a:Act}{w:World}{s:AS}(hs:s.is B E a w){x:Option Operand}{d:Int}(h:bnd s x d=some l):C44 (x.map a.eval) l d:=by
 cases x with
 |none=>exact .inl ⟨rfl,(E6 h).symm⟩
 |some y=>
  refine .inr ?_;simp only [bnd] at h;have hd:=hs.ev y;generalize s.ev y=z at h hd
  split at h
  ·rename_i k v
   obtain rfl:=E6 h;have e:=B3 hd;exact ⟨k,by simp [e]⟩
  cases h
def Y1 (n es:Nat) (row:Nat→List Ag) (l h:Int) (c:Ag):Prop:=∃row',c= .sl (h-l).toNat es row'∧∀i,i<(h-l).toNat→row' i=row (l.toNat+i)
variable {h : Int}
theorem B4g {t e:TypeId}{i j:TI}(hi:TI.of P t=some i)(he:i.elem=some e)(hj:TI.of P e=some j){a:Option Addr}{len cap:Nat}{lo hi':Option Value}(hl:C44 lo l 0)(hh:C44 hi' h len)(h0:0≤l)(h1:l≤h)(h2:h≤len)(h3:len≤cap)(w:World):
  (Instr.sliceAt t (.slice a len cap) lo hi' none).run P w= .ok (sliced a l.toNat h.toNat cap j.size) w:=by
 have hu:=Bt hi he;have hel:P.elem t=e:=by simp [Program.elem,hu]
 have hu':P.underlying t=some (.slice (P.elem t)):=by rw [hel];exact hu
 have hz:∀w,(sizeOf (P.elem t)).run P w= .ok j.size w:=fun w=>by rw [hel];exact Bc hj w
 rw [run_sliceAt_slice w t _ _ _ _ hu']
 rcases hl with ⟨rfl,rfl⟩|⟨k1,rfl⟩<;>rcases hh with ⟨rfl,rfl⟩|⟨k2,rfl⟩
 ·rw [run_slice_all w t a len cap hu',hz];simp [Result.andThen]
 ·rw [run_slice_h w t a len cap hu' k2 h h1 A7,hz];simp [Result.andThen]
 ·rw [run_slice_l w t a len cap hu' k1 l h0 A7,hz];simp [Result.andThen]
 rw [run_slice_lh w t a len cap hu' k1 k2 l h h0 h1 A7,hz];simp [Result.andThen]
variable {es : Nat} {row : Nat → List Ag}
theorem D00 {w:World}{A:Nat→Prop}{n:Nat}{v:Value}(hr:Qv w A (.sl n es row) v)(h0:0≤l)(h1:l≤h)(h2:h≤n){c:Ag}(hc:Y1 n es row l h c):
  ∃a cap,v= .slice a n cap∧n≤cap∧Qv w A c (sliced a l.toNat h.toNat cap es):=by
 obtain ⟨row',rfl,hrow⟩:=hc
 cases hr with
 |nil=>
  refine ⟨none,0,rfl,Ds _,?_⟩;have e1:l=0:=by omega
  have e2:h=0:=by omega
  subst e1;subst e2;exact .nil _ _
 |emp _ _ a=>
  refine ⟨some a,0,rfl,Ds _,?_⟩;have e1:l=0:=by omega
  have e2:h=0:=by omega
  subst e1;subst e2;exact .emp _ _ a
 |sl _ _ _ b off cap u hA hn hcap hl hu hrr=>
  refine ⟨_,cap,rfl,hn,?_⟩;obtain ⟨p,rfl⟩:∃p:Nat,l=p:=⟨l.toNat,by omega⟩;obtain ⟨q,rfl⟩:∃q:Nat,h=q:=⟨h.toNat,by omega⟩;have e:((q:Int)-p).toNat=q-p:=by omega
  simp only [Bv] at hrow ⊢;rw [e] at hrow ⊢;unfold sliced
  by_cases hcl:cap=p
  ·have e1:q-p=0:=by omega
   have e2:cap-p=0:=by omega
   rw [Ak hcl,e1,e2];exact .emp _ _ _
  rw [Ab hcl]
  have ea:(some (⟨b,off,none⟩:Addr)).map (fun x=>x.add (p * es))=some ⟨b,off+p * es,none⟩:=by
   simp only [Qs,Addr.add]
   split
   ·rename_i h;rw [h];rfl
   rfl
  have eb:(some (⟨b,off,none⟩:Addr)).map (·.add (p * es))=some ⟨b,off+p * es,none⟩:=ea;rw [eb];refine .sl (q-p) es row' b (off+p * es) (cap-p) (fun i j=>u (p+i) j) (fun h=>hA ?_) A7 A7 (fun i hi=>?_) (fun i j hi hj=>?_) (fun i j c hi hj=>?_)
  ·exact Kg h (Kh _ A7)
  ·rw [hrow i hi];exact hl _ A7
  ·have:=hu (p+i) j A7 hj
   rw [G7] at this;rw [show off+p * es+i * es+j=off+(p * es+i * es)+j by omega]
   exact this
  rw [hrow i hi] at hj;exact hrr (p+i) j c A7 hj
theorem P9 (hT:Bz P T){B:Fg}{Q:Exit→Act→World→Prop}{q:Bool}{all:Array Oper}{o:Oper}{rest:List Oper}{K:List KI}{s:AS}{t e:TypeId}{x:Operand}{lo hi:Option Operand}{i j:TI}{n:Nat}(hh:(o.guard,o.op,find T t,i.elem,find T e,s.ev x,es,bnd s lo 0,bnd s hi n)=(none,.slice t x lo hi none,some i,some e,some j,.c (.sl n es row),j.size,some l,some h))(hb:0≤l∧l≤h∧h≤n)(c:Ag)(hc:Y1 n es row l h c)(hgo:GW P B Q (.ops q all rest::K) (s.put o.dst (.c c))):GW P B Q (.ops q all (o::rest)::K) s:=by
 simp only [Je] at hh;obtain ⟨hg,ho,hi',he,hj,hx,hes,hl,hh⟩:=hh;subst hes;refine ⟨Ek hg (fun E a w hs=>?_)⟩;have hd:=hs.ev x;rw [hx] at hd
 cases hd with
 |c hr=>
  obtain ⟨ad,cap,hv,hcap,hrep⟩:=D00 hr hb.1 hb.2.1 hb.2.2 hc;have h1:=L6 hs hl;have h2:=L6 hs hh;refine ⟨_,fun w' _=>?_,hgo.rec fun hg=>hg _ _ _ (hs.put o.dst (.c hrep))⟩;have hrun:=B4g (a:=ad) (hT t i hi') he (hT e j hj) h1 h2 hb.1 hb.2.1 hb.2.2 hcap w';obtain ⟨dst,op',ty,pos,after,guard⟩:=o
  simp only at ho
  subst ho
  simp [execOp,hv,hrun]
theorem Xt {α:Type} [Inhabited α] {e:α→List Ag}{xs:List α}(h0:0≤l)(h1:l≤h)(h2:h≤xs.length):
  Y1 xs.length es (fun i=>e (xs.getD i default)) l h (Mx es e ((xs.drop l.toNat).take (h-l).toNat)):=by
 have hlen:((xs.drop l.toNat).take (h-l).toNat).length=(h-l).toNat:=by simp;omega
 refine ⟨_,by rw [Mx,hlen],fun i hi=>?_⟩
 simp [List.getD,hi]
end Go.Sx
set_option maxRecDepth 100000
namespace Go.Sx
open Go
open Go.RowKit (Below)
variable {P : Program} {T : List (TypeId × TI)}
def E3 (P:Program) (H:World→Prop) (f:FuncId) (ins ax:List I7):Prop:=
 Mz P f∧∀(w:World),H w→∀(vs:List Value),vs.length=ins.length→(∀i x,ins[i]? =some x→Q6 w (fun _=>False) x (vs.getD i undef))→
  Calls P f vs.toArray w fun e w'=>Ju w w' ax e
def A54 (H:World→Prop):Prop:=∀w w',Below w.heap.size w w'→H w→H w'
variable {W : World}
theorem Po {w:World}(h:Fg.rel ⟨W,fun _=>False⟩ w):Below W.heap.size W w:=⟨h.os,h.tape,h.output,h.size,fun k hk=>h.block k hk (fun h=>h)⟩
variable {H : World → Prop} {Q : Exit → Act → World → Prop} {q : Bool} {f : FuncId} {xs : List AV} {dst : Option Tmp} {K : List KI} {s : AS} {ins : List I7} {ax : List I7}
theorem C21 (hf:E3 P H f ins ax)(hst:A54 H)(hW:H W)(hx:J2 s xs=some ins)(h:G P ⟨W,fun _=>False⟩ Q K ((Gh ax s).2.put dst (Gh ax s).1)):A3q P ⟨W,fun _=>False⟩ Q q f xs dst K s:=by
 refine ⟨hf.1,fun E a w hs vs hl hv=>?_⟩;obtain ⟨h1,h2⟩:=Jl hx;refine (hf.2 w (hst W w (Po hs.base) hW) vs A7 (fun i x hi=>?_)).mono (fun e w' hg=>?_)
 ·obtain ⟨y,hy,hc⟩:=h2 i x hi
  exact L5 hs hc (hv i y hy)
 obtain ⟨hb,rs,fps,rfl,hrl,hro,hfr,hdis⟩:=hg;have hA:=hs.call hb
 obtain ⟨E',hAd,hL,hD⟩:=M7 ax rs fps s E hA hrl hro (fun i hi=>(hfr i hi).1) hdis (fun i hi b hb'=>by
  have hge:=(hfr i hi).2 b hb';refine ⟨.inr hge,fun hav=>?_,.inl (Fk hs.base.size hge)⟩
  have:=hs.avoid_lt hav
  omega)
 have hres:=Gz ax (Dp ax s).1 rs hrl hL hD;rw [Sp] at h;exact ⟨_,rfl,fun _=> .of_below hb,h E' _ w' ((hAd.isA.put dst hres).is)⟩
theorem C5s (hf:E3 P H f ins ax)(hst:A54 H)(hW:H W)(hx:J2 s xs=some ins)(h:G P ⟨W,fun _=>False⟩ Q K (s.put dst (Rr ax))):A3q P ⟨W,fun _=>False⟩ Q q f xs dst K s:=by
 refine ⟨hf.1,fun E a w hs vs hl hv=>?_⟩;obtain ⟨h1,h2⟩:=Jl hx;refine (hf.2 w (hst W w (Po hs.base) hW) vs A7 (fun i x hi=>?_)).mono (fun e w' hg=>?_)
 ·obtain ⟨y,hy,hc⟩:=h2 i x hi
  exact L5 hs hc (hv i y hy)
 obtain ⟨hb,rs,fps,rfl,hrl,hro,hfr,hdis⟩:=hg;have hI:=(hs.call hb).is
 have hno:∀i,i<ax.length→∀b∈fps i,¬ s.ag E b:=fun i hi b hb' hav=>by
  have:=hs.avoid_lt hav
  have:=(hfr i hi).2 b hb'
  omega
 have hone:∀i y,ax[i]? =some y→Cy E w' (s.ag E) s.next (Mf y) (rs.getD i undef):=by
  intro i y hy;have hi:i<ax.length:=(Cx.1 hy).1;have ho:=hro i y hy
  cases y with
  |one c=>exact .c (Bw.rep ho (hno i hi))
  |agg cs=>
   obtain ⟨us,gps,hu,hul,hur,hfp⟩:=ho;rw [hu];refine .agg us (by simp [hul]) (fun j x hj=>?_);simp only [Fa,F1] at hj;obtain ⟨c,hc,rfl⟩:=hj;have hj:j<cs.length:=(Cx.1 hc).1;exact .c ((hur j c hc).rep (fun b hb'=>hno i hi b (by rw [hfp];exact Dy hj hb')))
  |ptr cs=>exact ho.elim
  |fn f ai=>exact ho.elim
 have hres:Cy E w' (s.ag E) s.next (Rr ax) (Kx rs):=by
  have:=Gz (E:=E) (A:=s.ag E) (N:=s.next) (w:=w') ax (ax.map Mf) rs hrl Ey (fun i x hi=>by
   simp only [Fa,F1] at hi;obtain ⟨y,hy,rfl⟩:=hi
   exact hone i y hy)
  match ax,this with
  | [],this=>exact this
  | [o],this=>exact this
  |o1::o2::r,this=>exact this
 exact ⟨_,rfl,fun _=> .of_below hb,h E _ w' (hI.put dst hres)⟩
theorem C9s {fn:Func}{c:Code}(hf:P.funcs[f]? =some fn)(hb:fn.body=some c)(hn:(fn.name== "runtime.NumGoroutine")=false)(h:∀W,H W→G P ⟨W,fun _=>False⟩ (bodyPost P fn fun e w'=>Ju W w' ax e) [.code c] (F8 fn.ntmps ins)):E3 P H f ins ax:=by
 refine ⟨⟨fn,hf,hn,by simp [hb]⟩,fun w hH vs hl hv=>calls_of_wp hf hb ?_⟩
 refine h w hH ⟨fun _=> .slice none 0 0,fun _=>[]⟩ _ w ?_
 have nav:∀b,¬ (F8 fn.ntmps ins).ag ⟨fun _=> .slice none 0 0,fun _=>[]⟩ b:=by
  rintro b (⟨x,hx,_⟩|⟨y,hy,_⟩)
  ·simp [F8] at hx
  simp [F8] at hy
 have nb:∀x,x∉(F8 fn.ntmps ins).aw:=by simp [F8]
 have no:∀x,x∉(F8 fn.ntmps ins).own:=by simp [F8]
 refine ⟨rfl,by simp [F8],by simp [F8,hl],fun i x hx=>?_,fun x hx=>absurd hx (nb x),fun x hx=>absurd hx (nb x),by simp [F8],fun y hy=>absurd hy (no y),by simp [F8],fun y hy=>absurd hy (no y),fun x hx=>absurd hx (nb x),fun _ _=>rfl,
  ⟨rfl,rfl,rfl,Ds _,fun _ _ _=>rfl⟩,fun b hb=>absurd hb (nav b)⟩
 simp only [F8] at hx
 by_cases hi:i<ins.length
 ·rw [Fi (by simpa using hi)] at hx
  simp only [Fa,F1] at hx;obtain ⟨y,hy,rfl⟩:=hx;have hr:=hv i y hy;have hiv:i<vs.length:=by omega
  have e:(vs.toArray++Array.replicate (fn.ntmps-vs.toArray.size) undef).getD i undef=vs.getD i undef:=by
   simp [Array.getD,List.getD,hiv,show i<vs.length+(fn.ntmps-vs.length) by omega]
  rw [e]
  cases y with
  |one c=>exact .c (hr.move (fun _ _ _=>rfl) (fun b _ hb=>absurd hb (nav b)))
  |agg cs=>
   obtain ⟨us,hu,hul,hur⟩:=hr;rw [hu];refine .agg us (by simp [hul]) (fun j x hj=>?_);simp only [Fa,F1] at hj;obtain ⟨c,hc,rfl⟩:=hj;exact .c ((hur j c hc).move (fun _ _ _=>rfl) (fun b _ hb=>absurd hb (nav b)))
  |ptr cs=>exact hr.den (fun b hb=>absurd hb (nav b))
  |fn f ai=>
   obtain ⟨us,hu,hul,hur⟩:=hr;rw [hu];refine .fn us (by simp [hul]) (fun j x hj=>?_);simp only [Fa,F1] at hj;obtain ⟨c,hc,rfl⟩:=hj;have hr:=hur j c hc
   cases c with
   |one c=>exact .c (Qv.move hr (fun _ _ _=>rfl) (fun b _ hb=>absurd hb (nav b)))
   |ptr cs=>exact S6.den hr (fun b hb=>absurd hb (nav b))
 rw [Fo Pn] at hx
 obtain rfl:AV.any=x:=by
  have:=I2 hx
  simpa using (X7 this).symm
 exact .any _
theorem He (hT:Bz P T)(wr:Bool){fn:Func}{c:Code}(hf:P.funcs[f]? =some fn)(hb:fn.body=some c)(hn:(fn.name== "runtime.NumGoroutine")=false)(h:∀W,H W→vcW P ⟨W,fun _=>False⟩ (bodyPost P fn fun e w'=>Ju W w' ax e) (Py T wr 100000 [.code c] (F8 fn.ntmps ins))):E3 P H f ins ax:=
 C9s hf hb hn fun W hW=>(go hT wr (h W hW)).rec id
theorem A2m (hf:E3 P H f ins ax)(hst:A54 H)(hW:H W)(hx:J2 s xs=some ins)(h:GW P ⟨W,fun _=>False⟩ Q K ((Gh ax s).2.put dst (Gh ax s).1)):CW P ⟨W,fun _=>False⟩ Q q f xs dst K s:=⟨C21 hf hst hW hx (h.rec id)⟩
theorem Dj (hf:E3 P H f ins ax)(hst:A54 H)(hW:H W)(hx:J2 s xs=some ins)(h:GW P ⟨W,fun _=>False⟩ Q K (s.put dst (Rr ax))):CW P ⟨W,fun _=>False⟩ Q q f xs dst K s:=⟨C5s hf hst hW hx (h.rec id)⟩
end Go.Sx
set_option maxRecDepth 100000
namespace Go.Sx
open Go
def Lq (u:Nat):Nat→Nat
 | 0=>u
 |k+1=>Lq u k / 10
def B0k (u:Nat):Nat→List UInt8
 | 0=>[]
 |k+1=>UInt8.ofNat (48+Lq u k % 10)::B0k u k
theorem B7s (u k:Nat):(B0k u k).length=k:=by
 induction k with
 |zero=>rfl
 |succ k ih=>simp [B0k,ih]
theorem C1n (u k:Nat):Lq u k=u / 10 ^ k:=by
 induction k with
 |zero=>simp [Lq]
 |succ k ih=>rw [Lq,ih,Nat.div_div_eq_div_mul,Nat.pow_succ]
def C87 (u k:Nat):Prop:=(0<Lq u k∧Lib.decDigits u=Lib.decDigits (Lq u k)++B0k u k)∨(Lq u k=0∧Lib.decDigits u=B0k u k)
theorem C3f {u:Nat}(h:0<u):C87 u 0:= .inl ⟨h,by simp [Lq,B0k]⟩
theorem B1d {u k:Nat}(h:C87 u k)(hm:0<Lq u k):C87 u (k+1):=by
 rcases h with ⟨_,h⟩|⟨h,_⟩
 ·by_cases hs:Lq u k<10
  ·refine .inr ⟨by rw [Lq];omega,?_⟩
   rw [h,Lib.decDigits,dif_pos hs,B0k,A9l hs];rfl
  refine .inl ⟨by rw [Lq];omega,?_⟩;rw [h,Lib.decDigits,dif_neg hs,B0k,Lq];simp
 omega
theorem D0f (u k:Nat):Lq u k≤u:=by rw [C1n];exact Nat.div_le_self _ _
theorem D2e {u k:Nat}(hu:u≤9223372036854775808)(hm:0<Lq u k):k<19:=by
 rw [C1n] at hm
 by_cases h:k<19
 ·exact h
 exfalso
 have h1:10 ^ 19≤10 ^ k:=Nat.pow_le_pow_right Bq A7;have h2:u<10 ^ k:=Kg A7 h1;rw [Nat.div_eq_of_lt h2] at hm;omega
theorem D2r {σ:Int}(hσ:σ=1∨σ= -1)(m:Nat):(σ * (m:Int)).tdiv 10=σ * ((m / 10:Nat):Int):=by
 rcases hσ with rfl|rfl
 ·simp only [Int.one_mul];rw [Int.tdiv_eq_ediv_of_nonneg A7];omega
 rw [show (-1:Int) * (m:Int)= -(m:Int) by omega,Int.neg_tdiv,Int.tdiv_eq_ediv_of_nonneg A7];omega
theorem D2s {σ:Int}(hσ:σ=1∨σ= -1)(m:Nat):(σ * (m:Int)).tmod 10=σ * ((m % 10:Nat):Int):=by
 rcases hσ with rfl|rfl
 ·simp only [Int.one_mul];rw [Int.tmod_eq_emod_of_nonneg A7];omega
 rw [show (-1:Int) * (m:Int)= -(m:Int) by omega,Int.neg_tmod,Int.tmod_eq_emod_of_nonneg A7];omega
def I9 (n:Int):ByteArray:=⟨(Lib.itoa n).toArray⟩
end Go.Sx
set_option maxRecDepth 100000
namespace Go.Sx
open Go
open Go.RowKit (Below)
variable {P : Program}
variable {w : World}
theorem Xg {w':World}{x:Value}(hb:Below w.heap.size w w')(h:x.oneCell'=true):Ju w w' [.one (.val x)] (.returned x):=
 ⟨hb,[x],fun _=>[],rfl,rfl,fun i y hi=>by
  cases i with
  |zero=>simp only [Ha,Ex] at hi;subst hi;exact .val x h
  |succ i=>simp at hi,fun i hi=>⟨List.nodup_nil,fun b hb=>by cases hb⟩,fun i j hi hj hne b hb=>by cases hb⟩
theorem Ud {A:Nat→Prop}{x v:Value}(h:Qv w A (.val x) v):v=x:=by
 cases h;rfl
theorem B8q (w:World)(k:Nat)(os:Array Obj):Below w.heap.size w (Sort.grow (w.drewN k) os):=
 ⟨rfl,rfl,rfl,by rw [Sort.size_grow];exact Ut _ _,fun i hi=>(Sort.heap_grow_old (w.drewN k) os hi)⟩
theorem Xy {n:String}{cs:Array Value}{w':World}(hb:Below w.heap.size w w')(h:w.var? P n=some cs):w'.var? P n=some cs:=by
 unfold World.var? at h ⊢
 cases hg:P.globalNamed n with
 |none=>rw [hg] at h;cases h
 |some g=>
  rw [hg] at h;simp only [Option.bind_some] at h ⊢
  have hlt:g<w.heap.size:=by
   by_cases hlt:g<w.heap.size
   ·exact hlt
   exfalso;rw [Array.getElem?_eq_none A7] at h;cases h
  rw [hb.block g hlt];exact h
theorem A6i {α:Type} [Inhabited α] {es:Nat}{e:α→List Ag}{x:α}{row:Nat→List Ag}(h0:row 0=e x):
  Kk (.sl 1 es row) (Mx es e [x]):=by
 refine ⟨rfl,rfl,fun i hi=>?_⟩
 match i,hi with
 | 0,_=>rw [h0];exact I8.rfl' _
theorem bsz (a:Array UInt8):(ByteArray.mk a).size=a.size:=rfl
theorem B8 {n:Int}(h:Gv .i64 n):(I9 n).size≤21:=by
 rw [I9,bsz,Gq];exact Lib.itoa_length_le n h.1 h.2
theorem B2y (b:UInt8)(l:List UInt8):(ByteArray.mk #[b])++(ByteArray.mk l.toArray)=ByteArray.mk (b::l).toArray:=by
 apply Tg
 simp [Wz]
theorem Gd {n lo hi:Int}:E4 n lo hi=false↔¬ (lo≤n∧n≤hi):=by
 rw [←Cl];simp
end Go.Sx
set_option maxRecDepth 100000
namespace Go.Sx
open Go
open Go.RowKit (Below)
variable {P : Program} {T : List (TypeId × TI)}
variable {Q : Exit → Act → World → Prop}
theorem C9l (hT:Bz P T)(wr:Bool){J:Type}{B:Fg}{c:Code}{K:List KI}{s:AS}(fs:List Nat)(us:J→List (Nat×AV))(bs:J→List Bx)(os:J→List Ow)(φ:J→Prop)(h1:vcW P B Q (Py T wr 100000 (.code c:: .loop (Inv B (fun j=>s.upd fs (us j) (bs j) (os j)) φ (fun _=>0) 1)::K) s))(h2:∀j,φ j→vcW P B Q (upK s.am 0 fs (us j) fun am=>Py T wr 100000 K {s with am:=am,aw:=bs j,own:=os j})):GW P B Q (.code c::K) s:=by
 refine ⟨fun E a w hs=>?_⟩;have g1:G P B Q (.code c:: .loop (Inv B (fun j=>s.upd fs (us j) (bs j) (os j)) φ (fun _=>0) 1)::K) s:=(go hT wr h1).rec id;refine Code.wp_mono (fun e a' w' hq=>?_) (g1 E a w hs)
 cases e with
 |normal=>
  obtain ⟨j,hj,_,E',hE'⟩:=(hq:Inv B (fun j=>s.upd fs (us j) (bs j) (os j)) φ (fun _=>0) 1 a' w');have g2:G P B Q K (s.upd fs (us j) (bs j) (os j)):=(go hT wr (by have:=h2 j hj;rw [C8z] at this;exact this)).rec id;exact g2 E' a' w' hE'
 |exit id=>exact hq
 |goto l=>exact hq
 |ret=>exact hq
 |panic c=>exact hq
 |outgrown=>exact hq
theorem C6b (n:Nat)(hT:Bz P T)(wr:Bool){f:FuncId}{fn:Func}{c:Code}{ins ax:List I7}(hf:P.funcs[f]? =some fn)(hb:fn.body=some c)(hn:(fn.name== "runtime.NumGoroutine")=false)
  (h:∀W,vcW P ⟨W,fun _=>False⟩ (bodyPost P fn fun e w'=>Ju W w' ax e) (Py T wr n [.code c] (F8 fn.ntmps ins))):So P f ins ax:=
 enter hf hb hn fun W=>C8d hT wr n _ _ (C0u _ (h W))
theorem goF (n:Nat)(hT:Bz P T)(wr:Bool){B:Fg}{K:List KI}{s:AS}(h:vcW P B Q (Py T wr n K s)):GW P B Q K s:=
 ⟨C8d hT wr n _ _ (C0u _ h)⟩
theorem D0z {w:World}{A:Nat→Prop}{xs:List ByteArray}{v:Value}(h:Qv w A (C6 xs) v):
  (∃a c,v= .slice a 0 c∧xs=[])∨(∃b o c,v= .slice (some ⟨b,o,none⟩) xs.length c∧xs.length≤c∧∀(j:Nat) x,xs[j]? =some x→w.cell? ⟨b,o+j,none⟩=some (.string x)):=by
 change Qv w A (.sl xs.length 1 fun i=>[vs (xs.getD i default)]) v at h
 generalize hn:xs.length=n at h;generalize hrow:(fun i=>[vs (xs.getD i default)])=row at h
 cases h with
 |nil=>exact .inl ⟨none,0,rfl,Pj hn⟩
 |emp=>exact .inl ⟨_,0,rfl,Pj hn⟩
 |sl=>
  rename_i b off cap u hc hn' hA hu hr hl
  refine .inr ⟨b,off,cap,rfl,hn',fun j x hx=>?_⟩;have hj:j<xs.length:=(Cx.1 hx).1;have h1:=hu j 0 A7 A7;have h2:=hr j 0 (vs x) A7 (by rw [←hrow];simp [List.getD,hx]);rw [Nat.mul_one,Ry] at h1;rw [h1];exact A6 some (Ud h2)
def D6 (l:List ByteArray):ByteArray:=⟨(Lib.join (l.map (·.data.toList)) [32]).toArray⟩
theorem C3y (l:List (List UInt8))(t sep:List UInt8)(h:l≠[]):Lib.join (l++[t]) sep=Lib.join l sep++sep++t:=by
 match l,h with
 |x::r,_=>
  rw [X4,Lib.join_cons,Lib.join_cons]
  simp [Lib.joinTail]
theorem B1v (t:ByteArray):D6 [t]=t:=by
 simp [D6,Lib.join_one]
theorem Zc (l:List ByteArray)(t:ByteArray)(h:l≠[]):D6 (l++[t])=D6 l++⟨#[32]⟩++t:=by
 apply Tg
 simp only [D6,Qu,I1,Wx,Wz];rw [C3y _ _ _ (by simpa using h)]
 simp
end Go.Sx
set_option maxRecDepth 100000
namespace Go.Sx
open Go
open Go.RowKit (Below)
variable {P : Program} {T : List (TypeId × TI)}
def A5z (P:Program) (H:World→Prop) (f:FuncId) (ins:List I7) {ι:Type} (φ:ι→Prop) (ax:ι→List I7):Prop:=
 Mz P f∧∀(w:World),H w→∀(vs:List Value),vs.length=ins.length→(∀i x,ins[i]? =some x→Q6 w (fun _=>False) x (vs.getD i undef))→
  Calls P f vs.toArray w fun e w'=>∃i,φ i∧Ju w w' (ax i) e
theorem B8v {W:World}{H:World→Prop}{Q:Exit→Act→World→Prop}{q:Bool}{f:FuncId}{xs:List AV}{dst:Option Tmp}{K:List KI}{s:AS}{ins:List I7}{ι:Type}{φ:ι→Prop}{ax:ι→List I7}
  (hf:A5z P H f ins φ ax)(hst:A54 H)(hW:H W)(hx:J2 s xs=some ins)
  (h:∀i,φ i→GW P ⟨W,fun _=>False⟩ Q K (s.put dst (Rr (ax i)))):CW P ⟨W,fun _=>False⟩ Q q f xs dst K s:=by
 refine ⟨⟨hf.1,fun E a w hs vs hl hv=>?_⟩⟩;obtain ⟨h1,h2⟩:=Jl hx;refine (hf.2 w (hst W w (Po hs.base) hW) vs A7 (fun i x hi=>?_)).mono (fun e w' ⟨k,hk,hg⟩=>?_)
 ·obtain ⟨y,hy,hc⟩:=h2 i x hi
  exact L5 hs hc (hv i y hy)
 ·
  have hone:E3 P (fun _=>True) f ins (ax k)→True:=fun _=>trivial
  obtain ⟨hb,rs,fps,rfl,hrl,hro,hfr,hdis⟩:=hg;have hI:=(hs.call hb).is
  have hno:∀i,i<(ax k).length→∀b∈fps i,¬ s.ag E b:=fun i hi b hb' hav=>by
   have:=hs.avoid_lt hav
   have:=(hfr i hi).2 b hb'
   omega
  have hone:∀i y,(ax k)[i]? =some y→Cy E w' (s.ag E) s.next (Mf y) (rs.getD i undef):=by
   intro i y hy;have hi:i<(ax k).length:=(Cx.1 hy).1;have ho:=hro i y hy
   cases y with
   |one c=>exact .c (Bw.rep ho (hno i hi))
   |agg cs=>
    obtain ⟨us,gps,hu,hul,hur,hfp⟩:=ho;rw [hu];refine .agg us (by simp [hul]) (fun j x hj=>?_);simp only [Fa,F1] at hj;obtain ⟨c,hc,rfl⟩:=hj;have hj:j<cs.length:=(Cx.1 hc).1;exact .c ((hur j c hc).rep (fun b hb'=>hno i hi b (by rw [hfp];exact Dy hj hb')))
   |ptr cs=>exact ho.elim
   |fn f ai=>exact ho.elim
  have hres:Cy E w' (s.ag E) s.next (Rr (ax k)) (Kx rs):=by
   have:=Gz (E:=E) (A:=s.ag E) (N:=s.next) (w:=w') (ax k) ((ax k).map Mf) rs hrl Ey (fun i x hi=>by
    simp only [Fa,F1] at hi;obtain ⟨y,hy,rfl⟩:=hi
    exact hone i y hy)
   match (ax k),this with
   | [],this=>exact this
   | [o],this=>exact this
   |o1::o2::r,this=>exact this
  exact ⟨_,rfl,fun _=> .of_below hb,(h k hk).rec fun g=>g E _ w' (hI.put dst hres)⟩
theorem A2s {w w':World}{x y:Value}(hb:Below w.heap.size w w')(hx:x.oneCell'=true)(hy:y.oneCell'=true):Ju w w' [.one (.val x),.one (.val y)] (.returned (.tuple #[x,y])):=
 ⟨hb,[x,y],fun _=>[],rfl,rfl,fun i z hi=>by
  match i,hi with
  | 0,hi=>simp only [Ha,Ex] at hi;subst hi;exact .val x hx
  | 1,hi=>simp only [List.getElem?_cons_succ,Ha,Ex] at hi;subst hi;exact .val y hy
  |i+2,hi=>simp at hi,fun i hi=>⟨List.nodup_nil,fun b hb=>by cases hb⟩,fun i j hi hj hne b hb=>by cases hb⟩
end Go.Sx
set_option maxRecDepth 100000
namespace Go.Sx
open Go
variable {P : Program} {T : List (TypeId × TI)}
variable {t : TypeId}
theorem B99 (ht:P.underlying t=some .string){b:ByteArray}{lo hi':Option Value}{l h:Int}(hl:C44 lo l 0)(hh:C44 hi' h b.size)(h0:0≤l)(h1:l≤h)(h2:h≤b.size)(w:World):
  (Instr.sliceAt t (.string b) lo hi' none).run P w= .ok (.string (b.extract l.toNat h.toNat)) w:=by
 rw [run_sliceAt_string w t _ _ _ _ ht]
 rcases hl with ⟨rfl,rfl⟩|⟨k1,rfl⟩<;>rcases hh with ⟨rfl,rfl⟩|⟨k2,rfl⟩
 ·rw [run_slice_string_all w t b ht];simp
 ·rw [run_slice_string_h w t b ht k2 h h1 h2];simp
 ·rw [run_slice_string_l w t b ht k1 l h0 A7];simp
 rw [run_slice_string w t b k1 k2 l h ht h0 h1 h2]
variable {Q : Exit → Act → World → Prop} {all : Array Oper} {rest : List Oper}
theorem A5s (hT:Bz P T){B:Fg}{q:Bool}{o:Oper}{K:List KI}{s:AS}{x:Operand}{lo hi:Option Operand}{i:TI}(hg:o.guard=none)(ho:o.op= .slice t x lo hi none)(hi':find T t=some i)(hstr:i.str=true){b:ByteArray}(hx:s.ev x= .c (vs b)){l h:Int}(hl:bnd s lo 0=some l)(hh:bnd s hi b.size=some h)(hb:0≤l∧l≤h∧h≤b.size)(hgo:GW P B Q (.ops q all rest::K) (s.put o.dst (.c (vs (b.extract l.toNat h.toNat))))):GW P B Q (.ops q all (o::rest)::K) s:=by
 refine ⟨Ek hg (fun E a w hs=>?_)⟩;have hd:=hs.ev x;rw [hx] at hd;have e:=B3 hd;have h1:=L6 hs hl;have h2:=L6 hs hh;have hden:∀{E:G0} {w:World} {A:Nat→Prop} {N:Nat} (v:Value),v.oneCell'=true→Cy E w A N (.c (.val v)) v:=fun v hv=> .c (.val v hv);refine ⟨_,fun w' _=>?_,hgo.rec fun hg=>hg _ _ _ (hs.put o.dst (hden _ rfl))⟩;have hrun:=B99 (O8 (hT t i hi') hstr) h1 h2 hb.1 hb.2.1 hb.2.2 w';obtain ⟨dst,op',ty,pos,after,guard⟩:=o
 simp only at ho
 subst ho
 simp [execOp,e,hrun]
theorem D27 {B:Fg}{q:Bool}{o:Oper}{K:List KI}{s:AS}{u:TypeId}{x:Operand}{v:Value}(hg:o.guard=none)(ho:o.op= .binOp .neq t x (.const .nilIface) u)(hu:P.underlying t=some (.interface (P.methodsAt t)))(hx:s.ev x= .c (.val v)){r:Bool}(hv:(v= .nilIface∧r=false)∨(∃y z,v= .iface y z∧r=true))(hgo:GW P B Q (.ops q all rest::K) (s.put o.dst (.c (vb r)))):GW P B Q (.ops q all (o::rest)::K) s:=by
 refine ⟨Ek hg (fun E a w hs=>?_)⟩;have hd:=hs.ev x;rw [hx] at hd;have e:=B3 hd;have hden:∀{E:G0} {w:World} {A:Nat→Prop} {N:Nat} (v:Value),v.oneCell'=true→Cy E w A N (.c (.val v)) v:=fun v hv=> .c (.val v hv);refine ⟨.bool r,fun w' _=>?_,hgo.rec fun hg=>hg _ _ _ (hs.put o.dst (hden _ rfl))⟩;obtain ⟨dst,op',ty,pos,after,guard⟩:=o
 simp only at ho
 subst ho;have ec:a.eval (.const .nilIface)= .nilIface:=rfl
 rcases hv with ⟨rfl,rfl⟩|⟨y,z,rfl,rfl⟩
 ·simp [execOp,e,eqGuard,run_neq_nil_nil w' t hu,ec]
 simp [execOp,e,eqGuard,run_neq_held_nil w' t y z hu,ec]
end Go.Sx
set_option maxRecDepth 100000
namespace Go.Sx
open Go
def isD (b:UInt8):Prop:=48≤b.toNat∧b.toNat≤57
instance (b:UInt8):Decidable (isD b):=by unfold isD;infer_instance
def C59 (n:Nat) (b:UInt8):Nat:=10 * n+(b.toNat-48)
def N4 (acc:Nat) (l:List UInt8):Nat:=l.foldl C59 acc
theorem Xd (acc:Nat)(x:UInt8)(l:List UInt8):N4 acc (x::l)=N4 (10 * acc+(x.toNat-48)) l:=by
 simp only [N4,A0i,C59]
theorem A3x (acc:Nat)(l:List UInt8)(b:UInt8):N4 acc (l++[b])=10 * N4 acc l+(b.toNat-48):=by
 simp only [N4,A3l,A0i,List.foldl_nil,C59]
theorem C9o (acc:Nat)(l:List UInt8):acc≤N4 acc l:=by
 induction l generalizing acc with
 |nil=>exact Ds _
 |cons x l ih=>
  have:=ih (10 * acc+(x.toNat-48))
  rw [Xd];omega
theorem C9p (l:List UInt8)(h:∀b∈l,isD b):N4 0 l<10 ^ l.length:=by
 suffices hh:∀(l:List UInt8) (acc:Nat),(∀b∈l,isD b)→N4 acc l<(acc+1) * 10 ^ l.length by simpa using hh l 0 h
 intro l
 induction l with
 |nil=>intro acc _;show acc<(acc+1) * 10 ^ 0;omega
 |cons x l ih=>
  intro acc h;have h1:=ih (10 * acc+(x.toNat-48)) (fun b hb=>h b (Db _ hb));have hx:=h x L3;unfold isD at hx;rw [Xd,Fb,Nat.pow_succ];refine Kg h1 ?_;rw [Qr (10 ^ l.length) 10,←Nat.mul_assoc];exact Kh _ A7
theorem Ra {d:Nat}(h:d<10):(UInt8.ofNat (48+d)).toNat=48+d:=by
 rw [UInt8.toNat_ofNat'];omega
theorem S8 (u:Nat):∀b∈Lib.decDigits u,isD b:=by
 induction u using Nat.strongRecOn with
 |_ u ih=>
  rw [Lib.decDigits]
  split
  ·rename_i h
   intro b hb;rw [I3.1 hb,isD,Ra h];omega
  rename_i h
  intro b hb
  rcases Ki.1 hb with hb|hb
  ·exact ih _ A7 b hb
  rw [I3.1 hb,isD,Ra A7];omega
theorem Vl (u:Nat):N4 0 (Lib.decDigits u)=u:=by
 induction u using Nat.strongRecOn with
 |_ u ih=>
  rw [Lib.decDigits]
  split
  ·rename_i h
   rw [Xd,Ra h];simp only [N4,List.foldl_nil];omega
  rename_i h
  rw [A3x,ih _ A7,Ra A7];omega
theorem B22 (u:Nat):Lib.decDigits u≠[]:=by
 rw [Lib.decDigits];split<;>simp
theorem A90 (k:Nat):∀u,u<10 ^ (k+1)→(Lib.decDigits u).length≤k+1:=by
 induction k with
 |zero=>
  intro u h;rw [Lib.decDigits,dif_pos (show u<10 from h)]
  exact Ds _
 |succ k ih=>
  intro u h;rw [Lib.decDigits]
  split
  ·exact Nat.succ_le_succ (Fe _)
  rw [D3];have h':u<10 ^ (k+1) * 10:=h
  have:=ih (u / 10) A7
  exact Nat.succ_le_succ this
theorem A8a:∀(l:List UInt8) (acc:Nat),(∀b∈l,isD b)→N4 acc l≤1000000000000000000→Lib.parseUint10 acc l= .ok (N4 acc l)
 | [],_,_,_=>rfl
 |c::r,acc,h,hd=>by
  have hc:48≤c.toNat∧c.toNat≤57:=h c L3;have hd':N4 (10 * acc+(c.toNat-48)) r≤1000000000000000000:=by rw [←Xd];exact hd
  have hge:=C9o (10 * acc+(c.toNat-48)) r;have e:acc * 10+(c.toNat-48)=10 * acc+(c.toNat-48):=by omega
  rw [Lib.parseUint10,Ak hc,Ab A7,e,Ab A7];exact A8a r _ (fun b hb=>h b (Db _ hb)) hd'
theorem A0x (n:Nat):(I9 n).data.toList=Lib.decDigits n:=by
 rw [I9,Lib.itoa,Ab A7];simp
theorem C5j (n:Nat)(h:n≤1000000000):Lib.atoiAll (I9 n).data.toList= .ok (n:Int):=by
 rw [A0x];have hD:=S8 n;have hv:=Vl n;have hp:=A8a (Lib.decDigits n) 0 hD A7;rw [hv] at hp;generalize hl:Lib.decDigits n=l at *
 match l,B22 n with
 | [],hne=>exact absurd hl hne
 |c::r,_=>
  have hc:48≤c.toNat∧c.toNat≤57:=hD c L3;simp only [Lib.atoiAll];rw [Ab A7,Lib.parseMag,Ab Ey,hp]
  simp only
  rw [Ab A7,Ab A7,Ab A7]
def rd (s:ByteArray):Option Nat:=if N4 0 s.data.toList≤1000000000∧I9 (N4 0 s.data.toList:Nat)=s then some (N4 0 s.data.toList) else none
variable {s : ByteArray} {n : Nat}
theorem Ua:rd s=some n↔n≤1000000000∧I9 n=s:=by
 unfold rd
 constructor
 ·intro h
  split at h
  ·rename_i hc
   obtain rfl:=E6 h;exact hc
  cases h
 rintro ⟨h1,rfl⟩
 have e:N4 0 (I9 n).data.toList=n:=by rw [A0x,Vl]
 rw [e,Ak ⟨h1,rfl⟩]
theorem D1p (h:rd s=some n):n≤1000000000:=(Ua.1 h).1
theorem D0w (h:rd s=some n):s.size≤10:=by
 obtain ⟨h1,rfl⟩:=Ua.1 h
 have:(I9 n).size=(I9 n).data.toList.length:=(Mr).symm
 rw [this,A0x];exact A90 9 n A7
theorem D2j (h:rd s=some n):∀b∈s.data.toList,isD b:=by
 obtain ⟨h1,rfl⟩:=Ua.1 h;rw [A0x];exact S8 n
theorem C1z (h:rd s=some n):Lib.atoiAll s.data.toList= .ok (n:Int):=by
 obtain ⟨h1,rfl⟩:=Ua.1 h;exact C5j n h1
def Sj (s:ByteArray):Int:=((rd s).getD 0:Nat)
def U9 (s:ByteArray):Bool:=(rd s).isSome
theorem Il (h:rd s=none):Sj s=0∧U9 s=false:=by simp [Sj,U9,h]
theorem B2d (h:rd s=some n):Sj s=n∧U9 s=true:=by simp [Sj,U9,h]
theorem B2b (s:ByteArray):0≤Sj s∧Sj s≤1000000000:=by
 cases h:rd s with
 |none=>rw [(Il h).1];omega
 |some n=>rw [(B2d h).1];have:=D1p h;omega
theorem C5k {l:List UInt8}{v:Int}(h:Lib.atoiAll l= .ok v):Gv .i64 v:=by
 unfold Lib.atoiAll at h
 split at h
 ·cases h
 rename_i c r
 simp only at h
 split at h
 ·cases h
 ·cases h
 rename_i u hu
 split at h
 ·cases h
 split at h
 ·cases h
 injection h with h
 subst h
 show _∧_
 split<;>omega
end Go.Sx
set_option maxRecDepth 100000
namespace Go.Sx
open Go
def C4 (s:ByteArray) (i:Nat):UInt8:=s.data.getD i 0
def Rw (s:ByteArray):Nat→List ByteArray×Nat
 | 0=>([],0)
 |i+1=>if i<s.size∧C4 s i≠32 then Rw s i else (if (Rw s i).2<i then (Rw s i).1++[s.extract (Rw s i).2 i] else (Rw s i).1,i+1)
def okB (s:ByteArray):Prop:=∀b∈s.data.toList,32≤b.toNat∧b.toNat≤126
instance (s:ByteArray):Decidable (okB s):=by unfold okB;infer_instance
def Gt (s:ByteArray):List ByteArray:=(Lib.fields s.data.toList).map fun l=>⟨l.toArray⟩
variable {s : ByteArray}
theorem C8k {k:Nat}(h:k<s.size)(hx:C4 s k≠32):Rw s (k+1)=Rw s k:=by
 rw [Rw,Ak ⟨h,hx⟩]
theorem C19 {k:Nat}(h:¬ (k<s.size∧C4 s k≠32))(hb:(Rw s k).2<k):Rw s (k+1)=((Rw s k).1++[s.extract (Rw s k).2 k],k+1):=by
 rw [Rw,Ab h,Ak hb]
theorem B72 {k:Nat}(h:¬ (k<s.size∧C4 s k≠32))(hb:¬ (Rw s k).2<k):Rw s (k+1)=((Rw s k).1,k+1):=by
 rw [Rw,Ab h,Ab hb]
theorem C0l (s:ByteArray)(i:Nat):(Rw s i).2≤i:=by
 induction i with
 |zero=>exact Ds _
 |succ i ih=>
  rw [Rw]
  split
  ·omega
  exact Ds _
theorem C2b (s:ByteArray)(i:Nat):(Rw s i).1.length≤i:=by
 induction i with
 |zero=>exact Ds _
 |succ i ih=>
  rw [Rw]
  split
  ·omega
  simp only
  split
  ·rw [D3];exact Nat.succ_le_succ ih
  omega
theorem Tq {i:Nat}(h:i<s.size):s.data.toList.drop i=C4 s i::s.data.toList.drop (i+1):=by
 have h':i<s.data.toList.length:=by rw [Mr];exact h
 rw [A9s h']
 congr 1
 unfold C4;rw [A0k,V5 (show i<s.data.size from h)]
 simp
theorem Z2 {i:Nat}(h:i<s.size):C4 s i∈s.data.toList:=by
 have:=Tq h
 exact A3m (by rw [this];exact L3)
theorem A8q {b i:Nat}(h:i<s.size)(hb:b≤i):(s.data.toList.take (i+1)).drop b=(s.data.toList.take i).drop b++[C4 s i]:=by
 have h':i<s.data.toList.length:=by rw [Mr];exact h
 have e:s.data.toList.take (i+1)=s.data.toList.take i++[C4 s i]:=by
  rw [List.take_add_one,Dl h'];unfold C4;rw [A0k,V5 (show i<s.data.size from h)]
  simp
 rw [e,List.drop_append_of_le_length (by rw [F9];omega)]
theorem L7 (s:ByteArray)(b i:Nat)(h:i≤s.size):(s.extract b i).data.toList=(s.data.toList.take i).drop b:=by
 rw [ByteArray.data_extract,Array.toList_extract,List.extract_eq_take_drop,List.drop_take]
theorem C92 {x:UInt8}(h:32≤x.toNat∧x.toNat≤126):Lib.isSp x=decide (x=32):=by
 have hne:∀k:UInt8,k.toNat<32→x≠k:=fun k hk e=>by rw [e] at h;omega
 rw [S3,Np];simp only [Lib.isSp,Yx,Qt]
 constructor
 ·rintro (((((h1|h1)|h1)|h1)|h1)|h1)
  ·exact absurd h1 (hne _ Bq)
  ·exact absurd h1 (hne _ Bq)
  ·exact absurd h1 (hne _ Bq)
  ·exact absurd h1 (hne _ Bq)
  ·exact absurd h1 (hne _ Bq)
  exact h1
 exact fun h1=> .inr h1
theorem Oc (cur:List UInt8)(b:UInt8)(l:List UInt8):Lib.fieldsGo cur (b::l)=if Lib.isSp b then (if cur.isEmpty then Lib.fieldsGo [] l else cur::Lib.fieldsGo [] l) else Lib.fieldsGo (cur++[b]) l:=by
 cases cur<;>rfl
theorem Pr (cur:List UInt8):Lib.fieldsGo cur []=if cur.isEmpty then [] else [cur]:=by
 cases cur<;>rfl
theorem D1b (s:ByteArray)(hok:okB s)(i:Nat)(hi:i≤s.size):Lib.fields s.data.toList=(Rw s i).1.map (·.data.toList)++Lib.fieldsGo ((s.data.toList.take i).drop (Rw s i).2) (s.data.toList.drop i):=by
 induction i with
 |zero=>simp [Rw,Lib.fields]
 |succ i ih=>
  have h:i<s.size:=by omega
  have hle:=C0l s i;rw [ih A7,Tq h,Oc,C92 (hok _ (Z2 h)),Rw]
  by_cases hx:C4 s i=32
  ·rw [Ak (show decide (C4 s i=32)=true by simpa using hx),Ab (show ¬ (i<s.size∧C4 s i≠32) from fun c=>c.2 hx)]
   simp only
   have hnil:(s.data.toList.take (i+1)).drop (i+1)=[]:=List.drop_eq_nil_of_le (Ly _ _);rw [hnil]
   by_cases hb:(Rw s i).2<i
   ·have hne:((s.data.toList.take i).drop (Rw s i).2).isEmpty=false:=by
     rw [List.isEmpty_eq_false_iff,←List.length_pos_iff,Ge,F9,Mr]
     have:i<s.data.size:=h
     omega
    rw [Ab (by rw [hne];decide),Ak hb,Qu,I1,Wx,L7 s _ _ A7]
    simp
   have hne:((s.data.toList.take i).drop (Rw s i).2).isEmpty=true:=by
    rw [List.isEmpty_iff,List.drop_eq_nil_iff,F9];omega
   rw [Ak hne,Ab hb]
  rw [Ab (show ¬ decide (C4 s i=32)=true by simpa using hx),Ak (show i<s.size∧C4 s i≠32 from ⟨h,hx⟩),A8q h hle]
theorem C2a (s:ByteArray)(hok:okB s):(Rw s (s.size+1)).1=Gt s:=by
 have h:=D1b s hok s.size (Ds _);have hle:=C0l s s.size;have hsz:s.data.toList.length=s.size:=Mr;rw [Ms (Nat.le_of_eq hsz),List.drop_eq_nil_of_le (Nat.le_of_eq hsz),Pr] at h;rw [Gt,h,Rw,Ab (by intro c;omega)]
 simp only
 have hmap:∀l:List ByteArray,(l.map (·.data.toList)).map (fun l=>(⟨l.toArray⟩:ByteArray))=l:=fun l=>by
  rw [List.map_map]
  conv=>rhs;rw [←List.map_id l]
  refine List.map_congr_left fun x _=>?_
  simp
 by_cases hb:(Rw s s.size).2<s.size
 ·have hne:(s.data.toList.drop (Rw s s.size).2).isEmpty=false:=by
   rw [List.isEmpty_eq_false_iff,←List.length_pos_iff,Ge];omega
  rw [Ak hb,hne];simp only [Td,Te,Qu,hmap,I1,Wx]
  congr 2
  apply Tg
  apply A0n.1
  rw [L7 s _ _ (Ds _),Ms A7]
 have hne:(s.data.toList.drop (Rw s s.size).2).isEmpty=true:=by
  rw [List.isEmpty_iff,List.drop_eq_nil_iff];omega
 rw [Ab hb,hne];simp only [Mp,I4,hmap]
def Gx (s:ByteArray):Prop:=s.size≤600∧okB s∧(Gt s).length≤12
instance (s:ByteArray):Decidable (Gx s):=by unfold Gx;infer_instance
def Gk (s:ByteArray):Bool:=decide (Gx s)
def A5 (s:ByteArray):List ByteArray:=if Gx s then Gt s else []
theorem Hf (s:ByteArray):(A5 s).length≤12:=by
 unfold A5
 split
 ·rename_i h;exact h.2.2
 exact Fe _
end Go.Sx
set_option maxRecDepth 100000
namespace Go.Sx
open Go
theorem D1j:∀{x y r r':List UInt8},32∉x→32∉y→x++32::r=y++32::r'→x=y∧r=r'
 | [],[],_,_,_,_,h=>⟨rfl,by simpa using h⟩
 | [],b::y,_,_,_,hy,h=>by
  simp only [Uu,X4,Nq] at h;exact absurd (by rw [←h.1];exact L3) hy
 |a::x,[],_,_,hx,_,h=>by
  simp only [Uu,X4,Nq] at h;exact absurd (by rw [h.1];exact L3) hx
 |a::x,b::y,_,_,hx,hy,h=>by
  simp only [X4,Nq] at h;obtain ⟨h1,h2⟩:=D1j (fun hm=>hx (Db _ hm)) (fun hm=>hy (Db _ hm)) h.2;exact ⟨by rw [h.1,h1],h2⟩
theorem A37 (x y:List UInt8)(r:List (List UInt8)):Lib.join (x::y::r) [32]=x++32::Lib.join (y::r) [32]:=by
 rw [Lib.join_cons,Lib.join_cons]
 simp [Lib.joinTail]
theorem B6g:∀(p q:List (List UInt8)),p≠[]→q≠[]→(∀x∈p,32∉x)→(∀x∈q,32∉x)→Lib.join p [32]=Lib.join q [32]→p=q
 | [],_,h,_,_,_,_=>absurd rfl h
 |_::_,[],_,h,_,_,_=>absurd rfl h
 | [x],[y],_,_,_,_,h=>by rw [Lib.join_one,Lib.join_one] at h;rw [h]
 | [x],y::y'::r,_,_,hp,_,h=>by
  rw [Lib.join_one,A37] at h;exact absurd (by rw [h];simp) (hp x L3)
 |x::x'::r,[y],_,_,_,hq,h=>by
  rw [Lib.join_one,A37] at h;exact absurd (by rw [←h];simp) (hq y L3)
 |x::x'::r,y::y'::r',_,_,hp,hq,h=>by
  rw [A37,A37] at h;obtain ⟨h1,h2⟩:=D1j (hp x L3) (hq y L3) h
  have:=B6g (x'::r) (y'::r') Ey Ey (fun z hz=>hp z (Db _ hz)) (fun z hz=>hq z (Db _ hz)) h2
  rw [h1,this]
theorem Rh:∀(l cur:List UInt8),32∉cur→∀x∈Lib.fieldsGo cur l,32∉x
 | [],cur,hc,x,hx=>by
  rw [Pr] at hx
  split at hx
  ·cases hx
  rw [I3.1 hx];exact hc
 |b::l,cur,hc,x,hx=>by
  rw [Oc] at hx;have hn:(32:UInt8)∉([]:List UInt8):=by simp
  split at hx
  ·split at hx
   ·exact Rh l [] hn x hx
   rcases Ch.1 hx with rfl|hx
   ·exact hc
   exact Rh l [] hn x hx
  rename_i hb
  refine Rh l (cur++[b]) (fun hm=>?_) x hx
  rcases Ki.1 hm with hm|hm
  ·exact hc hm
  have e:=I3.1 hm;subst e;exact hb Bq
def noB (s:ByteArray):Prop:=(32:UInt8)∉s.data.toList
theorem B9b (s:ByteArray):∀x∈Gt s,noB x:=fun x hx=>by
 obtain ⟨l,hl,rfl⟩:=Fm.1 hx
 have:=Rh s.data.toList [] Ey l hl
 simpa [noB] using this
theorem T3 (s:ByteArray):∀x∈A5 s,noB x:=fun x hx=>by
 unfold A5 at hx
 split at hx
 ·exact B9b s x hx
 cases hx
theorem T1 {p q:List ByteArray}(hp:p≠[])(hq:q≠[])(h1:∀x∈p,noB x)(h2:∀x∈q,noB x)(h:D6 p=D6 q):p=q:=by
 have h':Lib.join (p.map (·.data.toList)) [32]=Lib.join (q.map (·.data.toList)) [32]:=by
  have:=A6 (fun b:ByteArray=>b.data.toList) h
  simpa [D6] using this
 have e:=B6g _ _ (by simpa using hp) (by simpa using hq) (fun x hx=>by obtain ⟨y,hy,rfl⟩:=Fm.1 hx;exact h1 y hy) (fun x hx=>by obtain ⟨y,hy,rfl⟩:=Fm.1 hx;exact h2 y hy) h'
 have hinj:∀(a b:List ByteArray),a.map (·.data.toList)=b.map (·.data.toList)→a=b:=by
  intro a
  induction a with
  |nil=>intro b hb;cases b with|nil=>rfl|cons _ _=>simp at hb
  |cons x a ih=>
   intro b hb
   cases b with
   |nil=>simp at hb
   |cons y b=>
    simp only [I1,Nq] at hb;rw [ih b hb.2,Tg (A0n.1 hb.1)]
 exact hinj p q e
theorem D19 {l:List UInt8}(h:∀b∈l,isD b):(32:UInt8)∉l:=fun hm=>absurd (h _ hm) Bq
theorem D12 (n:Nat):noB (I9 n):=by
 rw [noB,A0x];exact D19 (S8 n)
theorem D2i (n:Nat)(h:n≤1000000000):rd (I9 n)=some n:=Ua.2 ⟨h,rfl⟩
end Go.Sx
set_option maxRecDepth 100000
namespace Go.Sx
open Go
def Es (p:List ByteArray) (i:Nat):Int:=if i<p.length then Sj (p.getD i default) else 0
theorem Cj (p:List ByteArray)(i:Nat):0≤Es p i∧Es p i≤1000000000:=by
 unfold Es
 split
 ·exact B2b _
 omega
def Ql (p:List ByteArray) (w:Nat):Bool:=(p.drop w).all U9
def Gp (p:List ByteArray) (w:Nat):List Int:=(p.drop w).map Sj
theorem Hs (p:List ByteArray)(w:Nat):(Gp p w).length=p.length-w:=by simp [Gp]
theorem D0u (n:Nat)(h:n≤1000000000):U9 (I9 n)=true∧Sj (I9 n)=n:=by
 have:=B2d (D2i n h)
 exact ⟨this.2,this.1⟩
variable {s : ByteArray} {k : Nat}
theorem B93 (h:k<s.size)(hx:¬ isD (C4 s k)):rd s=none:=by
 cases hr:rd s with
 |none=>rfl
 |some n=>exact absurd (D2j hr _ (Z2 h)) hx
theorem D0v (h:10<s.size):rd s=none:=by
 cases hr:rd s with
 |none=>rfl
 |some n=>have:=D0w hr;omega
theorem B2n (h:k<s.size):s.data.toList.take (k+1)=s.data.toList.take k++[C4 s k]:=by
 have:=A8q (b:=0) h (Fe _)
 simpa using this
theorem C3j (h:k<s.size):N4 0 (s.data.toList.take (k+1))=10 * N4 0 (s.data.toList.take k)+((C4 s k).toNat-48):=by
 rw [B2n h,A3x]
theorem A6q (hs:s.size≤10)(hd:∀b∈s.data.toList.take k,isD b):N4 0 (s.data.toList.take k)<10000000000:=by
 have h:=C9p _ hd
 have hl:(s.data.toList.take k).length≤10:=by
  rw [F9,Mr]
  have:s.data.size≤10:=hs
  omega
 exact Kg h (Nat.pow_le_pow_right Bq hl)
theorem C76 (s:ByteArray):rd s=if N4 0 s.data.toList≤1000000000∧I9 (N4 0 s.data.toList:Nat)=s then some (N4 0 s.data.toList) else none:=rfl
def B03 (s:ByteArray) (k:Nat):Prop:=∀i,i<k→i<s.size→32≤(C4 s i).toNat∧(C4 s i).toNat≤126
theorem A9b (s:ByteArray):B03 s 0:=fun _ h=>absurd h (L4 _)
theorem Oa (h:B03 s k)(hk:k<s.size→32≤(C4 s k).toNat∧(C4 s k).toNat≤126):B03 s (k+1):=fun i hi hs=>by
 by_cases e:i=k
 ·subst e;exact hk hs
 exact h i A7 hs
theorem C7n (h:B03 s k)(hk:s.size≤k):okB s:=fun b hb=>by
 obtain ⟨i,hi,e⟩:=S4 hb;have hi':i<s.size:=by rw [Mr] at hi;exact hi
 have h1:=h i A7 hi'
 have e2:C4 s i=b:=by
  unfold C4;rw [A0k,V5 (show i<s.data.size from hi'),←e]
  simp
 rw [e2] at h1;exact h1
theorem A7z (h:k<s.size)(hx:¬ (32≤(C4 s k).toNat∧(C4 s k).toNat≤126)):¬ Gx s:=fun c=>hx (c.2.1 _ (Z2 h))
theorem Md (h:¬ Gx s):A5 s=[]:=Ab h
theorem Mc (h:¬ Gx s):Gk s=false:=Cd h
theorem B17 (h:Gx s):A5 s=Gt s:=Ak h
theorem Mi (h:Gx s):Gk s=true:=Dc h
end Go.Sx
set_option maxRecDepth 100000
namespace Go.Sx
open Go
open Go.RowKit (Below)
variable {P : Program} {T : List (TypeId × TI)}
variable {B : Fg} {Q : Exit → Act → World → Prop}
theorem RW.mono {Q':Exit→Act→World→Prop}{s:AS}(h:∀a w,Q .ret a w→Q' .ret a w)(hr:RW B Q s):RW B Q' s:=
 ⟨fun E a w hs=>h a w (hr.rec (fun g=>g E a w hs))⟩
variable {H : World → Prop} {ι : Type} {fn : Func}
theorem C9r {φ:ι→Prop}{f:FuncId}{c:Code}{ins:List I7}{ax:ι→List I7}(hf:P.funcs[f]? =some fn)(hb:fn.body=some c)(hn:(fn.name== "runtime.NumGoroutine")=false)(h:∀W,H W→G P ⟨W,fun _=>False⟩ (bodyPost P fn fun e w'=>∃i,φ i∧Ju W w' (ax i) e) [.code c] (F8 fn.ntmps ins)):A5z P H f ins φ ax:=by
 refine ⟨⟨fn,hf,hn,by simp [hb]⟩,fun w hH vs hl hv=>calls_of_wp hf hb ?_⟩
 refine h w hH ⟨fun _=> .slice none 0 0,fun _=>[]⟩ _ w ?_
 have nav:∀b,¬ (F8 fn.ntmps ins).ag ⟨fun _=> .slice none 0 0,fun _=>[]⟩ b:=by
  rintro b (⟨x,hx,_⟩|⟨y,hy,_⟩)
  ·simp [F8] at hx
  simp [F8] at hy
 have nb:∀x,x∉(F8 fn.ntmps ins).aw:=by simp [F8]
 have no:∀x,x∉(F8 fn.ntmps ins).own:=by simp [F8]
 refine ⟨rfl,by simp [F8],by simp [F8,hl],fun i x hx=>?_,fun x hx=>absurd hx (nb x),fun x hx=>absurd hx (nb x),by simp [F8],fun y hy=>absurd hy (no y),by simp [F8],fun y hy=>absurd hy (no y),fun x hx=>absurd hx (nb x),fun _ _=>rfl,
  ⟨rfl,rfl,rfl,Ds _,fun _ _ _=>rfl⟩,fun b hb=>absurd hb (nav b)⟩
 simp only [F8] at hx
 by_cases hi:i<ins.length
 ·rw [Fi (by simpa using hi)] at hx
  simp only [Fa,F1] at hx;obtain ⟨y,hy,rfl⟩:=hx;have hr:=hv i y hy;have hiv:i<vs.length:=by omega
  have e:(vs.toArray++Array.replicate (fn.ntmps-vs.toArray.size) undef).getD i undef=vs.getD i undef:=by
   simp [Array.getD,List.getD,hiv,show i<vs.length+(fn.ntmps-vs.length) by omega]
  rw [e]
  cases y with
  |one c=>exact .c (hr.move (fun _ _ _=>rfl) (fun b _ hb=>absurd hb (nav b)))
  |agg cs=>
   obtain ⟨us,hu,hul,hur⟩:=hr;rw [hu];refine .agg us (by simp [hul]) (fun j x hj=>?_);simp only [Fa,F1] at hj;obtain ⟨c,hc,rfl⟩:=hj;exact .c ((hur j c hc).move (fun _ _ _=>rfl) (fun b _ hb=>absurd hb (nav b)))
  |ptr cs=>exact hr.den (fun b hb=>absurd hb (nav b))
  |fn f ai=>
   obtain ⟨us,hu,hul,hur⟩:=hr;rw [hu];refine .fn us (by simp [hul]) (fun j x hj=>?_);simp only [Fa,F1] at hj;obtain ⟨c,hc,rfl⟩:=hj;have hr:=hur j c hc
   cases c with
   |one c=>exact .c (Qv.move hr (fun _ _ _=>rfl) (fun b _ hb=>absurd hb (nav b)))
   |ptr cs=>exact S6.den hr (fun b hb=>absurd hb (nav b))
 rw [Fo Pn] at hx
 obtain rfl:AV.any=x:=by
  have:=I2 hx
  simpa using (X7 this).symm
 exact .any _
theorem D16 (hT:Bz P T)(wr:Bool){φ:ι→Prop}{f:FuncId}{c:Code}{ins:List I7}{ax:ι→List I7}(hf:P.funcs[f]? =some fn)(hb:fn.body=some c)(hn:(fn.name== "runtime.NumGoroutine")=false)(h:∀W,H W→vcW P ⟨W,fun _=>False⟩ (bodyPost P fn fun e w'=>∃i,φ i∧Ju W w' (ax i) e) (Py T wr 100000 [.code c] (F8 fn.ntmps ins))):A5z P H f ins φ ax:=
 C9r hf hb hn fun W hW=>(go hT wr (h W hW)).rec id
theorem D02 {W:World}{φ:ι→Prop}{ax:ι→List I7}{s:AS}(i:ι)(hi:φ i)(h:RW B (bodyPost P fn fun e w'=>Ju W w' (ax i) e) s):RW B (bodyPost P fn fun e w'=>∃i,φ i∧Ju W w' (ax i) e) s:=
 RW.mono (fun _ _ ⟨h1,v,h2,h3⟩=>⟨h1,v,h2,i,hi,h3⟩) h
variable {row : Nat → List Ag}
theorem Qv.isSlice {w:World}{A:Nat→Prop}{n es:Nat}{v:Value}(h:Qv w A (.sl n es row) v):∃a m c,v= .slice a m c:=by
 cases h with
 |nil=>exact ⟨_,_,_,rfl⟩
 |emp=>exact ⟨_,_,_,rfl⟩
 |sl=>exact ⟨_,_,_,rfl⟩
theorem D37 {s:AS}(i:Nat){n es:Nat}(hi:Ik s.am i= .c (.sl n es row))(h:∀a m c,RW B Q {s with am:=C9 s.am i (.c (.val (.slice a m c)))}):RW B Q s:=by
 refine ⟨fun E a w hs=>?_⟩
 by_cases hl:i<s.am.length
 ·have hd:=hs.am i (.c (.sl n es row)) (by rw [Ce,Dl hl] at hi;rw [Dl hl];simpa using hi)
  have hv:∃b m c,a.tmps.getD i undef= .slice b m c:=by
   generalize hu:a.tmps.getD i undef=u at hd
   cases hd with
   |c hr=>exact hr.isSlice
  obtain ⟨b,m,c,hv⟩:=hv;obtain ⟨g⟩:=h b m c;refine g E a w ⟨hs.defers,hs.ay,by rw [hs.size];exact (Bk _ _ _).symm,fun m' z hz=>?_,hs.aw,hs.boxes2,hs.keys,hs.own,hs.ownkeys,hs.sep,hs.sepB,hs.one,hs.base,hs.fresh⟩
  simp only at hz
  rw [Co] at hz
  split at hz
  ·rename_i hm
   obtain ⟨rfl,hm⟩:=hm;obtain rfl:=E6 hz;rw [hv];exact .c (.val _ rfl)
  exact hs.am m' z hz
 exfalso
 rw [Ce,A0f A7] at hi
 simp at hi
end Go.Sx
