/- Part 3 of the proof that each of the laws FnScriptsBack returns true for every input. No conditions. -/
import Derived.Test.YtmhcebdkjgkmlaaGreatDoorR2
import Derived.Laws.BytesArg
import Derived.Lib.ItoaNum
import Derived.Sort.Grow
import Derived.Deep.Draws
import Derived.Lib.ItoaLen
import Derived.Lib.Join
import Derived.WideLaws
import Derived.Laws.Strings2
import Derived.Lib.AtoiAll
import Derived.Lib.Fields

set_option linter.unusedSimpArgs false
set_option linter.unusedVariables false
namespace Go.Sx
open Go.RowKit (Below)
variable {P : Program} {T : List (TypeId × TI)}
variable {B : Er} {Q : Exit → Act → World → Prop} {K : List KI} {s : AS}
theorem GW.out (h:GW P B Q K s):G P B Q K s:=h.rec fun h=>h
variable {n : Nat} {es : Nat} {row : Nat → List Ad} {off : Nat} {j : Nat} {c' : Ad}
theorem A6n {w:World}{b cap:Nat}{ty:TypeId}{cells:Array Value}{fps:Nat→List Nat}(hn:n≤cap)(hc:cap≤maxLen)(hb:w.heap[b]? =some (.cells cells ty (0,0)))(hs:(off+cap) * es≤cells.size)(hl:∀i,i<n→(row i).length=es)(hr:∀i j c,i<n→(row i)[j]? =some c→Bz w c (cells.getD ((off+i) * es+j) undef) (fps (i * es+j)))(hnd:(b::(List.range (n * es)).flatMap fps).Nodup){o:Nat}(hj:j<n)(ho:o<es){c:Ad}{g:List Nat}(hg:Bz w c (cells.getD ((off+j) * es+o) undef) g)(hgn:g.Nodup)(hgd:∀x∈g,x≠b∧∀k,k<n * es→k≠j * es+o→x∉fps k)(hu:V5 n es row j o [c] c'):
  Bz w c' (.slice (some ⟨b,off * es,none⟩) n cap) (b::(List.range (n * es)).flatMap (fun k=>if k=j * es+o then g else fps k))∧
   (b::(List.range (n * es)).flatMap (fun k=>if k=j * es+o then g else fps k)).Nodup:=by
 obtain ⟨row',rfl,hu1,hu2⟩:=hu;obtain ⟨hb0,hnd1⟩:=Ip.1 hnd
 constructor
 ·refine .sl n es row' b off cap ty cells _ hn hc hb hs (fun i hi=>?_) (fun i m d hi hd=>?_)
  ·by_cases e:i=j
   ·subst e
    rw [hu2]
    simp [E6,hl i hi]
    omega
   rw [hu1 i hi e];exact hl i hi
  by_cases e:i=j
  ·subst e
   rw [hu2] at hd;have hl1:(List.take o (row i)).length=o:=by simp [hl i hi];omega
   simp only [E6] at hd
   by_cases h1:m=o
   ·subst h1
    rw [Ah rfl];rw [Ci,F8 A7,hl1,Nat.sub_self] at hd;simp only [Qw,H3,Em] at hd;subst hd;exact hg
   rw [Ab A7];refine hr i m d hi ?_
   by_cases h2:m<o
   ·rw [Ci,F3 A7,Wn,Ah h2] at hd
    exact hd
   rw [F8 (by simp [hl i hi];omega)] at hd;simp only [Dn,hl1,T7,Jb] at hd
   rwa [show o+1+(m-(o+1))=m by omega] at hd
  rw [hu1 i hi e] at hd;have hml:m<es:=by have:=(Cu.1 hd).1;rw [hl i hi] at this;exact this
  have hne:i * es+m≠j * es+o:=by
   intro h
   rcases Uh e with h'|h'
   ·have:(i+1) * es≤j * es:=Kl _ h'
    rw [G1] at this;omega
   have:(j+1) * es≤i * es:=Kl _ h'
   rw [G1] at this;omega
  rw [Ab hne];exact hr i m d hi hd
 obtain ⟨f1,f2⟩:=Cg.1 hnd1;refine Ip.2 ⟨fun h=>?_,Cg.2 ⟨fun k hk=>?_,?_⟩⟩
 ·obtain ⟨k,hk,hx⟩:=E7.1 h
  split at hx
  ·exact (hgd b hx).1 rfl
  exact hb0 (Dp (Fk.1 hk) hx)
 ·split
  ·exact hgn
  exact f1 k hk
 refine B3b ?_ ((List.nodup_range (n:=n * es)).and f2);intro p q hp hq ⟨hne,hpq⟩ z hz hz'
 split at hz
 ·split at hz'
  ·omega
  exact (hgd z hz).2 q (Fk.1 hq) (by assumption) hz'
 split at hz'
 ·exact (hgd z hz').2 p (Fk.1 hp) (by assumption) hz
 exact hpq z hz hz'
def S4 (c:Ad):Bool:=
 match c with
 | .sl _ _ _=>true
 |_=>false
variable {all : Array Oper} {o : Oper} {rest : List Oper} {t : TypeId} {i : TI} {k : Nat}
theorem D05 (hT:C0 P T){q:Bool}{x:Operand}(hg:o.guard=none)(ho:o.op= .load t x)(hi:find T t=some i)(hag:i.agg=false){j:Int}(hx:s.ev x= .oel k es j off)(hk:Bm s.own k=some (.sl n es row)){c:Ad}(hc:(row j.toNat)[off]? =some c)(h:∀v,GW P B Q (.ops q all rest::K) (({s with own:=⟨s.next,c⟩::⟨k,.sl n es fun i=>if i=j.toNat then E6 (row i) off [.val v] else row i⟩::Bb [k] s.own,next:=s.next+1,ak:=(s.next,v)::s.ak}:AS).put o.dst (.own s.next))):
  GW P B Q (.ops q all (o::rest)::K) s:=by
 refine ⟨Eb hg (fun E a w hs=>?_)⟩;have hm:=Ca hk;obtain ⟨hklt,o2,o3⟩:=hs.own _ hm
 simp only at o2 o3 hklt
 have hev:=hs.ev x;rw [hx] at hev;generalize hv:a.eval x=v at hev
 cases hev with
 |oel _ b o' n' cap hkl hov h0 hj=>
  rw [hov] at o2;generalize hfp:E.fp k=fp at o2 o3;obtain ⟨jn,rfl⟩:=Ud h0;simp only [Cp,Z4] at *
  cases o2 with
  |emp=>exact absurd hj (Le _)
  |sl _ _ _ _ offb _ ty cells fps hn hcp hb hcs hl hr=>
   have hoff:off<es:=by have:=(Cu.1 hc).1;rwa [hl jn hj] at this
   have hin:=hr jn off c hj hc;obtain ⟨hb0,hnd1⟩:=Ip.1 o3;obtain ⟨f1,f2⟩:=Cg.1 hnd1;have hpos:jn * es+off<n * es:=Gs hj hoff
   have hcl:(offb+jn) * es+off<cells.size:=by
    have:=Gs (show offb+jn<offb+cap by omega) hoff
    omega
   generalize hu:cells.getD ((offb+jn) * es+off) undef=u at hin
   have hdis:∀z∈fps (jn * es+off),z≠b∧∀k,k<n * es→k≠jn * es+off→z∉fps k:=by
    intro z hz;refine ⟨fun e=>hb0 (e▸Dp hpos hz),fun k hk hne hz'=>?_⟩;have hp:=Ry.1 f2
    rcases Uh hne with h'|h'
    ·have:=hp k (jn * es+off) (by simpa using hk) (by simpa using hpos) h' z
     simp only [Ui] at this;exact this hz' hz
    have:=hp (jn * es+off) k (by simpa using hpos) (by simpa using hk) h' z
    simp only [Ui] at this;exact this hz hz'
   have hone:u.oneCell'=true:=hin.one
   obtain ⟨s1,s2⟩:=A6n hn hcp hb hcs hl hr o3 hj hoff (c:= .val u) (g:=[]) (by rw [hu];exact .val u hone) Ef Ef
    (c':= .sl n es fun i=>if i=jn then E6 (row i) off [.val u] else row i) ⟨_,rfl,fun i _ hne=>by simp [hne],by simp⟩
   have hI:=hs.drop [k]
   have key:∀z,z∈b::(List.range (n * es)).flatMap fps→s.ag E z∧¬ ({s with own:=Bb [k] s.own}:AS).ag E z∧B.fresh z:=by
    intro z hz;have hzk:z∈E.fp k:=by rw [hfp];exact hz
    have hav:s.ag E z:= .inr ⟨_,hm,hzk⟩;refine ⟨hav,?_,hs.fresh z hav⟩
    rintro (⟨r,hr',rfl⟩|⟨r,hr',hz'⟩)
    ·exact hs.sepB r hr' _ hm hzk
    obtain ⟨q1,q2⟩:=Bl.1 hr';exact hs.sep _ hm r q1 (fun e=>q2 (by simp at e;simp [e])) z hzk hz'
   have sub1:∀z,z∈b::(List.range (n * es)).flatMap (fun k=>if k=jn * es+off then [] else fps k)→z∈b::(List.range (n * es)).flatMap fps:=by
    intro z hz
    rcases C7.1 hz with rfl|hz
    ·simp
    obtain ⟨p,hp,hz⟩:=E7.1 hz
    split at hz
    ·simp at hz
    exact Cq _ (E7.2 ⟨p,hp,hz⟩)
   have hI3:=hI.addAt (k:=k) hklt (fun y' hy=>fun e=>(Bl.1 hy).2 (by rw [e];simp)) (by rw [hov];exact s1) s2 (fun z hz=>key z (sub1 z hz))
   have hav3:∀z,z∈fps (jn * es+off)→¬ ({s with own:=⟨k,.sl n es fun i=>if i=jn then E6 (row i) off [.val u] else row i⟩::Bb [k] s.own}:AS).ag (E.setFp k (b::(List.range (n * es)).flatMap (fun k=>if k=jn * es+off then [] else fps k))) z:=by
    intro z hz;have hzin:z∈b::(List.range (n * es)).flatMap fps:=Cq _ (Dp hpos hz)
    rintro (⟨r,hr',rfl⟩|⟨r,hr',hz'⟩)
    ·exact (key _ hzin).2.1 (.inl ⟨r,hr',rfl⟩)
    rcases C7.1 hr' with rfl|hr'
    ·simp only [Fl.setFp,Mo] at hz'
     rcases C7.1 hz' with rfl|hz'
     ·exact (hdis _ hz).1 rfl
     obtain ⟨p,hp,hz'⟩:=E7.1 hz'
     split at hz'
     ·simp at hz'
     exact (hdis z hz).2 p (Fk.1 hp) (by assumption) hz'
    have hne:r.key≠k:=fun e=>(Bl.1 hr').2 (by rw [e];simp);simp only [Fl.setFp,hne,T6] at hz';exact (key z hzin).2.1 (.inr ⟨r,hr',hz'⟩)
   obtain ⟨k1,k2⟩:=hI3.addOwn hin (f1 _ (Fk.2 hpos)) (fun z hz=>⟨(key z (Cq _ (Dp hpos hz))).1,hav3 z hz,(key z (Cq _ (Dp hpos hz))).2.2⟩)
   have k3:({s with own:=⟨s.next,c⟩::⟨k,.sl n es fun i=>if i=jn then E6 (row i) off [.val u] else row i⟩::Bb [k] s.own,next:=s.next+1,ak:=(s.next,u)::s.ak}:AS).isA B
     ((E.setFp k (b::(List.range (n * es)).flatMap (fun k=>if k=jn * es+off then [] else fps k))).withOwn s.next u (fps (jn * es+off))) (s.ag E) a w:=by
    refine ⟨k1.defers,fun p hp=>?_,k1.size,k1.ac,k1.aw,k1.boxes2,k1.keys,k1.own,k1.ownkeys,k1.sep,k1.sepB,k1.one,k1.base,k1.fresh,k1.sub⟩
    rcases C7.1 hp with rfl|hp
    ·exact ⟨Ru _,by simp [Fl.withOwn]⟩
    exact k1.ak p hp
   refine ⟨u,fun w' hkw=>?_,(h u).out _ _ w ((k3.put o.dst k2).is)⟩;obtain ⟨dst,op',ty',pos,after,guard⟩:=o
   simp only at ho
   subst ho;obtain ⟨f,d,z,S⟩:=TI.of_spec (hT t i hi);have hd:Ks d=false:=by rw [←S.agg];exact hag
   have h1:=S.one hd
   have hrun:=J7 (hT t i hi) w' b (offb * es+jn * es+off) ((List.range i.size).map fun _=>u) Ef (fun p hp=>by
    obtain rfl:p=0:=by omega
    refine hkw.cell ?_;rw [show offb * es+jn * es+off+0=(offb+jn) * es+off by rw [G1];omega,cell_of_row w b _ cells ty (0,0) hb]
    simp only [h1,List.range_one,I8,Z9,Ue];rw [←hu,A2f]
    simp [hcl])
   simp only [execOp,hv,Instr.loadAt,Instr.sureAddr,Sem.run_bind,Sem.run_pure,Result.andThen_ok,hrun,hag,h1];rfl
variable {v : Value}
theorem C7l (k k2:Nat){c:Ad}(hk:Bm s.own k=some (.sl n es row))(hj:j<n)(hc:(row j)[off]? =some (.val v))(h2:Bm s.own k2=some c)(hl:Dv s.ak k2=some v)(hne:Nat.beq k k2=false)(c':Ad)(hu:V5 n es row j off [c] c')(h:GW P B Q K {s with own:=⟨k,c'⟩::Bb [k,k2] s.own}):GW P B Q K s:=by
 refine ⟨fun E a w hs=>?_⟩;have hm:=Ca hk;have hm2:=Ca h2;have hkk:k≠k2:=fun e=>by subst e;simp at hne
 obtain ⟨hklt,o2,o3⟩:=hs.own _ hm;obtain ⟨hklt2,p2,p3⟩:=hs.own _ hm2
 simp only at o2 o3 hklt p2 p3 hklt2
 have hlv:=(hs.ak _ (Gr hl)).2
 simp only at hlv
 have hI:=hs.drop [k,k2]
 have key:∀z,(z∈E.fp k∨z∈E.fp k2)→s.ag E z∧¬ ({s with own:=Bb [k,k2] s.own}:AS).ag E z∧B.fresh z:=by
  intro z hz
  have:∃y∈s.own,y.key∈[k,k2]∧z∈E.fp y.key:=by
   rcases hz with hz|hz
   ·exact ⟨_,hm,by simp,hz⟩
   exact ⟨_,hm2,by simp,hz⟩
  obtain ⟨y,hy,hyk,hz⟩:=this;have hav:s.ag E z:= .inr ⟨_,hy,hz⟩;refine ⟨hav,?_,hs.fresh z hav⟩
  rintro (⟨r,hr',rfl⟩|⟨r,hr',hz'⟩)
  ·exact hs.sepB r hr' _ hy hz
  obtain ⟨q1,q2⟩:=Bl.1 hr';exact hs.sep _ hy r q1 (fun e=>q2 (e▸hyk)) z hz hz'
 have hsep:=hs.sep _ hm _ hm2 hkk;generalize hov:E.ov k=vv,hfp:E.fp k=fp at o2 o3
 cases o2 with
 |nil=>omega
 |emp=>omega
 |sl _ _ _ b offb cap ty cells fps hn hcp hb hcs hl' hr=>
  have hoff:off<es:=by have:=(Cu.1 hc).1;rwa [hl' j hj] at this
  have hin:=hr j off _ hj hc;generalize hu':cells.getD ((offb+j) * es+off) undef=u at hin
  have huv:u=v:=by
   revert hin
   generalize fps (j * es+off)=g;intro hin
   cases hin;rfl
  obtain ⟨s1,s2⟩:=A6n hn hcp hb hcs hl' hr o3 hj hoff (c:=c) (g:=E.fp k2) (by rw [hu',huv,←hlv];exact p2) p3 (fun z hz=>by
   refine ⟨fun e=>?_,fun p hp _ hz'=>?_⟩
   ·subst e
    exact hsep z (by simp only [hfp];simp) hz
   exact hsep z (by simp only [hfp];exact Cq _ (Dp hp hz')) hz) hu
  have hI3:=hI.addAt (k:=k) hklt (fun y' hy=>fun e=>(Bl.1 hy).2 (by rw [e];simp)) (by rw [hov];exact s1) s2 (fun z hz=>by
   rcases C7.1 hz with rfl|hz
   ·exact key z (.inl (by rw [hfp];simp))
   obtain ⟨p,hp,hz⟩:=E7.1 hz
   split at hz
   ·exact key z (.inr hz)
   exact key z (.inl (by rw [hfp];exact Cq _ (E7.2 ⟨p,hp,hz⟩))))
  exact h.out _ a w hI3.is
theorem A85 (i es:Nat)(row:Nat→List Ad)(hi:I4 s.ac i= .c (.val (.slice none 0 0)))(h:GW P B Q K {s with ac:=Cd s.ac i (.own s.next),own:=⟨s.next,.sl 0 es row⟩::s.own,next:=s.next+1}):GW P B Q K s:=by
 refine ⟨fun E a w hs=>?_⟩;have hI:s.isA B E (s.ag E) a w:=⟨hs.defers,hs.ak,hs.size,hs.ac,hs.aw,hs.boxes2,hs.keys,hs.own,hs.ownkeys,hs.sep,hs.sepB,hs.one,hs.base,hs.fresh,fun _ h=>h⟩
 obtain ⟨k1,k2⟩:=hI.addOwn (.nil es row) Ef Ef;have k3:=k1.is;refine h.out (E.withOwn s.next (.slice none 0 0) []) a w ⟨k3.defers,k3.ak,by rw [k3.size];exact (Bj _ _ _).symm,fun m z hz=>?_,k3.aw,k3.boxes2,k3.keys,k3.own,k3.ownkeys,k3.sep,k3.sepB,k3.one,k3.base,k3.fresh⟩
 simp only at hz
 rw [Cr] at hz
 split at hz
 ·rename_i hm
  obtain ⟨rfl,hm⟩:=hm;obtain rfl:=Bv hz;have hd:=hs.ac i (.c (.val (.slice none 0 0))) (by rw [Cb,Dh hm] at hi;rw [Dh hm];simpa using hi);rw [B3 hd]
  have:D0 (E.withOwn s.next (.slice none 0 0) []) w _ _ (.own s.next) (.slice none 0 0):=k2
  exact this.move (Bu _) (fun _ _=>⟨rfl,rfl⟩) (fun _ _ _=>rfl) (fun b _ hb=>k1.sub b hb)
 exact k3.ac m z hz
abbrev De (xs:List Int):Ad:=Mu 1 (fun n=>[vi n]) xs
abbrev Dz (xs:List Bool):Ad:=Mu 1 (fun b=>[vb b]) xs
abbrev En (xs:List ByteArray):Ad:=Mu 1 (fun b=>[vs b]) xs
structure Iq where
 am:Int
 turn:Int
 deriving Inhabited,DecidableEq
def Iq.c (x:Iq):List Ad:=[vi x.am,vi x.turn]
structure D2u where
 af:Iq
 n:Int
 deriving Inhabited,DecidableEq
structure A9 where
 op:Int
 af:Iq
 key:Int
 val:Int
 deriving Inhabited,DecidableEq
def A9.c (x:A9):List Ad:=[vi x.op,vi x.af.am,vi x.af.turn,vi x.key,vi x.val]
abbrev Aa (xs:List A9):Ad:=Mu 5 A9.c xs
structure D8 where
 cap:Int
 al:List A9
 bk:Int
 back:Int
 bv:Int
 got:Int
 deriving Inhabited,DecidableEq
def D8.c (x:D8):List Ad:=[vi x.cap,Aa x.al,vi x.bk,vi x.back,vi x.bv,vi x.got]
abbrev Bo (xs:List D8):Ad:=Mu 6 D8.c xs
structure Ba where
 kind:Int
 a:Int
 b:Int
 ax:List Int
 deriving Inhabited,DecidableEq
def Ba.c (x:Ba):List Ad:=[vi x.kind,vi x.a,vi x.b,De x.ax]
abbrev Ay (xs:List Ba):Ad:=Mu 4 Ba.c xs
structure Ax where
 ay:List Ba
 aq:Int
 cap:Int
 deriving Inhabited,DecidableEq
def Ax.c (x:Ax):List Ad:=[Ay x.ay,vi x.aq,vi x.cap]
structure Al where
 op:Int
 am:Int
 key:Int
 val:Int
 deriving Inhabited,DecidableEq
def Al.c (x:Al):List Ad:=[vi x.op,vi x.am,vi x.key,vi x.val]
abbrev As (xs:List Al):Ad:=Mu 4 Al.c xs
structure Ih where
 am:Int
 ae:Bool
 deriving Inhabited,DecidableEq
def Ih.c (x:Ih):List Ad:=[vi x.am,vb x.ae]
abbrev Hy (xs:List Ih):Ad:=Mu 2 Ih.c xs
structure Aj where
 al:List A9
 bq:List A9
 ap:List A9
 cells:List Al
 ai:List Int
 ah:List Bool
 ao:List Bool
 bz:List Ih
 deriving Inhabited,DecidableEq
def Aj.c (x:Aj):List Ad:=[Aa x.al,Aa x.bq,Aa x.ap,As x.cells,De x.ai,Dz x.ah,Dz x.ao,Hy x.bz]
abbrev Ai (xs:List Aj):Ad:=Mu 8 Aj.c xs
structure I9 where
 bj:Bool
 aj:Int
 sum:Int
 ah:Bool
 ae:Bool
 deriving Inhabited,DecidableEq
def I9.c (x:I9):List Ad:=[vb x.bj,vi x.aj,vi x.sum,vb x.ah,vb x.ae]
abbrev B4 (xs:List I9):Ad:=Mu 5 I9.c xs
structure D9 where
 to_:Int
 am:Int
 ae:Bool
 deriving Inhabited,DecidableEq
def D9.c (x:D9):List Ad:=[vi x.to_,vi x.am,vb x.ae]
abbrev C4 (xs:List D9):Ad:=Mu 3 D9.c xs
structure A3 where
 az:Ax
 aq:List Aj
 ak:List D8
 ar:List I9
 au:List D9
 deriving Inhabited,DecidableEq
def A3.c (x:A3):List Ad:=[Ay x.az.ay,vi x.az.aq,vi x.az.cap,Ai x.aq,Bo x.ak,B4 x.ar,C4 x.au]
structure Cs where
 kind:Int
 a:Int
 b:Int
 deriving Inhabited,DecidableEq
def Cs.c (x:Cs):List Ad:=[vi x.kind,vi x.a,vi x.b]
abbrev Ch (xs:List Cs):Ad:=Mu 3 Cs.c xs
structure B5 where
 az:Ax
 ap:List A9
 an:List Cs
 aa:Int
 deriving Inhabited,DecidableEq
def B5.c (x:B5):List Ad:=[Ay x.az.ay,vi x.az.aq,vi x.az.cap,Aa x.ap,Ch x.an,vi x.aa]
def wS {α:Type} (w:α→Nat) (xs:List α):Nat:=xs.length+(xs.map w).sum
def Iq.ok (x:Iq):Prop:=Js .i64 x.am∧Js .i64 x.turn
def A9.ok (x:A9):Prop:=Js .i64 x.op∧x.af.ok∧Js .i64 x.key∧Js .i64 x.val
def D8.w (x:D8):Nat:=x.al.length
def Ba.w (x:Ba):Nat:=x.ax.length
def Ba.ok (x:Ba):Prop:=Js .i64 x.kind∧Js .i64 x.a∧Js .i64 x.b∧(x.ax.length≤maxLen∧∀y∈x.ax,Js .i64 y)
def Ax.w (x:Ax):Nat:=wS Ba.w x.ay
def Ax.ok (x:Ax):Prop:=(x.ay.length≤maxLen∧∀y∈x.ay,y.ok)∧Js .i64 x.aq∧Js .i64 x.cap
def Aj.w (x:Aj):Nat:=x.al.length+x.bq.length+x.ap.length+x.cells.length+x.ai.length+x.ah.length+x.ao.length+x.bz.length
def A3.w (x:A3):Nat:=x.az.w+wS Aj.w x.aq+wS D8.w x.ak+x.ar.length+x.au.length
def Cs.ok (x:Cs):Prop:=Js .i64 x.kind∧Js .i64 x.a∧Js .i64 x.b
def B5.w (x:B5):Nat:=x.az.w+x.ap.length+x.an.length
def B5.ok (x:B5):Prop:=x.az.ok∧(x.ap.length≤maxLen∧∀y∈x.ap,y.ok)∧(x.an.length≤maxLen∧∀y∈x.an,y.ok)∧Js .i64 x.aa
variable {α : Type}
theorem D0b [Inhabited α] (w:α→Nat)(xs:List α)(k:Nat)(hk:k<xs.length):((xs.take (k+1)).map w).sum=((xs.take k).map w).sum+w (xs.getD k default):=by
 rw [List.take_add_one,Uu,List.sum_append,Dh hk]
 simp [List.getD,hk]
theorem Fg [Inhabited α] (w:α→Nat)(xs:List α)(k:Nat)(hk:k<xs.length):((xs.take k).map w).sum+w (xs.getD k default)≤(xs.map w).sum:=by
 rw [←D0b w xs k hk]
 conv=>rhs;rw [←Qy (k+1) xs,Uu,List.sum_append]
 omega
theorem Fm (b:ByteArray):(b==b)=true:=by rw [beq_toListBytes];simp
theorem Lq {a b:ByteArray}(h:(a==b)=true):a=b:=by
 rw [beq_toListBytes] at h;have h:=eq_of_beq h;rw [ByteArray.toList_eq,ByteArray.toList_eq] at h;obtain ⟨⟨x⟩⟩:=a;obtain ⟨⟨y⟩⟩:=b
 simp at h
 rw [h]
open Go.RowKit (Below)
def A9o (c c':Ad):Prop:=c'=c∨(c= .val (.slice none 0 0)∧∃es row,c'= .sl 0 es row)
def I5 (cs cs':List Ad):Prop:=
 match cs,cs' with
 | [],[]=>True
 |c::cs,c'::cs'=>A9o c c'∧I5 cs cs'
 |_,_=>False
variable {cs : List Ad}
theorem I5.get {cs':List Ad}(h:I5 cs cs'):cs'.length=cs.length∧∀(i:Nat) (c':Ad),cs'[i]? =some c'→∃c,cs[i]? =some c∧A9o c c':=by
 induction cs generalizing cs' with
 |nil=>cases cs'<;>simp_all [I5]
 |cons c cs ih=>
  cases cs' with
  |nil=>simp [I5] at h
  |cons c' cs'=>
   obtain ⟨h1,h2⟩:=h;obtain ⟨g1,g2⟩:=ih h2;refine ⟨by simp [g1],fun i d hd=>?_⟩
   cases i with
   |zero=>simp only [H3,Em] at hd;subst hd;exact ⟨c,by simp,h1⟩
   |succ i=>simpa using g2 i d (by simpa using hd)
theorem A9o.own {w:World}{c:Ad}{fp:List Nat}(h:A9o c c')(ho:Bz w c v fp):Bz w c' v fp:=by
 rcases h with rfl|⟨rfl,es,row,rfl⟩
 ·exact ho
 cases ho;exact .nil es row
theorem A9o.refl (c:Ad):A9o c c:= .inl rfl
def Kn (c c':Ad):Prop:=
 match c,c' with
 | .sl n es row,.sl n' es' row'=>n'=n∧es'=es∧∀i,i<n→I5 (row i) (row' i)
 |_,_=>False
theorem Kn.own {w:World}{c:Ad}{fp:List Nat}(h:Kn c c')(ho:Bz w c v fp):Bz w c' v fp:=by
 cases ho with
 |val x hx=>cases c'<;>exact h.elim
 |nil es row=>
  cases c' with
  |val=>exact h.elim
  |sl n' es' row'=>
   obtain ⟨rfl,rfl,_⟩:=h;exact .nil _ row'
 |emp es row b0 o0=>
  cases c' with
  |val=>exact h.elim
  |sl n' es' row'=>
   obtain ⟨rfl,rfl,_⟩:=h;exact .emp _ row' b0 o0
 |sl n es row b off cap ty cells fps hn hc hb hs hl hr=>
  cases c' with
  |val=>exact h.elim
  |sl n' es' row'=>
   obtain ⟨rfl,rfl,h⟩:=h;refine .sl _ _ row' b off cap ty cells fps hn hc hb hs (fun i hi=>?_) (fun i j d hi hd=>?_)
   ·rw [(h i hi).get.1];exact hl i hi
   obtain ⟨c,h1,h2⟩:=(h i hi).get.2 j d hd;exact h2.own (hr i j c hi h1)
def Jf (l:List Ow) (k:Nat) (c:Ad):List Ow:=
 match l with
 | []=>[]
 |y::r=>match Nat.beq y.key k with
  |true=>⟨k,c⟩::Jf r k c
  |false=>y::Jf r k c
theorem X7 {l:List Ow}{c:Ad}{y:Ow}(h:y∈Jf l k c):(y.key=k∧y.cell=c∧∃z∈l,z.key=k)∨(y∈l∧y.key≠k):=by
 induction l with
 |nil=>simp [Jf] at h
 |cons x r ih=>
  unfold Jf at h
  split at h
  ·rename_i e
   have e:=F7 e
   rcases C7.1 h with rfl|h
   ·exact .inl ⟨rfl,rfl,x,by simp,e⟩
   rcases ih h with ⟨h1,h2,z,hz,h3⟩|⟨h1,h2⟩
   ·exact .inl ⟨h1,h2,z,Cq _ hz,h3⟩
   exact .inr ⟨Cq _ h1,h2⟩
  rename_i e
  rcases C7.1 h with rfl|h
  ·exact .inr ⟨by simp,fun e'=>by rw [e',Nat.beq_refl] at e;cases e⟩
  rcases ih h with ⟨h1,h2,z,hz,h3⟩|⟨h1,h2⟩
  ·exact .inl ⟨h1,h2,z,Cq _ hz,h3⟩
  exact .inr ⟨Cq _ h1,h2⟩
theorem Yz (l:List Ow)(k:Nat)(c:Ad):(Jf l k c).map (·.key)=l.map (·.key):=by
 induction l with
 |nil=>rfl
 |cons x r ih=>
  unfold Jf
  split
  ·rename_i e
   have e:=F7 e
   simp [ih,e]
  simp [ih]
theorem Ie {l:List Ow}{c:Ad}{y:Ow}(h:y∈Jf l k c):∃z∈l,z.key=y.key:=by
 rcases X7 h with ⟨h1,_,z,hz,h3⟩|⟨h1,_⟩
 ·exact ⟨z,hz,h3.trans h1.symm⟩
 exact ⟨y,h1,rfl⟩
theorem Fi (k:Nat)(c':Ad){c:Ad}(hk:Bm s.own k=some c)(hc:Kn c c')(h:GW P B Q K {s with own:=Jf s.own k c'}):GW P B Q K s:=by
 refine ⟨fun E a w hs=>?_⟩;have hm:=Ca hk
 have av:∀b,({s with own:=Jf s.own k c'}:AS).ag E b→s.ag E b:=by
  rintro b (hb|⟨y,hy,hb⟩)
  ·exact .inl hb
  obtain ⟨z,hz,e⟩:=Ie hy;exact .inr ⟨z,hz,by rw [e];exact hb⟩
 have mv:∀x v,D0 E w (s.ag E) s.next x v→D0 E w (({s with own:=Jf s.own k c'}:AS).ag E) s.next x v:=fun x v hx=>
  hx.move (Bu _) (fun _ _=>⟨rfl,rfl⟩) (fun _ _ _=>rfl) (fun b _ hb=>av b hb)
 refine h.out E a w ⟨hs.defers,hs.ak,hs.size,fun i x hx=>mv _ _ (hs.ac i x hx),fun x hx=>?_,hs.boxes2,hs.keys,fun y hy=>?_,by rw [Yz];exact hs.ownkeys,fun y hy z hz hne=>?_,fun x hx y hy=>?_,hs.one,hs.base,fun b hb=>hs.fresh b (av b hb)⟩
 ·obtain ⟨h1,vs,ty,h2,h3,h4⟩:=hs.aw x hx
  exact ⟨h1,vs,ty,h2,h3,fun i y hy=>mv _ _ (h4 i y hy)⟩
 ·rcases X7 hy with ⟨h1,h2,_⟩|⟨h1,_⟩
  ·obtain ⟨g1,g2,g3⟩:=hs.own _ hm
   rw [h1,h2];exact ⟨g1,hc.own g2,g3⟩
  exact hs.own y h1
 ·obtain ⟨y',hy',e1⟩:=Ie hy
  obtain ⟨z',hz',e2⟩:=Ie hz;rw [←e1,←e2];exact hs.sep y' hy' z' hz' (by rw [e1,e2];exact hne)
 obtain ⟨y',hy',e1⟩:=Ie hy;rw [←e1];exact hs.sepB x hx y' hy'
theorem B3s [Inhabited α] {e:α→List Ad}{xs:List α}(h:∀i,i<xs.length→I5 (row i) (e (xs.getD i default))):Kn (.sl xs.length es row) (Mu es e xs):=
 ⟨rfl,rfl,h⟩
theorem C1e [Inhabited α] {e:α→List Ad}{z:List Ad}(n:Nat)(h:I5 z (e default)):Kn (.sl n es fun _=>z) (Mu es e (List.replicate n default)):=
 ⟨Pl,rfl,fun i hi=>by
  have:(List.replicate n (default:α)).getD i default=default:=by simp [List.getD,hi]
  show I5 z (e ((List.replicate n default).getD i default))
  rw [this];exact h⟩
open Go.RowKit (Below)
def Wk (cs cs':List Ad):Prop:=cs'.length=cs.length∧∀(i:Nat) (c':Ad),cs'[i]? =some c'→∃c,cs[i]? =some c∧∀w A v,Qz w A c v→Qz w A c' v
theorem Wk.refl (cs:List Ad):Wk cs cs:=⟨rfl,fun _ c h=>⟨c,h,fun _ _ _ h=>h⟩⟩
theorem D2q [Inhabited α] {e:α→List Ad}{ok:α→Prop}(h:∀i,i<n→∃x,ok x∧Wk (row i) (e x)):
  ∃xs:List α,xs.length=n∧(∀y∈xs,ok y)∧Wk [.sl n es row] [Mu es e xs]:=by
 have hex:∀i,∃x,i<n→ok x∧Wk (row i) (e x):=fun i=>by
  by_cases hi:i<n
  ·obtain ⟨x,hx⟩:=h i hi;exact ⟨x,fun _=>hx⟩
  exact ⟨default,fun h=>absurd h hi⟩
 let g:=fun i=>Classical.choose (hex i)
 have hg:∀i,i<n→ok (g i)∧Wk (row i) (e (g i)):=fun i=>Classical.choose_spec (hex i);have hget:∀i,i<n→((List.range n).map g).getD i default=g i:=fun i hi=>by simp [List.getD,hi]
 refine ⟨(List.range n).map g,by simp,fun y hy=>?_,rfl,fun i c hc=>?_⟩
 ·obtain ⟨i,hi,rfl⟩:=Ea.1 hy
  exact (hg i (Fk.1 hi)).1
 cases i with
 |succ i=>simp at hc
 |zero=>
  simp only [H3,Em] at hc;subst hc;refine ⟨_,rfl,fun w A v hr=>?_⟩;have hlen:((List.range n).map g).length=n:=by simp
  unfold Mu;rw [hlen]
  cases hr with
  |nil=>exact .nil _ _
  |emp _ _ a=>exact .emp _ _ a
  |sl _ _ _ b off cap u hA hn hc hl hu hr=>
   refine .sl n es _ b off cap u hA hn hc (fun i hi=>?_) hu (fun i j c hi hc=>?_)
   ·rw [hget i hi,(hg i hi).2.1];exact hl i hi
   rw [hget i hi] at hc;obtain ⟨c0,h1,h2⟩:=(hg i hi).2.2 j c hc;exact h2 _ _ _ (hr i j c0 hi h1)
theorem Wk.repL {w:World}{xs ys:List Ad}{cs:List Value}(h:Wk xs ys)(hr:Yf w xs cs):Yf w ys cs:=by
 refine ⟨h.1.trans hr.1,fun i c hc=>?_⟩;obtain ⟨c0,h1,h2⟩:=h.2 i c hc;exact h2 _ _ _ (hr.2 i c0 h1)
theorem Yf.arg1 {w:World}{c:Ad}(h:Yf w [c] [v]):P3 w (fun _=>False) (.one c) v:=h.2 0 c rfl
def Hf (row:Nat→List Ad) (j:Nat) (r:List Ad):Nat→List Ad:=fun i=>if i=j then r else row i
theorem Cw (row:Nat→List Ad)(j:Nat)(r:List Ad):Hf row j r j=r:=by simp [Hf]
theorem O4 (row:Nat→List Ad)(j i:Nat)(r:List Ad)(h:i≠j):Hf row j r i=row i:=by simp [Hf,h]
variable {r : List Ad}
theorem B09 (h:E6 (row j) off cs=r):V5 n es row j off cs (.sl n es (Hf row j r)):=
 ⟨_,rfl,fun _ _ hi=>O4 _ _ _ _ hi,by rw [Cw,h]⟩
theorem I5.refl (cs:List Ad):I5 cs cs:=by
 induction cs with
 |nil=>trivial
 |cons c cs ih=>exact ⟨.refl c,ih⟩
theorem B8y {r':List Ad}(h:E6 r off cs=r'):V5 n es (Hf row j r) j off cs (.sl n es (Hf row j r')):=
 ⟨_,rfl,fun _ _ hi=>by rw [O4 _ _ _ _ hi,O4 _ _ _ _ hi],by rw [Cw,Cw,h]⟩
theorem C8q (row:Nat→List Ad)(j off:Nat)(v:Value)(hr:row j=r):(fun i=>if i=j then E6 (row i) off [.val v] else row i)=Hf row j (E6 r off [.val v]):=by
 funext i
 unfold Hf
 by_cases h:i=j
 ·subst h;rw [Ah rfl,Ah rfl,hr]
 rw [Ab h,Ab h]
open Go.RowKit (Below) in
theorem C7m {P:Program}(k k2:Nat)(off:Nat){c:Ad}(hk:Bm s.own k=some (.sl n es (Hf row j r)))(hj:j<n)(hc:r[off]? =some (.val v))(h2:Bm s.own k2=some c)(hl:Dv s.ak k2=some v)(hne:Nat.beq k k2=false){r':List Ad}(hr:E6 r off [c]=r')(h:GW P B Q K {s with own:=⟨k,.sl n es (Hf row j r')⟩::Bb [k,k2] s.own}):GW P B Q K s:=
 C7l k k2 hk hj (off:=off) (by rw [Cw];exact hc) h2 hl hne _ (B8y hr) h
theorem getD_set_self (l:List α)(j:Nat)(x d:α)(h:j<l.length):(l.set j x).getD j d=x:=by simp [List.getD,h]
theorem getD_set_ne (l:List α)(i j:Nat)(x d:α)(h:i≠j):(l.set j x).getD i d=l.getD i d:=by simp [List.getD,List.getElem?_set_ne (Ne.symm h)]
theorem Lx [Inhabited α] {e:α→List Ad}{xs:List α}{x1 x2:α}(hj:j<xs.length)(h:E6 (e x1) off cs=e x2):
  V5 (xs.set j x1).length es (fun i=>e ((xs.set j x1).getD i default)) j off cs (Mu es e (xs.set j x2)):=by
 refine ⟨_,by rw [Mu,K1,K1],fun i _ hne=>?_,?_⟩
 ·simp only [getD_set_ne _ _ _ _ _ hne]
 simp only [getD_set_self _ _ _ _ hj,h]
theorem Ht [Inhabited α] {e:α→List Ad}{xs:List α}{x2:α}(hj:j<xs.length)(h:E6 r off cs=e x2):
  V5 xs.length es (Hf (fun i=>e (xs.getD i default)) j r) j off cs (Mu es e (xs.set j x2)):=by
 refine ⟨_,by rw [Mu,K1],fun i _ hne=>?_,?_⟩
 ·simp only [getD_set_ne _ _ _ _ _ hne,O4 _ _ _ _ hne]
 simp only [getD_set_self _ _ _ _ hj,Cw,h]
theorem Ee [Inhabited α] (xs:List α)(k:Nat)(h:k<xs.length):xs.take (k+1)=xs.take k++[xs.getD k default]:=by
 rw [List.take_add_one];simp [List.getD,h]
theorem G5 [Inhabited α] (p:α→Bool)(xs:List α)(k:Nat)(h:k<xs.length):
  (xs.take (k+1)).filter p=(xs.take k).filter p++(if p (xs.getD k default)=true then [xs.getD k default] else []):=by
 rw [Ee xs k h,List.filter_append]
 congr 1
 by_cases hp:p (xs.getD k default)=true
 ·rw [Ah hp,List.filter_cons_of_pos hp,List.filter_nil]
 rw [Ab hp,List.filter_cons_of_neg hp,List.filter_nil]
theorem G6 (p:α→Bool)(xs:List α)(k:Nat):((xs.take k).filter p).length≤xs.length:=by
 have h1:=Pm p (xs.take k);have h2:=Ng k xs;have h3:=List.length_take_le' k xs;omega
variable {β : Type}
theorem B7e [Inhabited α] (f:β→α→β)(z:β)(xs:List α)(k:Nat)(h:k<xs.length):
  (xs.take (k+1)).foldl f z=f ((xs.take k).foldl f z) (xs.getD k default):=by
 rw [Ee xs k h,A8d];rfl
theorem Ol [Inhabited α] (f:α→β)(xs:List α)(k:Nat)(h:k<xs.length):
  (xs.take (k+1)).map f=(xs.take k).map f++[f (xs.getD k default)]:=by
 rw [Ee xs k h,Uu];rfl
theorem B1o [Inhabited α] (f:α→List β)(xs:List α)(k:Nat)(h:k<xs.length):
  (xs.take (k+1)).flatMap f=(xs.take k).flatMap f++f (xs.getD k default):=by
 rw [Ee xs k h,Wo];simp
theorem C32 [Inhabited α] (p:α→Bool)(xs:List α)(k:Nat)(h:k<xs.length):
  (xs.take (k+1)).any p=((xs.take k).any p||p (xs.getD k default)):=by
 rw [Ee xs k h,List.any_append];simp
theorem A4q [Inhabited α] (p:α→Bool)(xs:List α)(k:Nat)(h:k<xs.length):
  (xs.take (k+1)).all p=((xs.take k).all p&&p (xs.getD k default)):=by
 rw [Ee xs k h,List.all_append];simp
theorem Am {d:α}{xs:List α}(h:k<xs.length):xs.getD k d∈xs:=by
 rw [List.getD,Dh h];exact A72 h
theorem R8 [Inhabited α] {p:α→Bool}{xs:List α}(h:k<xs.length)(hp:p (xs.getD k default)=true):xs.any p=true:=
 Uv.2 ⟨_,Am h,hp⟩
theorem A2o [Inhabited α] {p:α→Bool}{xs:List α}(h:k<xs.length)(hp:p (xs.getD k default)=false):xs.all p=false:=by
 rw [List.all_eq_false];exact ⟨xs.getD k default,Am h,by rw [hp];decide⟩
theorem Bt (xs:List α)(k:Nat)(h:¬ k<xs.length):xs.take k=xs:=Pn A7
theorem Dx [Inhabited α] {e:α→List Ad}:Kn (.sl 0 es row) (Mu es e ([]:List α)):=⟨rfl,rfl,fun _ h=>nomatch h⟩
variable {q : Prop} {p : Prop} {b : Bool}
theorem A21 (hb:b=true)(h:p):(b=true→p)∧(b=false→q):=⟨fun _=>h,fun e=>by rw [hb] at e;cases e⟩
theorem A20 (hb:b=false)(h:q):(b=true→p)∧(b=false→q):=⟨fun e=>(by rw [hb] at e;cases e),fun _=>h⟩
theorem Ew (hq:q)(hp:p:=by first|omega|(show _∧_;omega)|((repeat (first|rw [H4]|rw [Xl]|rw [Gh]|rw [Ep]|rw [Hi]))<;>omega)|((repeat rw [Cp])<;>first|omega|(show _∧_;omega))|(simp only [H4,Xl,Gh,Ep,Hi];omega)|(simp only [Cp];first|omega|(show _∧_;omega))|decide):p∧q:=⟨hp,hq⟩
theorem D6 (hq:q)(hp:p:=by first|omega|(show _∧_;omega)|((repeat (first|rw [H4]|rw [Xl]|rw [Gh]|rw [Ep]|rw [Hi]))<;>omega)|((repeat rw [Cp])<;>first|omega|(show _∧_;omega))|(simp only [H4,Xl,Gh,Ep,Hi];omega)|(simp only [Cp];first|omega|(show _∧_;omega))|decide|(simp only [Rv,Nh,Oz,Ni,Mp,Uj,Go.Sx.Dj,Go.Sx.Gv,Nq,T1,ne_eq,Int.not_lt,Int.not_le,ge_iff_le,gt_iff_lt,Int.toNat_zero,Int.toNat_one,Cp] at * <;>first|omega|(show _∧_;omega))):p∧q:=⟨hp,hq⟩
theorem skf (h:q)(hb:b=false:=by first|with_reducible rfl|assumption|(simp;done)|fail):(b=true→p)∧(b=false→q):=A20 hb h
theorem skt (h:p)(hb:b=true:=by first|with_reducible rfl|assumption|(simp;done)|fail):(b=true→p)∧(b=false→q):=A21 hb h
theorem Gy (h:q)(hb:b=false:=by first|with_reducible rfl|assumption):(b=true→p)∧(b=false→q):=A20 hb h
theorem Gz (h:p)(hb:b=true:=by first|with_reducible rfl|assumption):(b=true→p)∧(b=false→q):=A21 hb h
open Go.RowKit (Below)
theorem B6y (hT:C0 P T){B:Er}{Q:Exit→Act→World→Prop}{q:Bool}{all:Array Oper}{o:Oper}{rest:List Oper}{K:List KI}{s:AS}{t e:TypeId}{len:Nat}{parts:Array (Nat×Operand)}{i j:TI}
  (hg:o.guard=none)(ho:o.op= .buildSlice t len parts)(hi:find T t=some i)(hie:i.elem=some e)(hj:find T e=some j)(hsm:(Nat.ble (len * j.size) 10000&&Nat.blt 0 j.size)=true)
  {l:List AV}(hcs:Tj T (K9 len 0 j.size e) s parts.toList (repL len (Jo j))=some l){cs:List Ad}{ks:List Nat}(hc:Ur s.own l=some (cs,ks))(hkd:Gl ks=true)
  (h:G P B Q (.ops q all rest::K) (({s with own:=⟨s.next,.sl len j.size fun i=>(cs.drop (i * j.size)).take j.size⟩::Bb ks s.own,next:=s.next+1}:AS).put o.dst (.own s.next))):G P B Q (.ops q all (o::rest)::K) s:=by
 refine Ia hg (by rw [ho];simp [Di]) (fun E a w hs=>?_);obtain ⟨f,d,z,S⟩:=TI.of_spec (hT e j hj);have hzs:z.cells.size=j.size:=by have:=S.zlen;rw [←S.cells] at this;simpa using this
 simp only [Cj] at hsm;have hpos:=Ko hsm.2;have hsmall:=Cz hsm.1;have hlen:len≤len * j.size:=Nat.le_mul_of_pos_right _ hpos
 have hz0:DL E w (s.ag E) s.next (repL len (Jo j)) ((Array.range (len * j.size)).map (z.cells[· % z.cells.size]!)):=by
  refine ⟨by simp [Ml,Jo,S.zlen],fun k y hy=>?_⟩;have hzl:(Jo j).length=j.size:=by simp [Jo,S.zlen]
  have hk:k<len * j.size:=by have:=(Cu.1 hy).1;rwa [Ml,hzl] at this
  rw [B5o _ _ _ (by rw [hzl];exact hk),hzl] at hy
  have:=(A4b (hT e j hj) S.cells E w (s.ag E) s.next).2 _ _ hy
  have hm:k % j.size<z.cells.size:=by rw [hzs];exact Ub _ (Z2 (fun h=>by rw [h] at hk;simp at hk))
  have e1:((Array.range (len * j.size)).map (z.cells[· % z.cells.size]!)).getD k undef=z.cells.getD (k % j.size) undef:=by
   have:=Qg z.cells (len * j.size) k hk
   rw [show (Array.range (len * j.size)).map (z.cells[· % z.cells.size]!)=madeCells z.cells (len * j.size) from rfl,this,hzs]
   rw [getElem!_pos z.cells _ hm];simp only [Array.getD,hm,dif_pos];rfl
  rw [e1];exact this
 obtain ⟨cs',hfill,hDL⟩:=B1n hT hs (K9 len 0 j.size e) (fun k=>some (k * j.size,j.size)) (fun k o u hk j' hj'=>by
  obtain ⟨rfl,rfl⟩:=Y7 _ _ _ _ _ _ _ hk;rw [hj] at hj';obtain rfl:=Bv hj'
  simp) parts.toList _ _ l hcs hz0
 have hll:l.length=len * j.size:=by
  have:=Xm hcs
  rw [this,Ml]
  simp [Jo,S.zlen]
 have hcsl:cs'.size=len * j.size:=by have:=hDL.1;omega
 have hrun:(Instr.buildSlice t len (parts.map fun p=>(p.1,a.eval p.2))).run P w= .ok (.slice (some ⟨w.heap.size,0,none⟩) len len) (w.alloc (.cells cs' e)):=by
  have hnot:¬ (16777216<len * j.size):=by omega
  have hfill':Instr.fill (fun k=>some (k * j.size,j.size)) ((Array.range (len * j.size)).map (z.cells[· % z.cells.size]!)) (parts.map fun p=>(p.1,a.eval p.2)).toList=some cs':=by
   rw [A74];exact hfill
  by_cases h0:len * j.size=0
  ·simp [Instr.buildSlice,run_underlying (C1 (hT t i hi) hie),B9 (hT e j hj),h0,newRow,Array.range_zero']
   simp [h0,Array.range_zero'] at hfill'
   rw [hfill']
   simp
  simp [Instr.buildSlice,run_underlying (C1 (hT t i hi) hie),B9 (hT e j hj),hnot,h0,newRow,zeroValue,typeInfo,S.hf,S.hz]
  simp at hfill'
  rw [hfill']
  simp
 have hnd:=Eu hkd;obtain ⟨q1,q2,gps,q3,q4,q5⟩:=A6m hs hc hnd (vs:=cs'.toList) (by simp only [Nr];omega) (fun m z hz=>by rw [Bn];exact hDL.2 m z hz);have hcl:cs.length=len * j.size:=by omega
 have hbel:=Jc w (.cells cs' e)
 have hlt:∀b∈(List.range cs.length).flatMap gps,b<w.heap.size:=by
  intro b hb;obtain ⟨k,hk,hb1⟩:=E7.1 (q5 b hb);obtain ⟨y,hy,rfl⟩:=q2 k hk;exact (hs.own y hy).2.1.lt b hb1
 have hown:=Bz.sl (w:=w.alloc (.cells cs' e)) len j.size (fun i=>(cs.drop (i * j.size)).take j.size) w.heap.size 0 len e cs' gps
  (Bu _) (by simp only [maxLen];omega) (heap_alloc_new w _) (by simp [hcsl]) (fun k hk=>by
   have h2:k * j.size+j.size≤len * j.size:=by rw [←Pj];exact Kl _ hk
   simp [hcl];omega) (fun k m c hk hc'=>by
   have hm:m<j.size:=by have:=(Cu.1 hc').1;simp at this;omega
   rw [Wn,Ah hm,T7] at hc';have ho:=q3 _ _ hc';rw [Bn] at ho;rw [show (0+k) * j.size+m=k * j.size+m by rw [Rw]]
   refine ho.move (fun b hb=>?_);have hkl:k * j.size+m<cs.length:=(Cu.1 hc').1
   exact Ho w _ _ (hlt b (E7.2 ⟨_,Fk.2 hkl,hb⟩)))
 rw [←hcl] at hown;have hfp:(w.heap.size::(List.range cs.length).flatMap gps).Nodup:=Ip.2 ⟨fun hm=>Nat.lt_irrefl _ (hlt _ hm),q4⟩;have hI:=hs.drop ks
 have key:∀b,b∈(List.range cs.length).flatMap gps→s.ag E b∧¬ ({s with own:=Bb ks s.own}:AS).ag E b:=by
  intro b hb;obtain ⟨k,hk1,hb1⟩:=E7.1 (q5 b hb);obtain ⟨y,hy,rfl⟩:=q2 k hk1;refine ⟨.inr ⟨y,hy,hb1⟩,?_⟩
  rintro (⟨u,hu,rfl⟩|⟨u,hu,hb'⟩)
  ·exact hs.sepB u hu y hy hb1
  obtain ⟨hz1,hz2⟩:=Bl.1 hu;exact hs.sep y hy u hz1 (fun e=>hz2 (e▸hk1)) b hb1 hb'
 have hkept:C0p (fun _=>False) w (w.alloc (.cells cs' e)):=⟨rfl,rfl,rfl,by simp,fun k hk _=>Ho w _ _ hk⟩
 have hI2:=hI.kept hkept (fun b hb=>hb.elim)
 obtain ⟨k1,k2⟩:=hI2.addOwn hown hfp (fun b hb=>by
  rcases C7.1 hb with rfl|hb
  ·refine ⟨.inr (Bu _),fun hav=>?_,.inl hs.base.size⟩
   have:=hs.avoid_lt (hI.sub _ hav)
   omega
  exact ⟨.inl (key b hb).1,(key b hb).2,hs.fresh b (key b hb).1⟩)
 have hput:=(k1.put o.dst k2).is
 refine ⟨_,_,.inl (by
  obtain ⟨dst,op',ty',pos,after,guard⟩:=o
  simp only at ho
  subst ho
  simp only [execOp,Sem.run_bind,hrun,Result.andThen_ok];rfl),fun hk=>(by
   exact ⟨by simp,fun k hk=>Ho w _ _ hk⟩),h _ _ _ (by simpa [AS.addOwn] using hput)⟩
theorem Lg (hT:C0 P T){q:Bool}{e:TypeId}{len:Nat}{parts:Array (Nat×Operand)}{j:TI}(hh:(o.guard,o.op,find T t,i.elem,find T e,(Nat.ble (len * j.size) 10000&&Nat.blt 0 j.size))=(none,.buildSlice t len parts,some i,some e,some j,true)){l:List AV}(hcs:Tj T (K9 len 0 j.size e) s parts.toList (repL len (Jo j))=some l){ks:List Nat}(hc:Ur s.own l=some (cs,ks))(hkd:Gl ks=true)(h:GW P B Q (.ops q all rest::K) (({s with own:=⟨s.next,.sl len j.size fun i=>(cs.drop (i * j.size)).take j.size⟩::Bb ks s.own,next:=s.next+1}:AS).put o.dst (.own s.next))):GW P B Q (.ops q all (o::rest)::K) s:=by
 simp only [Jh] at hh;obtain ⟨hg,ho,hi,hie,hj,hsm⟩:=hh;exact ⟨B6y hT hg ho hi hie hj hsm hcs hc hkd (h.rec id)⟩
theorem AS.is.reBox {E:Fl}{a:Act}{w:World}(h:s.is B E a w){b:Bx}(hb:Fq s.aw k=some b)(cells:List AV)(hd:∀vs:Array Value,vs.size=b.cells.length→(∀i y,b.cells[i]? =some y→D0 E w (s.ag E) s.next y (vs.getD i undef))→vs.size=cells.length∧∀j y,cells[j]? =some y→D0 E w (s.ag E) s.next y (vs.getD j undef)):
  ({s with aw:=Fe s.aw k cells}:AS).is B E a w:=by
 obtain ⟨hm,rfl⟩:=F9 hb
 have av:∀c,({s with aw:=Fe s.aw b.key cells}:AS).ag E c↔s.ag E c:=by
  intro c
  constructor
  ·rintro (⟨x,hx,rfl⟩|h)
   ·rcases Fb hx h.keys with ⟨h1,_,y,hy,h2⟩|⟨h1,_⟩
    ·exact .inl ⟨y,hy,by rw [h1,h2]⟩
    exact .inl ⟨x,h1,rfl⟩
   exact .inr h
  rintro (⟨x,hx,rfl⟩|h)
  ·obtain ⟨y,hy,e⟩:=B01 (k:=b.key) (cs:=cells) hx
   exact .inl ⟨y,hy,by rw [e]⟩
  exact .inr h
 have mv:∀x v,D0 E w (s.ag E) s.next x v→D0 E w (({s with aw:=Fe s.aw b.key cells}:AS).ag E) s.next x v:=
  fun x v hx=>hx.move (Bu _) (fun _ _=>⟨rfl,rfl⟩) (fun _ _ _=>rfl) (fun c _ hc=>(av c).1 hc)
 refine ⟨h.defers,h.ak,h.size,fun i x hx=>mv _ _ (h.ac i x hx),?_,?_,?_,h.own,h.ownkeys,h.sep,?_,h.one,h.base,fun c hc=>h.fresh c ((av c).1 hc)⟩
 ·intro x hx
  rcases Fb hx h.keys with ⟨h1,h2,_⟩|⟨h1,_⟩
  ·obtain ⟨g1,vs,ty,g2,g3,g4⟩:=h.aw b hm
   obtain ⟨e1,e2⟩:=hd vs g3 g4;exact ⟨h1▸g1,vs,ty,by rw [h1];exact g2,by rw [h2];exact e1,fun j y hj=>mv _ _ (e2 j y (by rw [←h2];exact hj))⟩
  obtain ⟨g1,vs,ty,g2,g3,g4⟩:=h.aw x h1;exact ⟨g1,vs,ty,g2,g3,fun j y hj=>mv _ _ (g4 j y hj)⟩
 ·intro x hx y hy he
  rcases Fb hx h.keys with ⟨h1,_⟩|⟨h1,_⟩<;>rcases Fb hy h.keys with ⟨g1,_⟩|⟨g1,_⟩
  ·rw [h1,g1]
  ·rw [h1] at he ⊢
   exact h.boxes2 b hm y g1 he
  ·rw [g1] at he ⊢
   exact h.boxes2 x h1 b hm he
  exact h.boxes2 x h1 y g1 he
 ·show ((Fe s.aw b.key cells).map (·.key)).Nodup
  rw [Qt];exact h.keys
 intro x hx y hy
 rcases Fb hx h.keys with ⟨h1,_⟩|⟨h1,_⟩
 ·rw [h1];exact h.sepB b hm y hy
 exact h.sepB x h1 y hy
theorem Xh (k off es:Nat)(row:Nat→List Ad){b:Bx}(hb:Fq s.aw k=some b)(hi:I4 b.cells off= .c (.val (.slice none 0 0)))(h:GW P B Q K {s with aw:=Fe s.aw k (Cd b.cells off (.own s.next)),own:=⟨s.next,.sl 0 es row⟩::s.own,next:=s.next+1}):GW P B Q K s:=by
 refine ⟨fun E a w hs=>?_⟩;have hI:s.isA B E (s.ag E) a w:=⟨hs.defers,hs.ak,hs.size,hs.ac,hs.aw,hs.boxes2,hs.keys,hs.own,hs.ownkeys,hs.sep,hs.sepB,hs.one,hs.base,hs.fresh,fun _ h=>h⟩
 obtain ⟨k1,k2⟩:=hI.addOwn (.nil es row) Ef Ef;have k3:=k1.is
 have k4:=k3.reBox (k:=k) (b:=b) hb (Cd b.cells off (.own s.next)) (fun vs h1 h2=>by
  refine ⟨by rw [Bj];exact h1,fun j y hj=>?_⟩;rw [Cr] at hj
  split at hj
  ·rename_i hm
   obtain ⟨rfl,hm⟩:=hm;obtain rfl:=Bv hj;have hd:=h2 off (.c (.val (.slice none 0 0))) (by rw [Cb,Dh hm] at hi;rw [Dh hm];simpa using hi);rw [B3 hd];exact k2.move (Bu _) (fun _ _=>⟨rfl,rfl⟩) (fun _ _ _=>rfl) (fun b _ hb=>k1.sub b hb)
  exact h2 j y hj)
 exact h.out _ _ _ k4
theorem Ae (id:Nat)(hm:P.follows .mixedOrders=true){ops:Array Oper}(ord:List Nat)(hB:C54 ops ord=true)(h:GW P B Q (.ops true ops (Ys ops ord)::K) s):GW P B Q (.code (.region id ops true)::K) s:=D0h hm ord hB h
theorem Bw [Inhabited α] {e:α→List Ad}{row1:Nat→List Ad}{xs:List α}:Ze 0 xs.length es row1 (fun i=>e (xs.getD i default)) (Mu es e xs):=
 ⟨_,by rw [Mu,Rw],fun i hi=>by omega,fun i hi=>by simp⟩
theorem Tn [Inhabited α] {e:α→List Ad}(xs:List α)(h:∀x,∀c∈e x,∃v,c= .val v):Fc xs.length (fun i=>e (xs.getD i default)):=fun _ _=>h _
theorem Sn (xs:List Int):Fc xs.length (fun i=>[vi (xs.getD i default)]):=Tn (e:=fun n=>[vi n]) xs fun _x _c hc=>⟨_,Hh.1 hc⟩
theorem Tm (xs:List Bool):Fc xs.length (fun i=>[vb (xs.getD i default)]):=Tn (e:=fun n=>[vb n]) xs fun _x _c hc=>⟨_,Hh.1 hc⟩
theorem J1 (xs:List A9):Fc xs.length (fun i=>A9.c (xs.getD i default)):=Tn xs fun x c hc=>by
 simp only [A9.c,C7,K0,Ld] at hc
 rcases hc with rfl|rfl|rfl|rfl|rfl<;>exact ⟨_,rfl⟩
theorem Gj (xs:List Al):Fc xs.length (fun i=>Al.c (xs.getD i default)):=Tn xs fun x c hc=>by
 simp only [Al.c,C7,K0,Ld] at hc
 rcases hc with rfl|rfl|rfl|rfl<;>exact ⟨_,rfl⟩
theorem H1 (xs:List D9):Fc xs.length (fun i=>D9.c (xs.getD i default)):=Tn xs fun x c hc=>by
 simp only [D9.c,C7,K0,Ld] at hc
 rcases hc with rfl|rfl|rfl<;>exact ⟨_,rfl⟩
theorem A5d (xs:List Ih):Fc xs.length (fun i=>Ih.c (xs.getD i default)):=Tn xs fun x c hc=>by
 simp only [Ih.c,C7,K0,Ld] at hc
 rcases hc with rfl|rfl<;>exact ⟨_,rfl⟩
theorem Mh (xs:List I9):Fc xs.length (fun i=>I9.c (xs.getD i default)):=Tn xs fun x c hc=>by
 simp only [I9.c,C7,K0,Ld] at hc
 rcases hc with rfl|rfl|rfl|rfl|rfl<;>exact ⟨_,rfl⟩
def F0 (n lo hi:Int):Bool:=if n≥lo then decide (n≤hi) else false
def E5 (n lo hi:Int):Int:=if hi<lo∨n<lo then lo else if hi<n then hi else n
def Ej (key n:Int):Int:=if n<1 then 0 else if key.tmod n<0 then key.tmod n+n else key.tmod n
theorem Dj {n lo hi:Int}:F0 n lo hi=true↔lo≤n∧n≤hi:=by
 unfold F0
 split
 ·simp;omega
 simp;omega
theorem Hn (n lo hi:Int)(h:lo≤hi):lo≤E5 n lo hi∧E5 n lo hi≤hi:=by
 unfold E5
 split
 ·omega
 split<;>omega
theorem C3h (k:Nat)(h:k<4611686018427387904):IntKind.i64.wrap ((k:Int)+1)=((k+1:Nat):Int):=by
 rw [L0 (by show _∧_;omega)];omega
variable {x : A3}
theorem A3.workers_le (h:x.w≤n):x.aq.length≤n:=by simp only [A3.w,wS] at h;omega
theorem A3.news_le (h:x.w≤n):x.au.length≤n:=by simp only [A3.w,wS] at h;omega
theorem A3.worker_le (h:x.w≤n)(hk:k<x.aq.length):((x.aq.take k).map Aj.w).sum+(x.aq.getD k default).w≤n:=by
 have:=Fg Aj.w x.aq k hk
 simp only [A3.w,wS] at h;omega
theorem A3.link_le (h:x.w≤n)(hk:k<x.ak.length):((x.ak.take k).map D8.w).sum+(x.ak.getD k default).w≤n:=by
 have:=Fg D8.w x.ak k hk
 simp only [A3.w,wS] at h;omega
theorem A33 (x y:Int):(x==y)=decide (x=y):=by rw [Lf];simp
theorem B3q (x y:Bool):(x==y)=decide (x=y):=by rw [Lf];simp
theorem Ez [Inhabited α] (a b:List α)(k:Nat)(h:a.take k=b.take k)(ha:k<a.length)(hb:k<b.length):a.take (k+1)=b.take (k+1)↔a.getD k default=b.getD k default:=by
 rw [Ee a k ha,Ee b k hb,h]
 simp
theorem A9.eqv (x y:A9):(x.op==y.op&&(x.af.am==y.af.am&&(x.af.turn==y.af.turn&&(x.key==y.key&&(x.val==y.val&&true)))))=decide (x=y):=by
 obtain ⟨_,⟨_,_⟩,_,_⟩:=x;obtain ⟨_,⟨_,_⟩,_,_⟩:=y;rw [Lf];simp [and_assoc]
theorem Al.eqv (x y:Al):(x.op==y.op&&(x.am==y.am&&(x.key==y.key&&(x.val==y.val&&true))))=decide (x=y):=by
 obtain ⟨_,_,_,_⟩:=x;obtain ⟨_,_,_,_⟩:=y;rw [Lf];simp [and_assoc]
theorem Ih.eqv (x y:Ih):(x.am==y.am&&(x.ae==y.ae&&true))=decide (x=y):=by
 obtain ⟨_,_⟩:=x;obtain ⟨_,_⟩:=y;rw [Lf];simp [and_assoc]
theorem I9.eqv (x y:I9):(x.bj==y.bj&&(x.aj==y.aj&&(x.sum==y.sum&&(x.ah==y.ah&&(x.ae==y.ae&&true)))))=decide (x=y):=by
 obtain ⟨_,_,_,_,_⟩:=x;obtain ⟨_,_,_,_,_⟩:=y;rw [Lf];simp [and_assoc]
theorem D9.eqv (x y:D9):(x.to_==y.to_&&(x.am==y.am&&(x.ae==y.ae&&true)))=decide (x=y):=by
 obtain ⟨_,_,_⟩:=x;obtain ⟨_,_,_⟩:=y;rw [Lf];simp [and_assoc]
theorem Cs.eqv (x y:Cs):(x.kind==y.kind&&(x.a==y.a&&(x.b==y.b&&true)))=decide (x=y):=by
 obtain ⟨_,_,_⟩:=x;obtain ⟨_,_,_⟩:=y;rw [Lf];simp [and_assoc]
theorem Ba.eqv (x y:Ba):decide (x=y)=(x.kind==y.kind&&(x.a==y.a&&(x.b==y.b&&decide (x.ax=y.ax)))):=by
 obtain ⟨_,_,_,_⟩:=x;obtain ⟨_,_,_,_⟩:=y;rw [Lf];simp
theorem Ax.eqv (x y:Ax):decide (x=y)=(decide (x.ay=y.ay)&&(x.aq==y.aq&&x.cap==y.cap)):=by
 obtain ⟨_,_,_⟩:=x;obtain ⟨_,_,_⟩:=y;rw [Lf];simp
theorem B5.eqv (x y:B5):decide (x=y)=(decide (x.az=y.az)&&(decide (x.ap=y.ap)&&(decide (x.an=y.an)&&x.aa==y.aa))):=by
 obtain ⟨_,_,_,_⟩:=x;obtain ⟨_,_,_,_⟩:=y;rw [Lf];simp
def F6 (xs:List A9) (e:Int):List A9:=xs.filter fun r=>r.af.am==e
def B71 (w:Aj) (e:Int):Bool:=w.ap.any fun r=>decide (r.af.am≤e)
def A7y (w:Aj) (e:Int):Nat:=(F6 w.al e).length+(F6 w.bq e).length
def L8 (w:Aj) (e:Int):Bool:=if B71 w e then false else (A7y w e:Int)==0
def Lh (w:Aj) (e:Int):Bool:=w.bz.any fun d=>d.am==e
def Qr (c:A3) (e:Int):Bool:=if 0<c.aq.length then Lh (c.aq.getD 0 default) e else false
theorem O0 (xs:List A9)(e:Int):(F6 xs e).length≤xs.length:=Pm _ _
def Iu {α:Type} (p:α→Bool):List α→Nat
 | []=>0
 |x::r=>if p x=true then 0 else Iu p r+1
def Pf {α:Type} (p:α→Bool) (xs:List α):Int:=if xs.any p=true then (Iu p xs:Int) else-1
theorem C47 [Inhabited α] (p:α→Bool)(xs:List α)(k:Nat)(h:(xs.take k).any p=false)(hk:k<xs.length)(hp:p (xs.getD k default)=true):Iu p xs=k:=by
 induction xs generalizing k with
 |nil=>simp at hk
 |cons x r ih=>
  cases k with
  |zero=>
   simp only [Ue] at hp
   simp [Iu,hp]
  |succ k=>
   simp only [List.take_succ_cons,List.any_cons,Bool.or_eq_false_iff] at h
   have:=ih k h.2 (by simpa using hk) (by simpa using hp)
   simp [Iu,h.1,this]
theorem Sm [Inhabited α] (p:α→Bool)(xs:List α)(k:Nat)(h:(xs.take k).any p=false)(hk:k<xs.length)(hp:p (xs.getD k default)=true):Pf p xs=k:=by
 rw [Pf,Ah (R8 hk hp),C47 p xs k h hk hp]
theorem M9 (p:α→Bool)(xs:List α)(h:xs.any p=false):Pf p xs= -1:=by rw [Pf,Ab (by rw [h];decide)]
theorem A1f (p:α→Bool)(xs:List α):decide (Pf p xs≥0)=xs.any p:=by
 unfold Pf
 cases h:xs.any p with
 |true=>rw [Ah rfl];exact D7 A7
 |false=>rw [Ab Bk];exact Cx A7
theorem Gq [Inhabited α] {p:α→Bool}{xs:List α}(h:(xs.take k).any p=false)(hk:k<xs.length)(hp:p (xs.getD k default)=false):(xs.take (k+1)).any p=false:=by
 rw [C32 p xs k hk,h,hp];rfl
open Go.RowKit (Below)
abbrev vy (b:UInt8):Ad:= .val (.int .u8 b.toNat)
abbrev W6 (xs:List UInt8):Ad:=Mu 1 (fun b=>[vy b]) xs
theorem C7e (hT:C0 P T){q:Bool}{x:Operand}{u e:TypeId}{j l:TI}(hg:o.guard=none)(ho:o.op= .convert t u x)(hi:find T t=some i)(hie:i.elem=some e)(hj:find T e=some j)(hfl:j.flat=some [.int .u8])(hag:j.agg=false)(hl:find T u=some l)(hstr:l.str=true){bs:List UInt8}(hx:A4s s.own (s.ev x)=some (W6 bs))(h:G P B Q (.ops q all rest::K) (s.put o.dst (.v (.string ⟨bs.toArray⟩)))):G P B Q (.ops q all (o::rest)::K) s:=by
 refine Eb hg (fun E a w hs=>?_);have hr:=V9 hs hx (hs.ev x);have hu:=C1 (hT t i hi) hie;have hd:=Qs (hT u l hl) hstr;have he:P.underlying e=some (.int .u8):=A5e hT hj hag hfl;obtain ⟨dst,op',ty,pos,after,guard⟩:=o
 simp only at ho
 subst ho;generalize hv:a.eval x=v at hr;refine ⟨.string ⟨bs.toArray⟩,fun w' hk=>?_,h E _ w (hs.put dst (.c (.val _ rfl)))⟩;simp only [execOp,hv,Sem.run_bind];generalize hc:W6 bs=c at hr
 cases hr with
 |val x h=>simp [Mu] at hc
 |nil es row=>
  simp only [Mu,Ad.sl.injEq] at hc;obtain ⟨hc,_⟩:=hc;obtain rfl:=Pk hc;rw [run_convert_bytes_nil w' t e hu he 0 0 u hd]
  rfl
 |emp es row a'=>
  simp only [Mu,Ad.sl.injEq] at hc;obtain ⟨hc,_⟩:=hc;obtain rfl:=Pk hc;rw [run_convert_bytes_string w' t u e _ 0 0 hu he hd,run_bytesToString w' a' 0 0 [] (by simp [loadCells,loadCellsFrom])]
  rfl
 |sl n es row b off cap u' hA hn hcp hl' hu' hr'=>
  simp only [Mu,Ad.sl.injEq] at hc;obtain ⟨rfl,rfl,rfl⟩:=hc
  rw [run_convert_bytes_arg w' t e hu he b off bs.length cap (bs.map fun b=>(b.toNat:Int)) Ef (fun k hk'=>by
   have h1:=hk.cell (hu' k 0 hk' A7);have h2:=hr' k 0 _ hk' rfl;have h3:u' k 0= .int .u8 ((bs.getD k default).toNat):=by generalize u' k 0=z at h2;cases h2;rfl
   rw [h3] at h1;simp only [Nat.mul_one,T3] at h1;rw [h1]
   simp [List.getD,hk']) u hd]
  simp only [Result.andThen_ok,Sem.run_pure]
  congr 3
  simp [strOfNums,Function.comp_def]
theorem D1r (hT:C0 P T){q:Bool}{x:Operand}{u e:TypeId}{j l:TI}(hg:o.guard=none)(ho:o.op= .convert t u x)(hi:find T t=some i)(hie:i.elem=some e)(hj:find T e=some j)(hfl:j.flat=some [.int .u8])(hag:j.agg=false)(hl:find T u=some l)(hstr:l.str=true)(bs:List UInt8)(hx:A4s s.own (s.ev x)=some (W6 bs))(h:GW P B Q (.ops q all rest::K) (s.put o.dst (.v (.string ⟨bs.toArray⟩)))):GW P B Q (.ops q all (o::rest)::K) s:=
 ⟨C7e hT hg ho hi hie hj hfl hag hl hstr hx (h.rec id)⟩
variable {ops : Array Oper}
def B92 (ops:Array Oper):List Nat→Array Bool→Option (Array Bool)
 | [],listed=>some listed
 |i::r,listed=>match ops[i]? with
  |some o=>match Di o.op with
   | 0=>match (Region.ready .any ops listed).contains i&&B35 ops listed i o with
    |true=>B92 ops r (listed.setIfInBounds i true)
    |false=>none
   |_=>none
  |none=>none
def B1u (ops:Array Oper) (listed:Array Bool) (i:Nat) (t:List Nat):Bool:=
 match t with
 | []=>false
 |j::r=>j==i&&(ops[i]?).isSome&&X2 ops r (listed.setIfInBounds i true)
def C55 (ops:Array Oper) (pre:List Nat) (tails:List (List Nat)):Bool:=
 Region.noSelect ops&&tails.all (fun t=>pre.length+t.length==ops.size)&&match B92 ops pre (Array.replicate ops.size false) with
 |none=>false
 |some listed=>!(Region.ready .any ops listed).isEmpty&&!tails.isEmpty&&(Region.ready .any ops listed).all fun i=>tails.any (B1u ops listed i)
variable {tails : List (List Nat)}
theorem B3o (hsel:∀(j:Nat) (o:Oper) cs b,ops[j]? =some o→o.op≠ .select cs b){Q:Act→World→Prop}{m:Nat}(hm:∀t∈tails,t.length=m)(hne:tails≠[]):∀(pre:List Nat) (listed fin:Array Bool) (a:Act) (w:World),
  B92 ops pre listed=some fin→Pp ops listed→(Region.ready .any ops fin).isEmpty=false→((Region.ready .any ops fin).all fun i=>tails.any (B1u ops fin i))=true→
  (∀t∈tails,Fz P ops Q ((pre++t).filterMap fun i=>ops[i]?) a w)→R3 P ops Q (pre.length+m) listed a w
 | [],listed,fin,a,w,h,hc,hr,ht,hq=>by
  obtain rfl:=Bv h
  cases m with
  |zero=>
   exfalso
   match hl:Region.ready .any ops listed with
   | []=>rw [hl] at hr;simp at hr
   |i::r=>
    rw [hl] at ht;simp only [Wg,Cj,Uv] at ht;obtain ⟨⟨t,h1,h2⟩,_⟩:=ht
    have:=hm t h1
    obtain rfl:=Pk this
    simp [B1u] at h2
  |succ m=>
   rw [show ([]:List Nat).length+(m+1)=m+1 by simp]
   refine ⟨fun h0=>(by rw [h0] at hr;simp at hr),fun i hi=>?_⟩;have hi':=Ja.1 ht i hi;obtain ⟨t,h1,h2⟩:=Uv.1 hi'
   match t,h2,hm t h1,hq t h1 with
   |j::r,h2,hlen,hq=>
    simp only [B1u,Cj,Rv] at h2;obtain ⟨⟨rfl,h3⟩,h4⟩:=h2;obtain ⟨o,ho⟩:=A73.1 h3;have hl:r.length=m:=by simpa using hlen
    have ih:=fun a w=>Zh (P:=P) (Q:=Q) hsel r (listed.setIfInBounds j true) a w h4 (hc.set hi);rw [hl] at ih;have e:([]++j::r).filterMap (fun i=>ops[i]?)=o::r.filterMap fun i=>ops[i]? :=by simp [ho]
    rw [e] at hq;unfold opM;simp only [ho];unfold Fz at hq
    split
    ·rename_i hw
     rw [Ah hw] at hq
     rcases hq with ⟨v,h1,h2⟩|⟨_,hd⟩
     ·unfold Kp
      rw [h1 w (Ed.refl w)];exact ⟨fun _=>Ed.refl w,ih _ _ h2⟩
     exact hd.mono fun a w h=>ih a w h
    rename_i hw
    rw [Ab hw] at hq;exact ih _ _ hq
 |i::pre,listed,fin,a,w,h,hc,hr,ht,hq=>by
  unfold B92 at h
  split at h
  ·rename_i o ho
   split at h
   ·rename_i hk
    split at h
    ·rename_i hf
     simp only [Cj,Z6] at hf;obtain ⟨hrd,hf⟩:=hf
     have hfree:∀j oj,ops[j]? =some oj→j≠i→listed.getD j true=false→Wa ops ops.size j i=true∨(o.apart ops oj=true∧(Pd o.op=true∨Di oj.op≤1)):=by
      intro j oj hoj hji hun
      have:=Ja.1 hf j (Fk.2 (T2.1 hoj).1)
      simp only [hoj,hun,A2c,Yd,Rv,hji,false_or,Cj] at this;exact this.symm.imp id fun ⟨h1,h2⟩=>⟨h1,h2.imp id fun h=>Cz h⟩
     have hl:∀t,(i::pre++t).filterMap (fun i=>ops[i]?)=o::(pre++t).filterMap fun i=>ops[i]? :=fun t=>by simp [ho]
     have hy:∃v,M3 P ops o v a w∧∀t∈tails,Fz P ops Q ((pre++t).filterMap fun i=>ops[i]?) (a.put o.dst v) w:=by
      by_cases hw:Region.wanted o (yielded ops a.tmps)=true
      ·have one:∀t∈tails,∃v,(∀w',Ed w w'→(execOp a.eval o).run P w'= .ok (.value v) w')∧Fz P ops Q ((pre++t).filterMap fun i=>ops[i]?) (a.put o.dst v) w:=fun t ht=>by
        have:=hq t ht
        rw [hl] at this;unfold Fz at this;rw [Ah hw] at this
        rcases this with ⟨v,h1,h2⟩|⟨hn,_⟩
        ·exact ⟨v,h1,h2⟩
        exact absurd hk hn
       obtain ⟨t0,ht0⟩:=List.exists_mem_of_ne_nil _ hne;obtain ⟨v,h1,_⟩:=one t0 ht0;refine ⟨v,.inl ⟨hw,fun w' hk=>hk.elim (fun hb=>Si hb a.eval (h1 w (Ed.refl w))) (h1 w')⟩,fun t ht=>?_⟩;obtain ⟨v',g1,g2⟩:=one t ht;have e1:=h1 w (Ed.refl w);have e2:=g1 w (Ed.refl w);rw [e1] at e2;simp only [Result.ok.injEq,Next.value.injEq,and_true] at e2;rw [e2];exact g2
      refine ⟨undef,.inr ⟨by simpa using hw,rfl⟩,fun t ht=>?_⟩
      have:=hq t ht
      rw [hl] at this;unfold Fz at this
      rwa [Ab hw] at this
     obtain ⟨v,hy,hK⟩:=hy;have ih:=B3o hsel hm hne pre _ fin _ w h (hc.set hrd) hr ht hK;rw [show (i::pre).length+m=(pre.length+m)+1 by simp;omega]
     exact Nt ho hsel ops.size (pre.length+m) listed a w hc hfree hrd hy ih
    simp at h
   simp at h
  simp at h
theorem A9m {id:Nat}{a:Act}{w:World}{pre:List Nat}(hm:P.follows .mixedOrders=true)(hB:C55 ops pre tails=true)(h:∀t∈tails,Fz P ops (fun a w=>Q .normal a w) (Ys ops (pre++t)) a {w with drawn:=w.drawn+1}):(Code.region id ops true).wp P Q a w:=by
 simp only [C55,Cj] at hB;obtain ⟨⟨h1,h2⟩,h3⟩:=hB
 split at h3
 ·simp at h3
 rename_i fin hp
 simp only [Cj,Mp] at h3;obtain ⟨⟨h4,h5⟩,h6⟩:=h3;have hne:tails≠[]:=by rintro rfl;simp at h5
 have hlen:∀t∈tails,pre.length+t.length=ops.size:=fun t ht=>by simpa using List.all_eq_true.1 h2 t ht
 obtain ⟨t0,ht0⟩:=List.exists_mem_of_ne_nil _ hne;refine wp_region_any hm (Wu (Q:=fun a w=>Q .normal a w) (fun _ _ h=>h) _ _ _ _ ?_)
 have:=B3o (P:=P) (Q:=fun a w=>Q .normal a w) (Region.noSelect_spec h1) (m:=t0.length) (fun t ht=>by have:=hlen t ht;have:=hlen t0 ht0;omega) hne pre (Array.replicate ops.size false) fin a _ hp
  (fun j o _ hl=>by exfalso;by_cases hj:j<ops.size<;>simp [hj] at hl) h4 h6 h
 rwa [hlen t0 ht0] at this
def C31 (P:Program) (B:Er) (Q:Exit→Act→World→Prop) (K:List KI) (s:AS) (ops:Array Oper) (pre:List Nat):List (List Nat)→Prop
 | []=>True
 |t::r=>GW P B Q (.ops true ops (Ys ops (pre++t))::K) s∧C31 P B Q K s ops pre r
theorem C05 {pre:List Nat}(h:C31 P B Q K s ops pre tails):∀t∈tails,GW P B Q (.ops true ops (Ys ops (pre++t))::K) s:=by
 induction tails with
 |nil=>simp
 |cons x r ih=>
  intro t ht
  rcases C7.1 ht with rfl|ht
  ·exact h.1
  exact ih h.2 t ht
theorem D13 (pre:List Nat)(tails:List (List Nat))(hm:P.follows .mixedOrders=true){id:Nat}(hB:C55 ops pre tails=true)(h:C31 P B Q K s ops pre tails):GW P B Q (.code (.region id ops true)::K) s:=
 ⟨fun E a w hs=>A9m hm hB (fun t ht=>(C05 h t ht).rec fun h=>h E a _ (hs.call (w':= {w with drawn:=w.drawn+1}) ⟨rfl,rfl,rfl,Bu _,fun _ _=>rfl⟩).is)⟩
end Go.Sx
set_option maxRecDepth 100000
namespace Go.Sx
open Go
variable {Q : Exit → Act → World → Prop}
theorem R9 {B:Er}{s:AS}(k:Nat)(c':Ad){c:Ad}(hk:Bm s.own k=some c)(hc:Kn c c')(h:RW B Q {s with own:=Jf s.own k c'}):RW B Q s:=by
 refine ⟨fun E a w hs=>?_⟩;have hm:=Ca hk
 have av:∀b,({s with own:=Jf s.own k c'}:AS).ag E b→s.ag E b:=by
  rintro b (hb|⟨y,hy,hb⟩)
  ·exact .inl hb
  obtain ⟨z,hz,e⟩:=Ie hy;exact .inr ⟨z,hz,by rw [e];exact hb⟩
 have mv:∀x v,D0 E w (s.ag E) s.next x v→D0 E w (({s with own:=Jf s.own k c'}:AS).ag E) s.next x v:=fun x v hx=>
  hx.move (Bu _) (fun _ _=>⟨rfl,rfl⟩) (fun _ _ _=>rfl) (fun b _ hb=>av b hb)
 obtain ⟨h⟩:=h;refine h E a w ⟨hs.defers,hs.ak,hs.size,fun i x hx=>mv _ _ (hs.ac i x hx),fun x hx=>?_,hs.boxes2,hs.keys,fun y hy=>?_,by rw [Yz];exact hs.ownkeys,fun y hy z hz hne=>?_,fun x hx y hy=>?_,hs.one,hs.base,fun b hb=>hs.fresh b (av b hb)⟩
 ·obtain ⟨h1,vs,ty,h2,h3,h4⟩:=hs.aw x hx
  exact ⟨h1,vs,ty,h2,h3,fun i y hy=>mv _ _ (h4 i y hy)⟩
 ·rcases X7 hy with ⟨h1,h2,_⟩|⟨h1,_⟩
  ·obtain ⟨g1,g2,g3⟩:=hs.own _ hm
   rw [h1,h2];exact ⟨g1,hc.own g2,g3⟩
  exact hs.own y h1
 ·obtain ⟨y',hy',e1⟩:=Ie hy
  obtain ⟨z',hz',e2⟩:=Ie hz;rw [←e1,←e2];exact hs.sep y' hy' z' hz' (by rw [e1,e2];exact hne)
 obtain ⟨y',hy',e1⟩:=Ie hy;rw [←e1];exact hs.sepB x hx y' hy'
theorem A3q {B:Er}{s:AS}(i es:Nat)(row:Nat→List Ad)(hi:I4 s.ac i= .c (.val (.slice none 0 0)))(h:RW B Q {s with ac:=Cd s.ac i (.own s.next),own:=⟨s.next,.sl 0 es row⟩::s.own,next:=s.next+1}):RW B Q s:=by
 refine ⟨fun E a w hs=>?_⟩;have hI:s.isA B E (s.ag E) a w:=⟨hs.defers,hs.ak,hs.size,hs.ac,hs.aw,hs.boxes2,hs.keys,hs.own,hs.ownkeys,hs.sep,hs.sepB,hs.one,hs.base,hs.fresh,fun _ h=>h⟩
 obtain ⟨k1,k2⟩:=hI.addOwn (.nil es row) Ef Ef;have k3:=k1.is;obtain ⟨h⟩:=h;refine h (E.withOwn s.next (.slice none 0 0) []) a w ⟨k3.defers,k3.ak,by rw [k3.size];exact (Bj _ _ _).symm,fun m z hz=>?_,k3.aw,k3.boxes2,k3.keys,k3.own,k3.ownkeys,k3.sep,k3.sepB,k3.one,k3.base,k3.fresh⟩
 simp only at hz
 rw [Cr] at hz
 split at hz
 ·rename_i hm
  obtain ⟨rfl,hm⟩:=hm;obtain rfl:=Bv hz;have hd:=hs.ac i (.c (.val (.slice none 0 0))) (by rw [Cb,Dh hm] at hi;rw [Dh hm];simpa using hi);rw [B3 hd]
  have:D0 (E.withOwn s.next (.slice none 0 0) []) w _ _ (.own s.next) (.slice none 0 0):=k2
  exact this.move (Bu _) (fun _ _=>⟨rfl,rfl⟩) (fun _ _ _=>rfl) (fun b _ hb=>k1.sub b hb)
 exact k3.ac m z hz
end Go.Sx
set_option maxRecDepth 100000
namespace Go.Sx
open Go
variable {α : Type} {es : Nat} {row : Nat → List Ad}
theorem C0d [Inhabited α] {e:α→List Ad}{xs:List α}{x y:α}(h0:row 0=e x)(h1:row 1=e y):
  Ze xs.length 2 es (fun i=>e (xs.getD i default)) row (Mu es e (xs++[x,y])):=by
 obtain ⟨r,hr,ha,hb⟩:=A37 es e xs [x,y];refine ⟨r,hr,ha,fun i hi=>?_⟩;rw [hb i hi]
 match i,hi with
 | 0,_=>exact h0.symm
 | 1,_=>exact h1.symm
theorem C6z [Inhabited α] {e:α→List Ad}{xs:List α}{x y z u:α}(h0:row 0=e x)(h1:row 1=e y)(h2:row 2=e z)(h3:row 3=e u):
  Ze xs.length 4 es (fun i=>e (xs.getD i default)) row (Mu es e (xs++[x,y,z,u])):=by
 obtain ⟨r,hr,ha,hb⟩:=A37 es e xs [x,y,z,u];refine ⟨r,hr,ha,fun i hi=>?_⟩;rw [hb i hi]
 match i,hi with
 | 0,_=>exact h0.symm
 | 1,_=>exact h1.symm
 | 2,_=>exact h2.symm
 | 3,_=>exact h3.symm
theorem I5.rfl':∀l:List Ad,I5 l l
 | []=>trivial
 |_::l=>⟨.inl rfl,I5.rfl' l⟩
theorem C1d [Inhabited α] {e:α→List Ad}{x y z u:α}(h0:row 0=e x)(h1:row 1=e y)(h2:row 2=e z)(h3:row 3=e u):
  Kn (.sl 4 es row) (Mu es e [x,y,z,u]):=by
 refine ⟨rfl,rfl,fun i hi=>?_⟩
 match i,hi with
 | 0,_=>rw [h0];exact I5.rfl' _
 | 1,_=>rw [h1];exact I5.rfl' _
 | 2,_=>rw [h2];exact I5.rfl' _
 | 3,_=>rw [h3];exact I5.rfl' _
theorem Tl (f:Nat→List α)(k:Nat):(List.range (k+1)).flatMap f=(List.range k).flatMap f++f k:=by
 rw [Za,Wo];simp
def pW (w:Nat):List Cs:=[⟨1,w,0⟩,⟨3,w,0⟩,⟨2,w,0⟩,⟨7,w,0⟩]
def pK (w k:Nat):List Cs:=if (w:Int)=k then [] else [⟨4,w,k⟩,⟨5,w,k⟩]
def pA (n:Nat):List Cs:=(List.range n).flatMap pW
def pB (w j:Nat):List Cs:=(List.range j).flatMap (pK w)
def pC (n m:Nat):List Cs:=(List.range m).flatMap fun w=>pB w n
def pE (e:Nat):List Cs:=(List.range e).map fun e=>⟨6,(e:Nat),0⟩
def R2 (n:Nat):List Cs:=pA n++pC n n++pE 4
theorem B2i (k:Nat):pA (k+1)=pA k++pW k:=Tl _ _
theorem B2j (w k:Nat):pB w (k+1)=pB w k++pK w k:=Tl _ _
theorem B2k (n k:Nat):pC n (k+1)=pC n k++pB k n:=Tl _ _
theorem B91 (k:Nat):pE (k+1)=pE k++[⟨6,(k:Nat),0⟩]:=by simp [pE,Za]
theorem A6o (k:Nat):(pA k).length=4 * k:=by
 induction k with
 |zero=>rfl
 |succ k ih=>rw [B2i,Dn,ih];rfl
theorem D1h (w k:Nat):(pK w k).length≤2:=by unfold pK;split<;>simp
theorem B73 (w k:Nat):(pB w k).length≤2 * k:=by
 induction k with
 |zero=>exact Bu _
 |succ k ih=>rw [B2j,Dn];have:=D1h w k;omega
theorem A6p (n k:Nat)(hn:n≤4):(pC n k).length≤8 * k:=by
 induction k with
 |zero=>exact Bu _
 |succ k ih=>rw [B2k,Dn];have:=B73 k n;omega
theorem B74 (k:Nat):(pE k).length=k:=by simp [pE]
theorem Zg (n:Nat)(hn:n≤4):(R2 n).length≤52:=by
 have:=A6p n n hn
 simp only [R2,Dn,A6o,B74];omega
theorem C9k (w k:Nat)(h:k<4):(pW w).take (k+1)=(pW w).take k++[⟨([1,3,2,7]:List Int).getD k default,w,0⟩]:=by
 match k,h with
 | 0,_=>rfl
 | 1,_=>rfl
 | 2,_=>rfl
 | 3,_=>rfl
end Go.Sx
set_option maxRecDepth 100000
namespace Go.Sx
open Go
variable {P : Program} {T : List (TypeId × TI)}
def bnd (s:AS) (x:Option Operand) (d:Int):Option Int:=
 match x with
 |none=>some d
 |some y=>match s.ev y with
  | .c (.val (.int _ v))=>some v
  |_=>none
def C3l (x:Option Value) (l d:Int):Prop:=(x=none∧l=d)∨∃k,x=some (.int k l)
variable {l : Int}
theorem L3 {B:Er}{E:Fl}{a:Act}{w:World}{s:AS}(hs:s.is B E a w){x:Option Operand}{d:Int}(h:bnd s x d=some l):C3l (x.map a.eval) l d:=by
 cases x with
 |none=>exact .inl ⟨rfl,(Bv h).symm⟩
 |some y=>
  refine .inr ?_;simp only [bnd] at h;have hd:=hs.ev y;generalize s.ev y=z at h hd
  split at h
  ·rename_i k v
   obtain rfl:=Bv h;have e:=B3 hd;exact ⟨k,by simp [e]⟩
  cases h
def Xj (n es:Nat) (row:Nat→List Ad) (l h:Int) (c:Ad):Prop:=∃row',c= .sl (h-l).toNat es row'∧∀i,i<(h-l).toNat→row' i=row (l.toNat+i)
variable {h : Int}
theorem B2u {t e:TypeId}{i j:TI}(hi:TI.of P t=some i)(he:i.elem=some e)(hj:TI.of P e=some j){a:Option Addr}{len cap:Nat}{lo hi':Option Value}(hl:C3l lo l 0)(hh:C3l hi' h len)(h0:0≤l)(h1:l≤h)(h2:h≤len)(h3:len≤cap)(w:World):
  (Instr.sliceAt t (.slice a len cap) lo hi' none).run P w= .ok (sliced a l.toNat h.toNat cap j.size) w:=by
 have hu:=C1 hi he;have hel:P.elem t=e:=by simp [Program.elem,hu]
 have hu':P.underlying t=some (.slice (P.elem t)):=by rw [hel];exact hu
 have hz:∀w,(sizeOf (P.elem t)).run P w= .ok j.size w:=fun w=>by rw [hel];exact B9 hj w
 rw [run_sliceAt_slice w t _ _ _ _ hu']
 rcases hl with ⟨rfl,rfl⟩|⟨k1,rfl⟩<;>rcases hh with ⟨rfl,rfl⟩|⟨k2,rfl⟩
 ·rw [run_slice_all w t a len cap hu',hz];simp [Result.andThen]
 ·rw [run_slice_h w t a len cap hu' k2 h h1 A7,hz];simp [Result.andThen]
 ·rw [run_slice_l w t a len cap hu' k1 l h0 A7,hz];simp [Result.andThen]
 rw [run_slice_lh w t a len cap hu' k1 k2 l h h0 h1 A7,hz];simp [Result.andThen]
variable {es : Nat} {row : Nat → List Ad}
theorem C9s {w:World}{A:Nat→Prop}{n:Nat}{v:Value}(hr:Qz w A (.sl n es row) v)(h0:0≤l)(h1:l≤h)(h2:h≤n){c:Ad}(hc:Xj n es row l h c):
  ∃a cap,v= .slice a n cap∧n≤cap∧Qz w A c (sliced a l.toNat h.toNat cap es):=by
 obtain ⟨row',rfl,hrow⟩:=hc
 cases hr with
 |nil=>
  refine ⟨none,0,rfl,Bu _,?_⟩;have e1:l=0:=by omega
  have e2:h=0:=by omega
  subst e1;subst e2;exact .nil _ _
 |emp _ _ a=>
  refine ⟨some a,0,rfl,Bu _,?_⟩;have e1:l=0:=by omega
  have e2:h=0:=by omega
  subst e1;subst e2;exact .emp _ _ a
 |sl _ _ _ b off cap u hA hn hcap hl hu hrr=>
  refine ⟨_,cap,rfl,hn,?_⟩;obtain ⟨p,rfl⟩:∃p:Nat,l=p:=⟨l.toNat,by omega⟩;obtain ⟨q,rfl⟩:∃q:Nat,h=q:=⟨h.toNat,by omega⟩;have e:((q:Int)-p).toNat=q-p:=by omega
  simp only [Cp] at hrow ⊢;rw [e] at hrow ⊢;unfold sliced
  by_cases hcl:cap=p
  ·have e1:q-p=0:=by omega
   have e2:cap-p=0:=by omega
   rw [Ah hcl,e1,e2];exact .emp _ _ _
  rw [Ab hcl]
  have ea:(some (⟨b,off,none⟩:Addr)).map (fun x=>x.add (p * es))=some ⟨b,off+p * es,none⟩:=by
   simp only [Qv,Addr.add]
   split
   ·rename_i h;rw [h];rfl
   rfl
  have eb:(some (⟨b,off,none⟩:Addr)).map (·.add (p * es))=some ⟨b,off+p * es,none⟩:=ea;rw [eb];refine .sl (q-p) es row' b (off+p * es) (cap-p) (fun i j=>u (p+i) j) (fun h=>hA ?_) A7 A7 (fun i hi=>?_) (fun i j hi hj=>?_) (fun i j c hi hj=>?_)
  ·exact Kk h (Kl _ A7)
  ·rw [hrow i hi];exact hl _ A7
  ·have:=hu (p+i) j A7 hj
   rw [G1] at this;rw [show off+p * es+i * es+j=off+(p * es+i * es)+j by omega]
   exact this
  rw [hrow i hi] at hj;exact hrr (p+i) j c A7 hj
theorem P9 (hT:C0 P T){B:Er}{Q:Exit→Act→World→Prop}{q:Bool}{all:Array Oper}{o:Oper}{rest:List Oper}{K:List KI}{s:AS}{t e:TypeId}{x:Operand}{lo hi:Option Operand}{i j:TI}{n:Nat}(hh:(o.guard,o.op,find T t,i.elem,find T e,s.ev x,es,bnd s lo 0,bnd s hi n)=(none,.slice t x lo hi none,some i,some e,some j,.c (.sl n es row),j.size,some l,some h))(hb:0≤l∧l≤h∧h≤n)(c:Ad)(hc:Xj n es row l h c)(hgo:GW P B Q (.ops q all rest::K) (s.put o.dst (.c c))):GW P B Q (.ops q all (o::rest)::K) s:=by
 simp only [Jh] at hh;obtain ⟨hg,ho,hi',he,hj,hx,hes,hl,hh⟩:=hh;subst hes;refine ⟨Eb hg (fun E a w hs=>?_)⟩;have hd:=hs.ev x;rw [hx] at hd
 cases hd with
 |c hr=>
  obtain ⟨ad,cap,hv,hcap,hrep⟩:=C9s hr hb.1 hb.2.1 hb.2.2 hc;have h1:=L3 hs hl;have h2:=L3 hs hh;refine ⟨_,fun w' _=>?_,hgo.rec fun hg=>hg _ _ _ (hs.put o.dst (.c hrep))⟩;have hrun:=B2u (a:=ad) (hT t i hi') he (hT e j hj) h1 h2 hb.1 hb.2.1 hb.2.2 hcap w';obtain ⟨dst,op',ty,pos,after,guard⟩:=o
  simp only at ho
  subst ho
  simp [execOp,hv,hrun]
theorem X8 {α:Type} [Inhabited α] {e:α→List Ad}{xs:List α}(h0:0≤l)(h1:l≤h)(h2:h≤xs.length):
  Xj xs.length es (fun i=>e (xs.getD i default)) l h (Mu es e ((xs.drop l.toNat).take (h-l).toNat)):=by
 have hlen:((xs.drop l.toNat).take (h-l).toNat).length=(h-l).toNat:=by simp;omega
 refine ⟨_,by rw [Mu,hlen],fun i hi=>?_⟩
 simp [List.getD,hi]
end Go.Sx
set_option maxRecDepth 100000
namespace Go.Sx
open Go
open Go.RowKit (Below)
variable {P : Program} {T : List (TypeId × TI)}
def Ex (P:Program) (H:World→Prop) (f:FuncId) (ins ax:List Hb):Prop:=
 Lm P f∧∀(w:World),H w→∀(vs:List Value),vs.length=ins.length→(∀i x,ins[i]? =some x→P3 w (fun _=>False) x (vs.getD i undef))→
  Calls P f vs.toArray w fun e w'=>Jp w w' ax e
def A4k (H:World→Prop):Prop:=∀w w',Below w.heap.size w w'→H w→H w'
variable {W : World}
theorem Mw {w:World}(h:Er.rel ⟨W,fun _=>False⟩ w):Below W.heap.size W w:=⟨h.os,h.tape,h.output,h.size,fun k hk=>h.block k hk (fun h=>h)⟩
variable {H : World → Prop} {Q : Exit → Act → World → Prop} {q : Bool} {f : FuncId} {xs : List AV} {dst : Option Tmp} {K : List KI} {s : AS} {ins : List Hb} {ax : List Hb}
theorem C1b (hf:Ex P H f ins ax)(hst:A4k H)(hW:H W)(hx:Ir s xs=some ins)(h:G P ⟨W,fun _=>False⟩ Q K ((Gi ax s).2.put dst (Gi ax s).1)):A2i P ⟨W,fun _=>False⟩ Q q f xs dst K s:=by
 refine ⟨hf.1,fun E a w hs vs hl hv=>?_⟩;obtain ⟨h1,h2⟩:=Is hx;refine (hf.2 w (hst W w (Mw hs.base) hW) vs A7 (fun i x hi=>?_)).mono (fun e w' hg=>?_)
 ·obtain ⟨y,hy,hc⟩:=h2 i x hi
  exact K4 hs hc (hv i y hy)
 obtain ⟨hb,rs,fps,rfl,hrl,hro,hfr,hdis⟩:=hg;have hA:=hs.call hb
 obtain ⟨E',hAd,hL,hD⟩:=M6 ax rs fps s E hA hrl hro (fun i hi=>(hfr i hi).1) hdis (fun i hi b hb'=>by
  have hge:=(hfr i hi).2 b hb';refine ⟨.inr hge,fun hav=>?_,.inl (G0 hs.base.size hge)⟩
  have:=hs.avoid_lt hav
  omega)
 have hres:=G7 ax (Do ax s).1 rs hrl hL hD;rw [Sg] at h;exact ⟨_,rfl,fun _=> .of_below hb,h E' _ w' ((hAd.isA.put dst hres).is)⟩
theorem C4h (hf:Ex P H f ins ax)(hst:A4k H)(hW:H W)(hx:Ir s xs=some ins)(h:G P ⟨W,fun _=>False⟩ Q K (s.put dst (Pi ax))):A2i P ⟨W,fun _=>False⟩ Q q f xs dst K s:=by
 refine ⟨hf.1,fun E a w hs vs hl hv=>?_⟩;obtain ⟨h1,h2⟩:=Is hx;refine (hf.2 w (hst W w (Mw hs.base) hW) vs A7 (fun i x hi=>?_)).mono (fun e w' hg=>?_)
 ·obtain ⟨y,hy,hc⟩:=h2 i x hi
  exact K4 hs hc (hv i y hy)
 obtain ⟨hb,rs,fps,rfl,hrl,hro,hfr,hdis⟩:=hg;have hI:=(hs.call hb).is
 have hno:∀i,i<ax.length→∀b∈fps i,¬ s.ag E b:=fun i hi b hb' hav=>by
  have:=hs.avoid_lt hav
  have:=(hfr i hi).2 b hb'
  omega
 have hone:∀i y,ax[i]? =some y→D0 E w' (s.ag E) s.next (Lb y) (rs.getD i undef):=by
  intro i y hy;have hi:i<ax.length:=(Cu.1 hy).1;have ho:=hro i y hy
  cases y with
  |one c=>exact .c (Bz.rep ho (hno i hi))
  |agg cs=>
   obtain ⟨us,gps,hu,hul,hur,hfp⟩:=ho;rw [hu];refine .agg us (by simp [hul]) (fun j x hj=>?_);simp only [Ec,E9] at hj;obtain ⟨c,hc,rfl⟩:=hj;have hj:j<cs.length:=(Cu.1 hc).1;exact .c ((hur j c hc).rep (fun b hb'=>hno i hi b (by rw [hfp];exact Dp hj hb')))
  |ptr cs=>exact ho.elim
  |fn f ao=>exact ho.elim
 have hres:D0 E w' (s.ag E) s.next (Pi ax) (J6 rs):=by
  have:=G7 (E:=E) (A:=s.ag E) (N:=s.next) (w:=w') ax (ax.map Lb) rs hrl Ef (fun i x hi=>by
   simp only [Ec,E9] at hi;obtain ⟨y,hy,rfl⟩:=hi
   exact hone i y hy)
  match ax,this with
  | [],this=>exact this
  | [o],this=>exact this
  |o1::o2::r,this=>exact this
 exact ⟨_,rfl,fun _=> .of_below hb,h E _ w' (hI.put dst hres)⟩
theorem C8g {fn:Func}{c:Code}(hf:P.funcs[f]? =some fn)(hb:fn.body=some c)(hn:(fn.name== "runtime.NumGoroutine")=false)(h:∀W,H W→G P ⟨W,fun _=>False⟩ (bodyPost P fn fun e w'=>Jp W w' ax e) [.code c] (Dg fn.ntmps ins)):Ex P H f ins ax:=by
 refine ⟨⟨fn,hf,hn,by simp [hb]⟩,fun w hH vs hl hv=>calls_of_wp hf hb ?_⟩
 refine h w hH ⟨fun _=> .slice none 0 0,fun _=>[]⟩ _ w ?_
 have nav:∀b,¬ (Dg fn.ntmps ins).ag ⟨fun _=> .slice none 0 0,fun _=>[]⟩ b:=by
  rintro b (⟨x,hx,_⟩|⟨y,hy,_⟩)
  ·simp [Dg] at hx
  simp [Dg] at hy
 have nb:∀x,x∉(Dg fn.ntmps ins).aw:=by simp [Dg]
 have no:∀x,x∉(Dg fn.ntmps ins).own:=by simp [Dg]
 refine ⟨rfl,by simp [Dg],by simp [Dg,hl],fun i x hx=>?_,fun x hx=>absurd hx (nb x),fun x hx=>absurd hx (nb x),by simp [Dg],fun y hy=>absurd hy (no y),by simp [Dg],fun y hy=>absurd hy (no y),fun x hx=>absurd hx (nb x),fun _ _=>rfl,
  ⟨rfl,rfl,rfl,Bu _,fun _ _ _=>rfl⟩,fun b hb=>absurd hb (nav b)⟩
 simp only [Dg] at hx
 by_cases hi:i<ins.length
 ·rw [F3 (by simpa using hi)] at hx
  simp only [Ec,E9] at hx;obtain ⟨y,hy,rfl⟩:=hx;have hr:=hv i y hy;have hiv:i<vs.length:=by omega
  have e:(vs.toArray++Array.replicate (fn.ntmps-vs.toArray.size) undef).getD i undef=vs.getD i undef:=by
   simp [Array.getD,List.getD,hiv,show i<vs.length+(fn.ntmps-vs.length) by omega]
  rw [e]
  cases y with
  |one c=>exact .c (hr.move (fun _ _ _=>rfl) (fun b _ hb=>absurd hb (nav b)))
  |agg cs=>
   obtain ⟨us,hu,hul,hur⟩:=hr;rw [hu];refine .agg us (by simp [hul]) (fun j x hj=>?_);simp only [Ec,E9] at hj;obtain ⟨c,hc,rfl⟩:=hj;exact .c ((hur j c hc).move (fun _ _ _=>rfl) (fun b _ hb=>absurd hb (nav b)))
  |ptr cs=>exact hr.den (fun b hb=>absurd hb (nav b))
  |fn f ao=>
   obtain ⟨us,hu,hul,hur⟩:=hr;rw [hu];refine .fn us (by simp [hul]) (fun j x hj=>?_);simp only [Ec,E9] at hj;obtain ⟨c,hc,rfl⟩:=hj;have hr:=hur j c hc
   cases c with
   |one c=>exact .c (Qz.move hr (fun _ _ _=>rfl) (fun b _ hb=>absurd hb (nav b)))
   |ptr cs=>exact Q5.den hr (fun b hb=>absurd hb (nav b))
 rw [F8 P4] at hx
 obtain rfl:AV.any=x:=by
  have:=Hr hx
  simpa using (Ug this).symm
 exact .any _
theorem Kq (hT:C0 P T)(wr:Bool){fn:Func}{c:Code}(hf:P.funcs[f]? =some fn)(hb:fn.body=some c)(hn:(fn.name== "runtime.NumGoroutine")=false)(h:∀W,H W→vcW P ⟨W,fun _=>False⟩ (bodyPost P fn fun e w'=>Jp W w' ax e) (P7 T wr 100000 [.code c] (Dg fn.ntmps ins))):Ex P H f ins ax:=
 C8g hf hb hn fun W hW=>(go hT wr (h W hW)).rec id
theorem C4e (hf:Ex P H f ins ax)(hst:A4k H)(hW:H W)(hx:Ir s xs=some ins)(h:GW P ⟨W,fun _=>False⟩ Q K ((Gi ax s).2.put dst (Gi ax s).1)):CW P ⟨W,fun _=>False⟩ Q q f xs dst K s:=⟨C1b hf hst hW hx (h.rec id)⟩
theorem F4 (hf:Ex P H f ins ax)(hst:A4k H)(hW:H W)(hx:Ir s xs=some ins)(h:GW P ⟨W,fun _=>False⟩ Q K (s.put dst (Pi ax))):CW P ⟨W,fun _=>False⟩ Q q f xs dst K s:=⟨C4h hf hst hW hx (h.rec id)⟩
end Go.Sx
set_option maxRecDepth 100000
namespace Go.Sx
open Go
def Ls (u:Nat):Nat→Nat
 | 0=>u
 |k+1=>Ls u k / 10
def A9b (u:Nat):Nat→List UInt8
 | 0=>[]
 |k+1=>UInt8.ofNat (48+Ls u k % 10)::A9b u k
theorem B5z (u k:Nat):(A9b u k).length=k:=by
 induction k with
 |zero=>rfl
 |succ k ih=>simp [A9b,ih]
theorem B9u (u k:Nat):Ls u k=u / 10 ^ k:=by
 induction k with
 |zero=>simp [Ls]
 |succ k ih=>rw [Ls,ih,Nat.div_div_eq_div_mul,Nat.pow_succ]
def C7u (u k:Nat):Prop:=(0<Ls u k∧Lib.decDigits u=Lib.decDigits (Ls u k)++A9b u k)∨(Ls u k=0∧Lib.decDigits u=A9b u k)
theorem C1q {u:Nat}(h:0<u):C7u u 0:= .inl ⟨h,by simp [Ls,A9b]⟩
theorem A90 {u k:Nat}(h:C7u u k)(hm:0<Ls u k):C7u u (k+1):=by
 rcases h with ⟨_,h⟩|⟨h,_⟩
 ·by_cases hs:Ls u k<10
  ·refine .inr ⟨by rw [Ls];omega,?_⟩
   rw [h,Lib.decDigits,dif_pos hs,A9b,A76 hs];rfl
  refine .inl ⟨by rw [Ls];omega,?_⟩;rw [h,Lib.decDigits,dif_neg hs,A9b,Ls];simp
 omega
theorem C88 (u k:Nat):Ls u k≤u:=by rw [B9u];exact Nat.div_le_self _ _
theorem D1e {u k:Nat}(hu:u≤9223372036854775808)(hm:0<Ls u k):k<19:=by
 rw [B9u] at hm
 by_cases h:k<19
 ·exact h
 exfalso
 have h1:10 ^ 19≤10 ^ k:=Nat.pow_le_pow_right Bk A7;have h2:u<10 ^ k:=Kk A7 h1;rw [Nat.div_eq_of_lt h2] at hm;omega
theorem D1s {σ:Int}(hσ:σ=1∨σ= -1)(m:Nat):(σ * (m:Int)).tdiv 10=σ * ((m / 10:Nat):Int):=by
 rcases hσ with rfl|rfl
 ·simp only [Int.one_mul];rw [Int.tdiv_eq_ediv_of_nonneg A7];omega
 rw [show (-1:Int) * (m:Int)= -(m:Int) by omega,Int.neg_tdiv,Int.tdiv_eq_ediv_of_nonneg A7];omega
theorem D1t {σ:Int}(hσ:σ=1∨σ= -1)(m:Nat):(σ * (m:Int)).tmod 10=σ * ((m % 10:Nat):Int):=by
 rcases hσ with rfl|rfl
 ·simp only [Int.one_mul];rw [Int.tmod_eq_emod_of_nonneg A7];omega
 rw [show (-1:Int) * (m:Int)= -(m:Int) by omega,Int.neg_tmod,Int.tmod_eq_emod_of_nonneg A7];omega
def Gf (n:Int):ByteArray:=⟨(Lib.itoa n).toArray⟩
end Go.Sx
set_option maxRecDepth 100000
namespace Go.Sx
open Go
open Go.RowKit (Below)
variable {P : Program}
variable {w : World}
theorem Wz {w':World}{x:Value}(hb:Below w.heap.size w w')(h:x.oneCell'=true):Jp w w' [.one (.val x)] (.returned x):=
 ⟨hb,[x],fun _=>[],rfl,rfl,fun i y hi=>by
  cases i with
  |zero=>simp only [H3,Em] at hi;subst hi;exact .val x h
  |succ i=>simp at hi,fun i hi=>⟨List.nodup_nil,fun b hb=>by cases hb⟩,fun i j hi hj hne b hb=>by cases hb⟩
theorem U1 {A:Nat→Prop}{x v:Value}(h:Qz w A (.val x) v):v=x:=by
 cases h;rfl
theorem B6w (w:World)(k:Nat)(os:Array Obj):Below w.heap.size w (Sort.grow (w.drewN k) os):=
 ⟨rfl,rfl,rfl,by rw [Sort.size_grow];exact Uk _ _,fun i hi=>(Sort.heap_grow_old (w.drewN k) os hi)⟩
theorem Xf {n:String}{cs:Array Value}{w':World}(hb:Below w.heap.size w w')(h:w.var? P n=some cs):w'.var? P n=some cs:=by
 unfold World.var? at h ⊢
 cases hg:P.globalNamed n with
 |none=>rw [hg] at h;cases h
 |some g=>
  rw [hg] at h;simp only [Option.bind_some] at h ⊢
  have hlt:g<w.heap.size:=by
   by_cases hlt:g<w.heap.size
   ·exact hlt
   exfalso;rw [Array.getElem?_eq_none A7] at h;cases h
  rw [hb.block g hlt];exact h
theorem Zj {α:Type} [Inhabited α] {es:Nat}{e:α→List Ad}{x:α}{row:Nat→List Ad}(h0:row 0=e x):
  Kn (.sl 1 es row) (Mu es e [x]):=by
 refine ⟨rfl,rfl,fun i hi=>?_⟩
 match i,hi with
 | 0,_=>rw [h0];exact I5.rfl' _
theorem Xl (a:Array UInt8):(ByteArray.mk a).size=a.size:=rfl
theorem Cl {n:Int}(h:Js .i64 n):(Gf n).size≤21:=by
 rw [Gf,Xl,Gh];exact Lib.itoa_length_le n h.1 h.2
theorem B1g (b:UInt8)(l:List UInt8):(ByteArray.mk #[b])++(ByteArray.mk l.toArray)=ByteArray.mk (b::l).toArray:=by
 apply Qx
 simp [Wp]
theorem Gv {n lo hi:Int}:F0 n lo hi=false↔¬ (lo≤n∧n≤hi):=by
 rw [←Dj];simp
end Go.Sx
set_option maxRecDepth 100000
namespace Go.Sx
open Go
open Go.RowKit (Below)
variable {P : Program} {T : List (TypeId × TI)}
variable {Q : Exit → Act → World → Prop}
theorem C76 (hT:C0 P T)(wr:Bool){J:Type}{B:Er}{c:Code}{K:List KI}{s:AS}(fs:List Nat)(us:J→List (Nat×AV))(bs:J→List Bx)(os:J→List Ow)(φ:J→Prop)(h1:vcW P B Q (P7 T wr 100000 (.code c:: .loop (Inv B (fun j=>s.upd fs (us j) (bs j) (os j)) φ (fun _=>0) 1)::K) s))(h2:∀j,φ j→vcW P B Q (upK s.ac 0 fs (us j) fun ac=>P7 T wr 100000 K {s with ac:=ac,aw:=bs j,own:=os j})):GW P B Q (.code c::K) s:=by
 refine ⟨fun E a w hs=>?_⟩;have g1:G P B Q (.code c:: .loop (Inv B (fun j=>s.upd fs (us j) (bs j) (os j)) φ (fun _=>0) 1)::K) s:=(go hT wr h1).rec id;refine Code.wp_mono (fun e a' w' hq=>?_) (g1 E a w hs)
 cases e with
 |normal=>
  obtain ⟨j,hj,_,E',hE'⟩:=(hq:Inv B (fun j=>s.upd fs (us j) (bs j) (os j)) φ (fun _=>0) 1 a' w');have g2:G P B Q K (s.upd fs (us j) (bs j) (os j)):=(go hT wr (by have:=h2 j hj;rw [C7n] at this;exact this)).rec id;exact g2 E' a' w' hE'
 |exit id=>exact hq
 |goto l=>exact hq
 |ret=>exact hq
 |panic c=>exact hq
 |outgrown=>exact hq
theorem C4y (n:Nat)(hT:C0 P T)(wr:Bool){f:FuncId}{fn:Func}{c:Code}{ins ax:List Hb}(hf:P.funcs[f]? =some fn)(hb:fn.body=some c)(hn:(fn.name== "runtime.NumGoroutine")=false)
  (h:∀W,vcW P ⟨W,fun _=>False⟩ (bodyPost P fn fun e w'=>Jp W w' ax e) (P7 T wr n [.code c] (Dg fn.ntmps ins))):Sf P f ins ax:=
 enter hf hb hn fun W=>C61 hT wr n _ _ (B8z _ (h W))
theorem goF (n:Nat)(hT:C0 P T)(wr:Bool){B:Er}{K:List KI}{s:AS}(h:vcW P B Q (P7 T wr n K s)):GW P B Q K s:=
 ⟨C61 hT wr n _ _ (B8z _ h)⟩
theorem C9r {w:World}{A:Nat→Prop}{xs:List ByteArray}{v:Value}(h:Qz w A (En xs) v):
  (∃a c,v= .slice a 0 c∧xs=[])∨(∃b o c,v= .slice (some ⟨b,o,none⟩) xs.length c∧xs.length≤c∧∀(j:Nat) x,xs[j]? =some x→w.cell? ⟨b,o+j,none⟩=some (.string x)):=by
 change Qz w A (.sl xs.length 1 fun i=>[vs (xs.getD i default)]) v at h
 generalize hn:xs.length=n at h;generalize hrow:(fun i=>[vs (xs.getD i default)])=row at h
 cases h with
 |nil=>exact .inl ⟨none,0,rfl,Pk hn⟩
 |emp=>exact .inl ⟨_,0,rfl,Pk hn⟩
 |sl=>
  rename_i b off cap u hc hn' hA hu hr hl
  refine .inr ⟨b,off,cap,rfl,hn',fun j x hx=>?_⟩;have hj:j<xs.length:=(Cu.1 hx).1;have h1:=hu j 0 A7 A7;have h2:=hr j 0 (vs x) A7 (by rw [←hrow];simp [List.getD,hx]);rw [Nat.mul_one,T3] at h1;rw [h1];exact A6 some (U1 h2)
def Cf (l:List ByteArray):ByteArray:=⟨(Lib.join (l.map (·.data.toList)) [32]).toArray⟩
theorem C2a (l:List (List UInt8))(t sep:List UInt8)(h:l≠[]):Lib.join (l++[t]) sep=Lib.join l sep++sep++t:=by
 match l,h with
 |x::r,_=>
  rw [Qw,Lib.join_cons,Lib.join_cons]
  simp [Lib.joinTail]
theorem C19 (t:ByteArray):Cf [t]=t:=by
 simp [Cf,Lib.join_one]
theorem A52 (l:List ByteArray)(t:ByteArray)(h:l≠[]):Cf (l++[t])=Cf l++⟨#[32]⟩++t:=by
 apply Qx
 simp only [Cf,Uu,I8,Z9,Wp];rw [C2a _ _ _ (by simpa using h)]
 simp
end Go.Sx
set_option maxRecDepth 100000
namespace Go.Sx
open Go
open Go.RowKit (Below)
variable {P : Program} {T : List (TypeId × TI)}
def A4f (P:Program) (H:World→Prop) (f:FuncId) (ins:List Hb) {ι:Type} (φ:ι→Prop) (ax:ι→List Hb):Prop:=
 Lm P f∧∀(w:World),H w→∀(vs:List Value),vs.length=ins.length→(∀i x,ins[i]? =some x→P3 w (fun _=>False) x (vs.getD i undef))→
  Calls P f vs.toArray w fun e w'=>∃i,φ i∧Jp w w' (ax i) e
theorem B6z {W:World}{H:World→Prop}{Q:Exit→Act→World→Prop}{q:Bool}{f:FuncId}{xs:List AV}{dst:Option Tmp}{K:List KI}{s:AS}{ins:List Hb}{ι:Type}{φ:ι→Prop}{ax:ι→List Hb}
  (hf:A4f P H f ins φ ax)(hst:A4k H)(hW:H W)(hx:Ir s xs=some ins)
  (h:∀i,φ i→GW P ⟨W,fun _=>False⟩ Q K (s.put dst (Pi (ax i)))):CW P ⟨W,fun _=>False⟩ Q q f xs dst K s:=by
 refine ⟨⟨hf.1,fun E a w hs vs hl hv=>?_⟩⟩;obtain ⟨h1,h2⟩:=Is hx;refine (hf.2 w (hst W w (Mw hs.base) hW) vs A7 (fun i x hi=>?_)).mono (fun e w' ⟨k,hk,hg⟩=>?_)
 ·obtain ⟨y,hy,hc⟩:=h2 i x hi
  exact K4 hs hc (hv i y hy)
 ·
  have hone:Ex P (fun _=>True) f ins (ax k)→True:=fun _=>trivial
  obtain ⟨hb,rs,fps,rfl,hrl,hro,hfr,hdis⟩:=hg;have hI:=(hs.call hb).is
  have hno:∀i,i<(ax k).length→∀b∈fps i,¬ s.ag E b:=fun i hi b hb' hav=>by
   have:=hs.avoid_lt hav
   have:=(hfr i hi).2 b hb'
   omega
  have hone:∀i y,(ax k)[i]? =some y→D0 E w' (s.ag E) s.next (Lb y) (rs.getD i undef):=by
   intro i y hy;have hi:i<(ax k).length:=(Cu.1 hy).1;have ho:=hro i y hy
   cases y with
   |one c=>exact .c (Bz.rep ho (hno i hi))
   |agg cs=>
    obtain ⟨us,gps,hu,hul,hur,hfp⟩:=ho;rw [hu];refine .agg us (by simp [hul]) (fun j x hj=>?_);simp only [Ec,E9] at hj;obtain ⟨c,hc,rfl⟩:=hj;have hj:j<cs.length:=(Cu.1 hc).1;exact .c ((hur j c hc).rep (fun b hb'=>hno i hi b (by rw [hfp];exact Dp hj hb')))
   |ptr cs=>exact ho.elim
   |fn f ao=>exact ho.elim
  have hres:D0 E w' (s.ag E) s.next (Pi (ax k)) (J6 rs):=by
   have:=G7 (E:=E) (A:=s.ag E) (N:=s.next) (w:=w') (ax k) ((ax k).map Lb) rs hrl Ef (fun i x hi=>by
    simp only [Ec,E9] at hi;obtain ⟨y,hy,rfl⟩:=hi
    exact hone i y hy)
   match (ax k),this with
   | [],this=>exact this
   | [o],this=>exact this
   |o1::o2::r,this=>exact this
  exact ⟨_,rfl,fun _=> .of_below hb,(h k hk).rec fun g=>g E _ w' (hI.put dst hres)⟩
theorem A1h {w w':World}{x y:Value}(hb:Below w.heap.size w w')(hx:x.oneCell'=true)(hy:y.oneCell'=true):Jp w w' [.one (.val x),.one (.val y)] (.returned (.tuple #[x,y])):=
 ⟨hb,[x,y],fun _=>[],rfl,rfl,fun i z hi=>by
  match i,hi with
  | 0,hi=>simp only [H3,Em] at hi;subst hi;exact .val x hx
  | 1,hi=>simp only [List.getElem?_cons_succ,H3,Em] at hi;subst hi;exact .val y hy
  |i+2,hi=>simp at hi,fun i hi=>⟨List.nodup_nil,fun b hb=>by cases hb⟩,fun i j hi hj hne b hb=>by cases hb⟩
end Go.Sx
set_option maxRecDepth 100000
namespace Go.Sx
open Go
variable {P : Program} {T : List (TypeId × TI)}
variable {t : TypeId}
theorem B8d (ht:P.underlying t=some .string){b:ByteArray}{lo hi':Option Value}{l h:Int}(hl:C3l lo l 0)(hh:C3l hi' h b.size)(h0:0≤l)(h1:l≤h)(h2:h≤b.size)(w:World):
  (Instr.sliceAt t (.string b) lo hi' none).run P w= .ok (.string (b.extract l.toNat h.toNat)) w:=by
 rw [run_sliceAt_string w t _ _ _ _ ht]
 rcases hl with ⟨rfl,rfl⟩|⟨k1,rfl⟩<;>rcases hh with ⟨rfl,rfl⟩|⟨k2,rfl⟩
 ·rw [run_slice_string_all w t b ht];simp
 ·rw [run_slice_string_h w t b ht k2 h h1 h2];simp
 ·rw [run_slice_string_l w t b ht k1 l h0 A7];simp
 rw [run_slice_string w t b k1 k2 l h ht h0 h1 h2]
variable {Q : Exit → Act → World → Prop} {all : Array Oper} {rest : List Oper}
theorem A38 (hT:C0 P T){B:Er}{q:Bool}{o:Oper}{K:List KI}{s:AS}{x:Operand}{lo hi:Option Operand}{i:TI}(hg:o.guard=none)(ho:o.op= .slice t x lo hi none)(hi':find T t=some i)(hstr:i.str=true){b:ByteArray}(hx:s.ev x= .c (vs b)){l h:Int}(hl:bnd s lo 0=some l)(hh:bnd s hi b.size=some h)(hb:0≤l∧l≤h∧h≤b.size)(hgo:GW P B Q (.ops q all rest::K) (s.put o.dst (.c (vs (b.extract l.toNat h.toNat))))):GW P B Q (.ops q all (o::rest)::K) s:=by
 refine ⟨Eb hg (fun E a w hs=>?_)⟩;have hd:=hs.ev x;rw [hx] at hd;have e:=B3 hd;have h1:=L3 hs hl;have h2:=L3 hs hh;have hden:∀{E:Fl} {w:World} {A:Nat→Prop} {N:Nat} (v:Value),v.oneCell'=true→D0 E w A N (.c (.val v)) v:=fun v hv=> .c (.val v hv);refine ⟨_,fun w' _=>?_,hgo.rec fun hg=>hg _ _ _ (hs.put o.dst (hden _ rfl))⟩;have hrun:=B8d (Qs (hT t i hi') hstr) h1 h2 hb.1 hb.2.1 hb.2.2 w';obtain ⟨dst,op',ty,pos,after,guard⟩:=o
 simp only at ho
 subst ho
 simp [execOp,e,hrun]
theorem D14 {B:Er}{q:Bool}{o:Oper}{K:List KI}{s:AS}{u:TypeId}{x:Operand}{v:Value}(hg:o.guard=none)(ho:o.op= .binOp .neq t x (.const .nilIface) u)(hu:P.underlying t=some (.interface (P.methodsAt t)))(hx:s.ev x= .c (.val v)){r:Bool}(hv:(v= .nilIface∧r=false)∨(∃y z,v= .iface y z∧r=true))(hgo:GW P B Q (.ops q all rest::K) (s.put o.dst (.c (vb r)))):GW P B Q (.ops q all (o::rest)::K) s:=by
 refine ⟨Eb hg (fun E a w hs=>?_)⟩;have hd:=hs.ev x;rw [hx] at hd;have e:=B3 hd;have hden:∀{E:Fl} {w:World} {A:Nat→Prop} {N:Nat} (v:Value),v.oneCell'=true→D0 E w A N (.c (.val v)) v:=fun v hv=> .c (.val v hv);refine ⟨.bool r,fun w' _=>?_,hgo.rec fun hg=>hg _ _ _ (hs.put o.dst (hden _ rfl))⟩;obtain ⟨dst,op',ty,pos,after,guard⟩:=o
 simp only at ho
 subst ho;have ec:a.eval (.const .nilIface)= .nilIface:=rfl
 rcases hv with ⟨rfl,rfl⟩|⟨y,z,rfl,rfl⟩
 ·simp [execOp,e,eqGuard,run_neq_nil_nil w' t hu,ec]
 simp [execOp,e,eqGuard,run_neq_held_nil w' t y z hu,ec]
end Go.Sx
set_option maxRecDepth 100000
namespace Go.Sx
open Go
def isD (b:UInt8):Prop:=48≤b.toNat∧b.toNat≤57
instance (b:UInt8):Decidable (isD b):=by unfold isD;infer_instance
def C4w (n:Nat) (b:UInt8):Nat:=10 * n+(b.toNat-48)
def Mz (acc:Nat) (l:List UInt8):Nat:=l.foldl C4w acc
theorem Ww (acc:Nat)(x:UInt8)(l:List UInt8):Mz acc (x::l)=Mz (10 * acc+(x.toNat-48)) l:=by
 simp only [Mz,List.foldl_cons,C4w]
theorem A2s (acc:Nat)(l:List UInt8)(b:UInt8):Mz acc (l++[b])=10 * Mz acc l+(b.toNat-48):=by
 simp only [Mz,A8d,List.foldl_cons,List.foldl_nil,C4w]
theorem C8b (acc:Nat)(l:List UInt8):acc≤Mz acc l:=by
 induction l generalizing acc with
 |nil=>exact Bu _
 |cons x l ih=>
  have:=ih (10 * acc+(x.toNat-48))
  rw [Ww];omega
theorem C8c (l:List UInt8)(h:∀b∈l,isD b):Mz 0 l<10 ^ l.length:=by
 suffices hh:∀(l:List UInt8) (acc:Nat),(∀b∈l,isD b)→Mz acc l<(acc+1) * 10 ^ l.length by simpa using hh l 0 h
 intro l
 induction l with
 |nil=>intro acc _;show acc<(acc+1) * 10 ^ 0;omega
 |cons x l ih=>
  intro acc h;have h1:=ih (10 * acc+(x.toNat-48)) (fun b hb=>h b (Cq _ hb));have hx:=h x Hq;unfold isD at hx;rw [Ww,Ep,Nat.pow_succ];refine Kk h1 ?_;rw [Qu (10 ^ l.length) 10,←Nat.mul_assoc];exact Kl _ A7
theorem Rc {d:Nat}(h:d<10):(UInt8.ofNat (48+d)).toNat=48+d:=by
 rw [UInt8.toNat_ofNat'];omega
theorem Lr (u:Nat):∀b∈Lib.decDigits u,isD b:=by
 induction u using Nat.strongRecOn with
 |_ u ih=>
  rw [Lib.decDigits]
  split
  ·rename_i h
   intro b hb;rw [Hh.1 hb,isD,Rc h];omega
  rename_i h
  intro b hb
  rcases Hg.1 hb with hb|hb
  ·exact ih _ A7 b hb
  rw [Hh.1 hb,isD,Rc A7];omega
theorem Vb (u:Nat):Mz 0 (Lib.decDigits u)=u:=by
 induction u using Nat.strongRecOn with
 |_ u ih=>
  rw [Lib.decDigits]
  split
  ·rename_i h
   rw [Ww,Rc h];simp only [Mz,List.foldl_nil];omega
  rename_i h
  rw [A2s,ih _ A7,Rc A7];omega
theorem Zm (u:Nat):Lib.decDigits u≠[]:=by
 rw [Lib.decDigits];split<;>simp
theorem A8q (k:Nat):∀u,u<10 ^ (k+1)→(Lib.decDigits u).length≤k+1:=by
 induction k with
 |zero=>
  intro u h;rw [Lib.decDigits,dif_pos (show u<10 from h)]
  exact Bu _
 |succ k ih=>
  intro u h;rw [Lib.decDigits]
  split
  ·exact Nat.succ_le_succ (Ff _)
  rw [Dn];have h':u<10 ^ (k+1) * 10:=h
  have:=ih (u / 10) A7
  exact Nat.succ_le_succ this
theorem A6q:∀(l:List UInt8) (acc:Nat),(∀b∈l,isD b)→Mz acc l≤1000000000000000000→Lib.parseUint10 acc l= .ok (Mz acc l)
 | [],_,_,_=>rfl
 |c::r,acc,h,hd=>by
  have hc:48≤c.toNat∧c.toNat≤57:=h c Hq;have hd':Mz (10 * acc+(c.toNat-48)) r≤1000000000000000000:=by rw [←Ww];exact hd
  have hge:=C8b (10 * acc+(c.toNat-48)) r;have e:acc * 10+(c.toNat-48)=10 * acc+(c.toNat-48):=by omega
  rw [Lib.parseUint10,Ah hc,Ab A7,e,Ab A7];exact A6q r _ (fun b hb=>h b (Cq _ hb)) hd'
theorem Zn (n:Nat):(Gf n).data.toList=Lib.decDigits n:=by
 rw [Gf,Lib.itoa,Ab A7];simp
theorem C35 (n:Nat)(h:n≤1000000000):Lib.atoiAll (Gf n).data.toList= .ok (n:Int):=by
 rw [Zn];have hD:=Lr n;have hv:=Vb n;have hp:=A6q (Lib.decDigits n) 0 hD A7;rw [hv] at hp;generalize hl:Lib.decDigits n=l at *
 match l,Zm n with
 | [],hne=>exact absurd hl hne
 |c::r,_=>
  have hc:48≤c.toNat∧c.toNat≤57:=hD c Hq;simp only [Lib.atoiAll];rw [Ab A7,Lib.parseMag,Ab Ef,hp]
  simp only
  rw [Ab A7,Ab A7,Ab A7]
def rd (s:ByteArray):Option Nat:=if Mz 0 s.data.toList≤1000000000∧Gf (Mz 0 s.data.toList:Nat)=s then some (Mz 0 s.data.toList) else none
variable {s : ByteArray} {n : Nat}
theorem Tz:rd s=some n↔n≤1000000000∧Gf n=s:=by
 unfold rd
 constructor
 ·intro h
  split at h
  ·rename_i hc
   obtain rfl:=Bv h;exact hc
  cases h
 rintro ⟨h1,rfl⟩
 have e:Mz 0 (Gf n).data.toList=n:=by rw [Zn,Vb]
 rw [e,Ah ⟨h1,rfl⟩]
theorem D0o (h:rd s=some n):n≤1000000000:=(Tz.1 h).1
theorem C9o (h:rd s=some n):s.size≤10:=by
 obtain ⟨h1,rfl⟩:=Tz.1 h
 have:(Gf n).size=(Gf n).data.toList.length:=(Nr).symm
 rw [this,Zn];exact A8q 9 n A7
theorem D1i (h:rd s=some n):∀b∈s.data.toList,isD b:=by
 obtain ⟨h1,rfl⟩:=Tz.1 h;rw [Zn];exact Lr n
theorem B95 (h:rd s=some n):Lib.atoiAll s.data.toList= .ok (n:Int):=by
 obtain ⟨h1,rfl⟩:=Tz.1 h;exact C35 n h1
def Pw (s:ByteArray):Int:=((rd s).getD 0:Nat)
def Ty (s:ByteArray):Bool:=(rd s).isSome
theorem Il (h:rd s=none):Pw s=0∧Ty s=false:=by simp [Pw,Ty,h]
theorem A6x (h:rd s=some n):Pw s=n∧Ty s=true:=by simp [Pw,Ty,h]
theorem B0u (s:ByteArray):0≤Pw s∧Pw s≤1000000000:=by
 cases h:rd s with
 |none=>rw [(Il h).1];omega
 |some n=>rw [(A6x h).1];have:=D0o h;omega
theorem C36 {l:List UInt8}{v:Int}(h:Lib.atoiAll l= .ok v):Js .i64 v:=by
 unfold Lib.atoiAll at h
 split at h
 ·cases h
 rename_i c r
 simp only at h
 split at h
 ·cases h
 ·cases h
 rename_i u hu
 split at h
 ·cases h
 split at h
 ·cases h
 injection h with h
 subst h
 show _∧_
 split<;>omega
end Go.Sx
set_option maxRecDepth 100000
namespace Go.Sx
open Go
def C3 (s:ByteArray) (i:Nat):UInt8:=s.data.getD i 0
def Rs (s:ByteArray):Nat→List ByteArray×Nat
 | 0=>([],0)
 |i+1=>if i<s.size∧C3 s i≠32 then Rs s i else (if (Rs s i).2<i then (Rs s i).1++[s.extract (Rs s i).2 i] else (Rs s i).1,i+1)
def okB (s:ByteArray):Prop:=∀b∈s.data.toList,32≤b.toNat∧b.toNat≤126
instance (s:ByteArray):Decidable (okB s):=by unfold okB;infer_instance
def Fw (s:ByteArray):List ByteArray:=(Lib.fields s.data.toList).map fun l=>⟨l.toArray⟩
variable {s : ByteArray}
theorem C68 {k:Nat}(h:k<s.size)(hx:C3 s k≠32):Rs s (k+1)=Rs s k:=by
 rw [Rs,Ah ⟨h,hx⟩]
theorem C0g {k:Nat}(h:¬ (k<s.size∧C3 s k≠32))(hb:(Rs s k).2<k):Rs s (k+1)=((Rs s k).1++[s.extract (Rs s k).2 k],k+1):=by
 rw [Rs,Ab h,Ah hb]
theorem B57 {k:Nat}(h:¬ (k<s.size∧C3 s k≠32))(hb:¬ (Rs s k).2<k):Rs s (k+1)=((Rs s k).1,k+1):=by
 rw [Rs,Ab h,Ab hb]
theorem B8r (s:ByteArray)(i:Nat):(Rs s i).2≤i:=by
 induction i with
 |zero=>exact Bu _
 |succ i ih=>
  rw [Rs]
  split
  ·omega
  exact Bu _
theorem C0i (s:ByteArray)(i:Nat):(Rs s i).1.length≤i:=by
 induction i with
 |zero=>exact Bu _
 |succ i ih=>
  rw [Rs]
  split
  ·omega
  simp only
  split
  ·rw [Dn];exact Nat.succ_le_succ ih
  omega
theorem Th {i:Nat}(h:i<s.size):s.data.toList.drop i=C3 s i::s.data.toList.drop (i+1):=by
 have h':i<s.data.toList.length:=by rw [Nr];exact h
 rw [A8e h']
 congr 1
 unfold C3;rw [A2f,Se (show i<s.data.size from h)]
 simp
theorem Yh {i:Nat}(h:i<s.size):C3 s i∈s.data.toList:=by
 have:=Th h
 exact A8f (by rw [this];exact Hq)
theorem A7a {b i:Nat}(h:i<s.size)(hb:b≤i):(s.data.toList.take (i+1)).drop b=(s.data.toList.take i).drop b++[C3 s i]:=by
 have h':i<s.data.toList.length:=by rw [Nr];exact h
 have e:s.data.toList.take (i+1)=s.data.toList.take i++[C3 s i]:=by
  rw [List.take_add_one,Dh h'];unfold C3;rw [A2f,Se (show i<s.data.size from h)]
  simp
 rw [e,List.drop_append_of_le_length (by rw [G2];omega)]
theorem L4 (s:ByteArray)(b i:Nat)(h:i≤s.size):(s.extract b i).data.toList=(s.data.toList.take i).drop b:=by
 rw [ByteArray.data_extract,Array.toList_extract,List.extract_eq_take_drop,List.drop_take]
theorem B9n {x:UInt8}(h:32≤x.toNat∧x.toNat≤126):Lib.isSp x=decide (x=32):=by
 have hne:∀k:UInt8,k.toNat<32→x≠k:=fun k hk e=>by rw [e] at h;omega
 rw [Lf,Nq];simp only [Lib.isSp,Yd,Rv]
 constructor
 ·rintro (((((h1|h1)|h1)|h1)|h1)|h1)
  ·exact absurd h1 (hne _ Bk)
  ·exact absurd h1 (hne _ Bk)
  ·exact absurd h1 (hne _ Bk)
  ·exact absurd h1 (hne _ Bk)
  ·exact absurd h1 (hne _ Bk)
  exact h1
 exact fun h1=> .inr h1
theorem K5 (cur:List UInt8)(b:UInt8)(l:List UInt8):Lib.fieldsGo cur (b::l)=if Lib.isSp b then (if cur.isEmpty then Lib.fieldsGo [] l else cur::Lib.fieldsGo [] l) else Lib.fieldsGo (cur++[b]) l:=by
 cases cur<;>rfl
theorem N0 (cur:List UInt8):Lib.fieldsGo cur []=if cur.isEmpty then [] else [cur]:=by
 cases cur<;>rfl
theorem C97 (s:ByteArray)(hok:okB s)(i:Nat)(hi:i≤s.size):Lib.fields s.data.toList=(Rs s i).1.map (·.data.toList)++Lib.fieldsGo ((s.data.toList.take i).drop (Rs s i).2) (s.data.toList.drop i):=by
 induction i with
 |zero=>simp [Rs,Lib.fields]
 |succ i ih=>
  have h:i<s.size:=by omega
  have hle:=B8r s i;rw [ih A7,Th h,K5,B9n (hok _ (Yh h)),Rs]
  by_cases hx:C3 s i=32
  ·rw [Ah (show decide (C3 s i=32)=true by simpa using hx),Ab (show ¬ (i<s.size∧C3 s i≠32) from fun c=>c.2 hx)]
   simp only
   have hnil:(s.data.toList.take (i+1)).drop (i+1)=[]:=List.drop_eq_nil_of_le (Ng _ _);rw [hnil]
   by_cases hb:(Rs s i).2<i
   ·have hne:((s.data.toList.take i).drop (Rs s i).2).isEmpty=false:=by
     rw [List.isEmpty_eq_false_iff,←List.length_pos_iff,Gm,G2,Nr]
     have:i<s.data.size:=h
     omega
    rw [Ab (by rw [hne];decide),Ah hb,Uu,I8,Z9,L4 s _ _ A7]
    simp
   have hne:((s.data.toList.take i).drop (Rs s i).2).isEmpty=true:=by
    rw [List.isEmpty_iff,List.drop_eq_nil_iff,G2];omega
   rw [Ah hne,Ab hb]
  rw [Ab (show ¬ decide (C3 s i=32)=true by simpa using hx),Ah (show i<s.size∧C3 s i≠32 from ⟨h,hx⟩),A7a h hle]
theorem C0h (s:ByteArray)(hok:okB s):(Rs s (s.size+1)).1=Fw s:=by
 have h:=C97 s hok s.size (Bu _);have hle:=B8r s s.size;have hsz:s.data.toList.length=s.size:=Nr;rw [Pn (Nat.le_of_eq hsz),List.drop_eq_nil_of_le (Nat.le_of_eq hsz),N0] at h;rw [Fw,h,Rs,Ab (by intro c;omega)]
 simp only
 have hmap:∀l:List ByteArray,(l.map (·.data.toList)).map (fun l=>(⟨l.toArray⟩:ByteArray))=l:=fun l=>by
  rw [We]
  conv=>rhs;rw [←List.map_id l]
  refine A8g fun x _=>?_
  simp
 by_cases hb:(Rs s s.size).2<s.size
 ·have hne:(s.data.toList.drop (Rs s s.size).2).isEmpty=false:=by
   rw [List.isEmpty_eq_false_iff,←List.length_pos_iff,Gm];omega
  rw [Ah hb,hne];simp only [T5,T6,Uu,hmap,I8,Z9]
  congr 2
  apply Qx
  apply Ul.1
  rw [L4 s _ _ (Bu _),Pn A7]
 have hne:(s.data.toList.drop (Rs s s.size).2).isEmpty=true:=by
  rw [List.isEmpty_iff,List.drop_eq_nil_iff];omega
 rw [Ab hb,hne];simp only [Mo,Gw,hmap]
def Fv (s:ByteArray):Prop:=s.size≤600∧okB s∧(Fw s).length≤12
instance (s:ByteArray):Decidable (Fv s):=by unfold Fv;infer_instance
def Gk (s:ByteArray):Bool:=decide (Fv s)
def A4 (s:ByteArray):List ByteArray:=if Fv s then Fw s else []
theorem H9 (s:ByteArray):(A4 s).length≤12:=by
 unfold A4
 split
 ·rename_i h;exact h.2.2
 exact Ff _
end Go.Sx
set_option maxRecDepth 100000
namespace Go.Sx
open Go
theorem D0g:∀{x y r r':List UInt8},32∉x→32∉y→x++32::r=y++32::r'→x=y∧r=r'
 | [],[],_,_,_,_,h=>⟨rfl,by simpa using h⟩
 | [],b::y,_,_,_,hy,h=>by
  simp only [Uw,Qw,Nf] at h;exact absurd (by rw [←h.1];exact Hq) hy
 |a::x,[],_,_,hx,_,h=>by
  simp only [Uw,Qw,Nf] at h;exact absurd (by rw [h.1];exact Hq) hx
 |a::x,b::y,_,_,hx,hy,h=>by
  simp only [Qw,Nf] at h;obtain ⟨h1,h2⟩:=D0g (fun hm=>hx (Cq _ hm)) (fun hm=>hy (Cq _ hm)) h.2;exact ⟨by rw [h.1,h1],h2⟩
theorem Uq (x y:List UInt8)(r:List (List UInt8)):Lib.join (x::y::r) [32]=x++32::Lib.join (y::r) [32]:=by
 rw [Lib.join_cons,Lib.join_cons]
 simp [Lib.joinTail]
theorem B4p:∀(p q:List (List UInt8)),p≠[]→q≠[]→(∀x∈p,32∉x)→(∀x∈q,32∉x)→Lib.join p [32]=Lib.join q [32]→p=q
 | [],_,h,_,_,_,_=>absurd rfl h
 |_::_,[],_,h,_,_,_=>absurd rfl h
 | [x],[y],_,_,_,_,h=>by rw [Lib.join_one,Lib.join_one] at h;rw [h]
 | [x],y::y'::r,_,_,hp,_,h=>by
  rw [Lib.join_one,Uq] at h;exact absurd (by rw [h];simp) (hp x Hq)
 |x::x'::r,[y],_,_,_,hq,h=>by
  rw [Lib.join_one,Uq] at h;exact absurd (by rw [←h];simp) (hq y Hq)
 |x::x'::r,y::y'::r',_,_,hp,hq,h=>by
  rw [Uq,Uq] at h;obtain ⟨h1,h2⟩:=D0g (hp x Hq) (hq y Hq) h
  have:=B4p (x'::r) (y'::r') Ef Ef (fun z hz=>hp z (Cq _ hz)) (fun z hz=>hq z (Cq _ hz)) h2
  rw [h1,this]
theorem Rh:∀(l cur:List UInt8),32∉cur→∀x∈Lib.fieldsGo cur l,32∉x
 | [],cur,hc,x,hx=>by
  rw [N0] at hx
  split at hx
  ·cases hx
  rw [Hh.1 hx];exact hc
 |b::l,cur,hc,x,hx=>by
  rw [K5] at hx;have hn:(32:UInt8)∉([]:List UInt8):=by simp
  split at hx
  ·split at hx
   ·exact Rh l [] hn x hx
   rcases C7.1 hx with rfl|hx
   ·exact hc
   exact Rh l [] hn x hx
  rename_i hb
  refine Rh l (cur++[b]) (fun hm=>?_) x hx
  rcases Hg.1 hm with hm|hm
  ·exact hc hm
  have e:=Hh.1 hm;subst e;exact hb Bk
def noB (s:ByteArray):Prop:=(32:UInt8)∉s.data.toList
theorem B7c (s:ByteArray):∀x∈Fw s,noB x:=fun x hx=>by
 obtain ⟨l,hl,rfl⟩:=Ea.1 hx
 have:=Rh s.data.toList [] Ef l hl
 simpa [noB] using this
theorem Sv (s:ByteArray):∀x∈A4 s,noB x:=fun x hx=>by
 unfold A4 at hx
 split at hx
 ·exact B7c s x hx
 cases hx
theorem Sr {p q:List ByteArray}(hp:p≠[])(hq:q≠[])(h1:∀x∈p,noB x)(h2:∀x∈q,noB x)(h:Cf p=Cf q):p=q:=by
 have h':Lib.join (p.map (·.data.toList)) [32]=Lib.join (q.map (·.data.toList)) [32]:=by
  have:=A6 (fun b:ByteArray=>b.data.toList) h
  simpa [Cf] using this
 have e:=B4p _ _ (by simpa using hp) (by simpa using hq) (fun x hx=>by obtain ⟨y,hy,rfl⟩:=Ea.1 hx;exact h1 y hy) (fun x hx=>by obtain ⟨y,hy,rfl⟩:=Ea.1 hx;exact h2 y hy) h'
 have hinj:∀(a b:List ByteArray),a.map (·.data.toList)=b.map (·.data.toList)→a=b:=by
  intro a
  induction a with
  |nil=>intro b hb;cases b with|nil=>rfl|cons _ _=>simp at hb
  |cons x a ih=>
   intro b hb
   cases b with
   |nil=>simp at hb
   |cons y b=>
    simp only [I8,Nf] at hb;rw [ih b hb.2,Qx (Ul.1 hb.1)]
 exact hinj p q e
theorem D07 {l:List UInt8}(h:∀b∈l,isD b):(32:UInt8)∉l:=fun hm=>absurd (h _ hm) Bk
theorem D0z (n:Nat):noB (Gf n):=by
 rw [noB,Zn];exact D07 (Lr n)
theorem C6q (n:Nat)(h:n≤1000000000):rd (Gf n)=some n:=Tz.2 ⟨h,rfl⟩
end Go.Sx
set_option maxRecDepth 100000
namespace Go.Sx
open Go
def Dq (p:List ByteArray) (i:Nat):Int:=if i<p.length then Pw (p.getD i default) else 0
theorem Cm (p:List ByteArray)(i:Nat):0≤Dq p i∧Dq p i≤1000000000:=by
 unfold Dq
 split
 ·exact B0u _
 omega
def Ql (p:List ByteArray) (w:Nat):Bool:=(p.drop w).all Ty
def Gg (p:List ByteArray) (w:Nat):List Int:=(p.drop w).map Pw
theorem Hs (p:List ByteArray)(w:Nat):(Gg p w).length=p.length-w:=by simp [Gg]
theorem C9m (n:Nat)(h:n≤1000000000):Ty (Gf n)=true∧Pw (Gf n)=n:=by
 have:=A6x (C6q n h)
 exact ⟨this.2,this.1⟩
variable {s : ByteArray} {k : Nat}
theorem B76 (h:k<s.size)(hx:¬ isD (C3 s k)):rd s=none:=by
 cases hr:rd s with
 |none=>rfl
 |some n=>exact absurd (D1i hr _ (Yh h)) hx
theorem C9n (h:10<s.size):rd s=none:=by
 cases hr:rd s with
 |none=>rfl
 |some n=>have:=C9o hr;omega
theorem B06 (h:k<s.size):s.data.toList.take (k+1)=s.data.toList.take k++[C3 s k]:=by
 have:=A7a (b:=0) h (Ff _)
 simpa using this
theorem C1u (h:k<s.size):Mz 0 (s.data.toList.take (k+1))=10 * Mz 0 (s.data.toList.take k)+((C3 s k).toNat-48):=by
 rw [B06 h,A2s]
theorem A43 (hs:s.size≤10)(hd:∀b∈s.data.toList.take k,isD b):Mz 0 (s.data.toList.take k)<10000000000:=by
 have h:=C8c _ hd
 have hl:(s.data.toList.take k).length≤10:=by
  rw [G2,Nr]
  have:s.data.size≤10:=hs
  omega
 exact Kk h (Nat.pow_le_pow_right Bk hl)
theorem C6r (s:ByteArray):rd s=if Mz 0 s.data.toList≤1000000000∧Gf (Mz 0 s.data.toList:Nat)=s then some (Mz 0 s.data.toList) else none:=rfl
def A9q (s:ByteArray) (k:Nat):Prop:=∀i,i<k→i<s.size→32≤(C3 s i).toNat∧(C3 s i).toNat≤126
theorem A7x (s:ByteArray):A9q s 0:=fun _ h=>absurd h (Le _)
theorem O5 (h:A9q s k)(hk:k<s.size→32≤(C3 s k).toNat∧(C3 s k).toNat≤126):A9q s (k+1):=fun i hi hs=>by
 by_cases e:i=k
 ·subst e;exact hk hs
 exact h i A7 hs
theorem C6b (h:A9q s k)(hk:s.size≤k):okB s:=fun b hb=>by
 obtain ⟨i,hi,e⟩:=Po hb;have hi':i<s.size:=by rw [Nr] at hi;exact hi
 have h1:=h i A7 hi'
 have e2:C3 s i=b:=by
  unfold C3;rw [A2f,Se (show i<s.data.size from hi'),←e]
  simp
 rw [e2] at h1;exact h1
theorem A6f (h:k<s.size)(hx:¬ (32≤(C3 s k).toNat∧(C3 s k).toNat≤126)):¬ Fv s:=fun c=>hx (c.2.1 _ (Yh h))
theorem Me (h:¬ Fv s):A4 s=[]:=Ab h
theorem Md (h:¬ Fv s):Gk s=false:=Cx h
theorem B0o (h:Fv s):A4 s=Fw s:=Ah h
theorem Mj (h:Fv s):Gk s=true:=D7 h
end Go.Sx
set_option maxRecDepth 100000
namespace Go.Sx
open Go
open Go.RowKit (Below)
variable {P : Program} {T : List (TypeId × TI)}
variable {B : Er} {Q : Exit → Act → World → Prop}
theorem RW.mono {Q':Exit→Act→World→Prop}{s:AS}(h:∀a w,Q .ret a w→Q' .ret a w)(hr:RW B Q s):RW B Q' s:=
 ⟨fun E a w hs=>h a w (hr.rec (fun g=>g E a w hs))⟩
variable {H : World → Prop} {ι : Type} {fn : Func}
theorem C8e {φ:ι→Prop}{f:FuncId}{c:Code}{ins:List Hb}{ax:ι→List Hb}(hf:P.funcs[f]? =some fn)(hb:fn.body=some c)(hn:(fn.name== "runtime.NumGoroutine")=false)(h:∀W,H W→G P ⟨W,fun _=>False⟩ (bodyPost P fn fun e w'=>∃i,φ i∧Jp W w' (ax i) e) [.code c] (Dg fn.ntmps ins)):A4f P H f ins φ ax:=by
 refine ⟨⟨fn,hf,hn,by simp [hb]⟩,fun w hH vs hl hv=>calls_of_wp hf hb ?_⟩
 refine h w hH ⟨fun _=> .slice none 0 0,fun _=>[]⟩ _ w ?_
 have nav:∀b,¬ (Dg fn.ntmps ins).ag ⟨fun _=> .slice none 0 0,fun _=>[]⟩ b:=by
  rintro b (⟨x,hx,_⟩|⟨y,hy,_⟩)
  ·simp [Dg] at hx
  simp [Dg] at hy
 have nb:∀x,x∉(Dg fn.ntmps ins).aw:=by simp [Dg]
 have no:∀x,x∉(Dg fn.ntmps ins).own:=by simp [Dg]
 refine ⟨rfl,by simp [Dg],by simp [Dg,hl],fun i x hx=>?_,fun x hx=>absurd hx (nb x),fun x hx=>absurd hx (nb x),by simp [Dg],fun y hy=>absurd hy (no y),by simp [Dg],fun y hy=>absurd hy (no y),fun x hx=>absurd hx (nb x),fun _ _=>rfl,
  ⟨rfl,rfl,rfl,Bu _,fun _ _ _=>rfl⟩,fun b hb=>absurd hb (nav b)⟩
 simp only [Dg] at hx
 by_cases hi:i<ins.length
 ·rw [F3 (by simpa using hi)] at hx
  simp only [Ec,E9] at hx;obtain ⟨y,hy,rfl⟩:=hx;have hr:=hv i y hy;have hiv:i<vs.length:=by omega
  have e:(vs.toArray++Array.replicate (fn.ntmps-vs.toArray.size) undef).getD i undef=vs.getD i undef:=by
   simp [Array.getD,List.getD,hiv,show i<vs.length+(fn.ntmps-vs.length) by omega]
  rw [e]
  cases y with
  |one c=>exact .c (hr.move (fun _ _ _=>rfl) (fun b _ hb=>absurd hb (nav b)))
  |agg cs=>
   obtain ⟨us,hu,hul,hur⟩:=hr;rw [hu];refine .agg us (by simp [hul]) (fun j x hj=>?_);simp only [Ec,E9] at hj;obtain ⟨c,hc,rfl⟩:=hj;exact .c ((hur j c hc).move (fun _ _ _=>rfl) (fun b _ hb=>absurd hb (nav b)))
  |ptr cs=>exact hr.den (fun b hb=>absurd hb (nav b))
  |fn f ao=>
   obtain ⟨us,hu,hul,hur⟩:=hr;rw [hu];refine .fn us (by simp [hul]) (fun j x hj=>?_);simp only [Ec,E9] at hj;obtain ⟨c,hc,rfl⟩:=hj;have hr:=hur j c hc
   cases c with
   |one c=>exact .c (Qz.move hr (fun _ _ _=>rfl) (fun b _ hb=>absurd hb (nav b)))
   |ptr cs=>exact Q5.den hr (fun b hb=>absurd hb (nav b))
 rw [F8 P4] at hx
 obtain rfl:AV.any=x:=by
  have:=Hr hx
  simpa using (Ug this).symm
 exact .any _
theorem D02 (hT:C0 P T)(wr:Bool){φ:ι→Prop}{f:FuncId}{c:Code}{ins:List Hb}{ax:ι→List Hb}(hf:P.funcs[f]? =some fn)(hb:fn.body=some c)(hn:(fn.name== "runtime.NumGoroutine")=false)(h:∀W,H W→vcW P ⟨W,fun _=>False⟩ (bodyPost P fn fun e w'=>∃i,φ i∧Jp W w' (ax i) e) (P7 T wr 100000 [.code c] (Dg fn.ntmps ins))):A4f P H f ins φ ax:=
 C8e hf hb hn fun W hW=>(go hT wr (h W hW)).rec id
theorem C9u {W:World}{φ:ι→Prop}{ax:ι→List Hb}{s:AS}(i:ι)(hi:φ i)(h:RW B (bodyPost P fn fun e w'=>Jp W w' (ax i) e) s):RW B (bodyPost P fn fun e w'=>∃i,φ i∧Jp W w' (ax i) e) s:=
 RW.mono (fun _ _ ⟨h1,v,h2,h3⟩=>⟨h1,v,h2,i,hi,h3⟩) h
variable {row : Nat → List Ad}
theorem Qz.isSlice {w:World}{A:Nat→Prop}{n es:Nat}{v:Value}(h:Qz w A (.sl n es row) v):∃a m c,v= .slice a m c:=by
 cases h with
 |nil=>exact ⟨_,_,_,rfl⟩
 |emp=>exact ⟨_,_,_,rfl⟩
 |sl=>exact ⟨_,_,_,rfl⟩
theorem D21 {s:AS}(i:Nat){n es:Nat}(hi:I4 s.ac i= .c (.sl n es row))(h:∀a m c,RW B Q {s with ac:=Cd s.ac i (.c (.val (.slice a m c)))}):RW B Q s:=by
 refine ⟨fun E a w hs=>?_⟩
 by_cases hl:i<s.ac.length
 ·have hd:=hs.ac i (.c (.sl n es row)) (by rw [Cb,Dh hl] at hi;rw [Dh hl];simpa using hi)
  have hv:∃b m c,a.tmps.getD i undef= .slice b m c:=by
   generalize hu:a.tmps.getD i undef=u at hd
   cases hd with
   |c hr=>exact hr.isSlice
  obtain ⟨b,m,c,hv⟩:=hv;obtain ⟨g⟩:=h b m c;refine g E a w ⟨hs.defers,hs.ak,by rw [hs.size];exact (Bj _ _ _).symm,fun m' z hz=>?_,hs.aw,hs.boxes2,hs.keys,hs.own,hs.ownkeys,hs.sep,hs.sepB,hs.one,hs.base,hs.fresh⟩
  simp only at hz
  rw [Cr] at hz
  split at hz
  ·rename_i hm
   obtain ⟨rfl,hm⟩:=hm;obtain rfl:=Bv hz;rw [hv];exact .c (.val _ rfl)
  exact hs.ac m' z hz
 exfalso
 rw [Cb,A71 A7] at hi
 simp at hi
end Go.Sx
