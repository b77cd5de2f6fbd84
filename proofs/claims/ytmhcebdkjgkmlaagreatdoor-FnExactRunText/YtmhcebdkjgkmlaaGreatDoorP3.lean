/- Part 3 of the proof that each of the laws FnExactWhoIsDone, FnExactResultText, FnExactRunText returns true for every input. No conditions. -/
import Derived.Test.YtmhcebdkjgkmlaaGreatDoorP2
import Derived.Laws.BytesArg
import Derived.Lib.ItoaNum
import Derived.Sort.Grow
import Derived.Deep.Draws
import Derived.Lib.ItoaLen
import Derived.Lib.Join
import Derived.WideLaws
import Derived.Laws.Strings2
import Derived.Lib.AtoiAll
import Derived.Lib.Fields

set_option linter.unusedSimpArgs false
set_option linter.unusedVariables false
namespace Go.Sx
open Go.RowKit (Below)
variable {P : Program} {T : List (TypeId × TI)}
variable {B : Fa} {Q : Exit → Act → World → Prop} {K : List KI} {s : AS}
theorem GW.out (h:GW P B Q K s):G P B Q K s:=h.rec fun h=>h
def B3y (ay:List (Nat×Value)) (l:Nat→Value) (ks:List Nat):Prop:=
 match ks with
 | []=>True
 |k::r=>Dm ay k=some (l k)∧B3y ay l r
variable {l : Nat → Value} {k : Nat}
theorem B6r {ay:List (Nat×Value)}{ks:List Nat}(h:B3y ay l ks)(hk:k∈ks):(k,l k)∈ay:=by
 induction ks with
 |nil=>simp at hk
 |cons j r ih=>
  rcases Ca.1 hk with rfl|hk
  ·exact G1 h.1
  exact ih h.2 hk
def B64 (xs:List AV) (us:List Value):Prop:=
 match xs,us with
 | [],[]=>True
 |x::xs,u::us=>x= .v u∧B64 xs us
 |_,_=>False
theorem C4a {xs:List AV}{us:List Value}(h:B64 xs us):xs=us.map AV.v:=by
 induction xs generalizing us with
 |nil=>cases us<;>simp_all [B64]
 |cons x xs ih=>
  cases us with
  |nil=>simp [B64] at h
  |cons u us=>
   obtain ⟨rfl,h⟩:=h;rw [ih h];rfl
def A8m (x:AV):Bool:=
 match x with
 | .own _=>true
 | .c (.val u)=>Ht [u]
 |_=>false
def B93 (x:AV):Bool:=
 match x with
 | .agg xs=>A91 A8m xs
 |x=>A8m x
theorem B23 {E:Fm}{w:World}{A:Nat→Prop}{N:Nat}{x:AV}(hp:A8m x=true)(hk:∀k∈I6 x,k<N∧E.ov k=l k):Cm E w A N x (C4y l x):=by
 unfold A8m at hp
 split at hp
 ·rename_i k
  obtain ⟨h1,h2⟩:=hk k (by simp [I6])
  have:Cm E w A N (.own k) (E.ov k):= .own h1
  rw [h2] at this;exact this
 ·rename_i u
  exact .c (.val u (Hg hp u Bi))
 simp at hp
theorem C9g {E:Fm}{w:World}{A:Nat→Prop}{N:Nat}{x:AV}(hp:B93 x=true)(hk:∀k∈Cd x,k<N∧E.ov k=l k):Cm E w A N x (B40 l x):=by
 cases x with
 |agg xs=>
  refine .agg _ Bi (fun i z hz=>?_);simp only [List.getD,E8,hz,Pd,Nn];exact B23 (Sl hp (Gs hz)) (fun k hk'=>hk k (Ds.2 ⟨z,Gs hz,hk'⟩))
 |own k=>exact B23 hp hk
 |c z=>exact B23 hp hk
 |_=>simp [B93,A8m] at hp
theorem D23 (hT:Bw P T){W:World}{may:Nat→Prop}{fn:Func}{x0:AV}{y:Gl}{ax:List Value}{xs:List AV}(hx:Pb T fn.results.toList s=some xs)(hv:B64 xs ax)(hp:B93 x0=true)(hk:G2 (Cd x0)=true)(ho:B9x s.own x0 y)(hl:B3y s.ay l (Cd x0)):RW ⟨W,may⟩ (bodyPost P fn fun e w'=>B2s W may (B40 l x0) y ax w' e) s:=by
 refine ⟨fun E a w h=>?_⟩;obtain ⟨vs,h1,h2,h3,h4⟩:=Wm hT h fn.results.toList xs hx;obtain rfl:=C4a hv
 have hvs:vs=ax:=by
  apply A3i
  intro i
  by_cases hi:i<ax.length
  ·have hi':i<vs.length:=by rw [h2];simpa using hi
   have:=B4 (h4 i (.v ax[i]) (by simp [hi]))
   simp only [List.getD,Cl hi',Nn] at this;rw [Cl hi,Cl hi',this]
  rw [T9 (by rw [h2];simp;omega),T9 A7]
 subst hvs;have hD:Cm E w (s.ag E) s.next x0 (B40 l x0):=C9g hp (fun k hk'=>h.ay _ (B6r hl hk'));obtain ⟨o1,o2⟩:=Kb h ho hD;refine ⟨h.defers,Ir vs,?_,rfl,⟨_,o1,Q8 h (Eg hk) o2,fun b hb=>?_⟩,?_⟩
 ·rw [Qi,A3j]
  simp only [A3k,Sem.run_bind,h1,Result.andThen_ok,Sem.run_pure];exact A6 (fun v=>Result.ok v w) (T3 vs)
 ·obtain ⟨k,hk',hb⟩:=Ds.1 hb
  obtain ⟨z,hz,rfl⟩:=o2 k hk';exact (h.fresh b (.inr ⟨z,hz,hb⟩)).symm
 have hB:=h.base;exact ⟨hB.os,hB.tape,hB.output,hB.size,fun k hk hm=>hB.block k hk hm⟩
variable {n : Nat} {es : Nat} {row : Nat → List Ag} {off : Nat} {j : Nat} {c' : Ag}
theorem A8g {w:World}{b cap:Nat}{ty:TypeId}{cells:Array Value}{fps:Nat→List Nat}(hn:n≤cap)(hc:cap≤maxLen)(hb:w.heap[b]? =some (.cells cells ty (0,0)))(hs:(off+cap) * es≤cells.size)(hl:∀i,i<n→(row i).length=es)(hr:∀i j c,i<n→(row i)[j]? =some c→Bp w c (cells.getD ((off+i) * es+j) undef) (fps (i * es+j)))(hnd:(b::(List.range (n * es)).flatMap fps).Nodup){o:Nat}(hj:j<n)(ho:o<es){c:Ag}{g:List Nat}(hg:Bp w c (cells.getD ((off+j) * es+o) undef) g)(hgn:g.Nodup)(hgd:∀x∈g,x≠b∧∀k,k<n * es→k≠j * es+o→x∉fps k)(hu:Vi n es row j o [c] c'):
  Bp w c' (.slice (some ⟨b,off * es,none⟩) n cap) (b::(List.range (n * es)).flatMap (fun k=>if k=j * es+o then g else fps k))∧
   (b::(List.range (n * es)).flatMap (fun k=>if k=j * es+o then g else fps k)).Nodup:=by
 obtain ⟨row',rfl,hu1,hu2⟩:=hu;obtain ⟨hb0,hnd1⟩:=Ip.1 hnd
 constructor
 ·refine .sl n es row' b off cap ty cells _ hn hc hb hs (fun i hi=>?_) (fun i m d hi hd=>?_)
  ·by_cases e:i=j
   ·subst e
    rw [hu2]
    simp [E7,hl i hi]
    omega
   rw [hu1 i hi e];exact hl i hi
  by_cases e:i=j
  ·subst e
   rw [hu2] at hd;have hl1:(List.take o (row i)).length=o:=by simp [hl i hi];omega
   simp only [E7] at hd
   by_cases h1:m=o
   ·subst h1
    rw [Ak rfl];rw [Cv,F1 A7,hl1,Nat.sub_self] at hd;simp only [Tb,Fq,Ei] at hd;subst hd;exact hg
   rw [Ab A7];refine hr i m d hi ?_
   by_cases h2:m<o
   ·rw [Cv,F2 A7,X6,Ak h2] at hd
    exact hd
   rw [F1 (by simp [hl i hi];omega)] at hd;simp only [D7,hl1,Tc,Lu] at hd
   rwa [show o+1+(m-(o+1))=m by omega] at hd
  rw [hu1 i hi e] at hd;have hml:m<es:=by have:=(Cq.1 hd).1;rw [hl i hi] at this;exact this
  have hne:i * es+m≠j * es+o:=by
   intro h
   rcases Si e with h'|h'
   ·have:(i+1) * es≤j * es:=Kd _ h'
    rw [G0] at this;omega
   have:(j+1) * es≤i * es:=Kd _ h'
   rw [G0] at this;omega
  rw [Ab hne];exact hr i m d hi hd
 obtain ⟨f1,f2⟩:=C6.1 hnd1;refine Ip.2 ⟨fun h=>?_,C6.2 ⟨fun k hk=>?_,?_⟩⟩
 ·obtain ⟨k,hk,hx⟩:=Ds.1 h
  split at hx
  ·exact (hgd b hx).1 rfl
  exact hb0 (Du (Ft.1 hk) hx)
 ·split
  ·exact hgn
  exact f1 k hk
 refine B42 ?_ ((List.nodup_range (n:=n * es)).and f2);intro p q hp hq ⟨hne,hpq⟩ z hz hz'
 split at hz
 ·split at hz'
  ·omega
  exact (hgd z hz).2 q (Ft.1 hq) (by assumption) hz'
 split at hz'
 ·exact (hgd z hz').2 p (Ft.1 hp) (by assumption) hz
 exact hpq z hz hz'
def S5 (c:Ag):Bool:=
 match c with
 | .sl _ _ _=>true
 |_=>false
variable {all : Array Oper} {o : Oper} {rest : List Oper} {t : TypeId} {i : TI}
theorem D1s (hT:Bw P T){q:Bool}{x:Operand}(hg:o.guard=none)(ho:o.op= .load t x)(hi:find T t=some i)(hag:i.agg=false){j:Int}(hx:s.ev x= .oel k es j off)(hk:Bl s.own k=some (.sl n es row)){c:Ag}(hc:(row j.toNat)[off]? =some c)(h:∀v,GW P B Q (.ops q all rest::K) (({s with own:=⟨s.next,c⟩::⟨k,.sl n es fun i=>if i=j.toNat then E7 (row i) off [.val v] else row i⟩::Ba [k] s.own,next:=s.next+1,ay:=(s.next,v)::s.ay}:AS).put o.dst (.own s.next))):
  GW P B Q (.ops q all (o::rest)::K) s:=by
 refine ⟨Fo hg (fun E a w hs=>?_)⟩;have hm:=C2 hk;obtain ⟨hklt,o2,o3⟩:=hs.own _ hm
 simp only at o2 o3 hklt
 have hev:=hs.ev x;rw [hx] at hev;generalize hv:a.eval x=v at hev
 cases hev with
 |oel _ b o' n' cap hkl hov h0 hj=>
  rw [hov] at o2;generalize hfp:E.fp k=fp at o2 o3;obtain ⟨jn,rfl⟩:=Un h0;simp only [Bu,A0e] at *
  cases o2 with
  |emp=>exact absurd hj (Kt _)
  |sl _ _ _ _ offb _ ty cells fps hn hcp hb hcs hl hr=>
   have hoff:off<es:=by have:=(Cq.1 hc).1;rwa [hl jn hj] at this
   have hin:=hr jn off c hj hc;obtain ⟨hb0,hnd1⟩:=Ip.1 o3;obtain ⟨f1,f2⟩:=C6.1 hnd1;have hpos:jn * es+off<n * es:=Gq hj hoff
   have hcl:(offb+jn) * es+off<cells.size:=by
    have:=Gq (show offb+jn<offb+cap by omega) hoff
    omega
   generalize hu:cells.getD ((offb+jn) * es+off) undef=u at hin
   have hdis:∀z∈fps (jn * es+off),z≠b∧∀k,k<n * es→k≠jn * es+off→z∉fps k:=by
    intro z hz;refine ⟨fun e=>hb0 (e▸Du hpos hz),fun k hk hne hz'=>?_⟩;have hp:=Rx.1 f2
    rcases Si hne with h'|h'
    ·have:=hp k (jn * es+off) (by simpa using hk) (by simpa using hpos) h' z
     simp only [Uq] at this;exact this hz' hz
    have:=hp (jn * es+off) k (by simpa using hpos) (by simpa using hk) h' z
    simp only [Uq] at this;exact this hz hz'
   have hone:u.oneCell'=true:=hin.one
   obtain ⟨s1,s2⟩:=A8g hn hcp hb hcs hl hr o3 hj hoff (c:= .val u) (g:=[]) (by rw [hu];exact .val u hone) Bi Bi
    (c':= .sl n es fun i=>if i=jn then E7 (row i) off [.val u] else row i) ⟨_,rfl,fun i _ hne=>by simp [hne],by simp⟩
   have hI:=hs.drop [k]
   have key:∀z,z∈b::(List.range (n * es)).flatMap fps→s.ag E z∧¬ ({s with own:=Ba [k] s.own}:AS).ag E z∧B.fresh z:=by
    intro z hz;have hzk:z∈E.fp k:=by rw [hfp];exact hz
    have hav:s.ag E z:= .inr ⟨_,hm,hzk⟩;refine ⟨hav,?_,hs.fresh z hav⟩
    rintro (⟨r,hr',rfl⟩|⟨r,hr',hz'⟩)
    ·exact hs.sepB r hr' _ hm hzk
    obtain ⟨q1,q2⟩:=Bh.1 hr';exact hs.sep _ hm r q1 (fun e=>q2 (by simp at e;simp [e])) z hzk hz'
   have sub1:∀z,z∈b::(List.range (n * es)).flatMap (fun k=>if k=jn * es+off then [] else fps k)→z∈b::(List.range (n * es)).flatMap fps:=by
    intro z hz
    rcases Ca.1 hz with rfl|hz
    ·simp
    obtain ⟨p,hp,hz⟩:=Ds.1 hz
    split at hz
    ·simp at hz
    exact Da _ (Ds.2 ⟨p,hp,hz⟩)
   have hI3:=hI.addAt (k:=k) hklt (fun y' hy=>fun e=>(Bh.1 hy).2 (by rw [e];simp)) (by rw [hov];exact s1) s2 (fun z hz=>key z (sub1 z hz))
   have hav3:∀z,z∈fps (jn * es+off)→¬ ({s with own:=⟨k,.sl n es fun i=>if i=jn then E7 (row i) off [.val u] else row i⟩::Ba [k] s.own}:AS).ag (E.setFp k (b::(List.range (n * es)).flatMap (fun k=>if k=jn * es+off then [] else fps k))) z:=by
    intro z hz;have hzin:z∈b::(List.range (n * es)).flatMap fps:=Da _ (Du hpos hz)
    rintro (⟨r,hr',rfl⟩|⟨r,hr',hz'⟩)
    ·exact (key _ hzin).2.1 (.inl ⟨r,hr',rfl⟩)
    rcases Ca.1 hr' with rfl|hr'
    ·simp only [Fm.setFp,Lt] at hz'
     rcases Ca.1 hz' with rfl|hz'
     ·exact (hdis _ hz).1 rfl
     obtain ⟨p,hp,hz'⟩:=Ds.1 hz'
     split at hz'
     ·simp at hz'
     exact (hdis z hz).2 p (Ft.1 hp) (by assumption) hz'
    have hne:r.key≠k:=fun e=>(Bh.1 hr').2 (by rw [e];simp);simp only [Fm.setFp,hne,Rw] at hz';exact (key z hzin).2.1 (.inr ⟨r,hr',hz'⟩)
   obtain ⟨k1,k2⟩:=hI3.addOwn hin (f1 _ (Ft.2 hpos)) (fun z hz=>⟨(key z (Da _ (Du hpos hz))).1,hav3 z hz,(key z (Da _ (Du hpos hz))).2.2⟩)
   have k3:({s with own:=⟨s.next,c⟩::⟨k,.sl n es fun i=>if i=jn then E7 (row i) off [.val u] else row i⟩::Ba [k] s.own,next:=s.next+1,ay:=(s.next,u)::s.ay}:AS).isA B
     ((E.setFp k (b::(List.range (n * es)).flatMap (fun k=>if k=jn * es+off then [] else fps k))).withOwn s.next u (fps (jn * es+off))) (s.ag E) a w:=by
    refine ⟨k1.defers,fun p hp=>?_,k1.size,k1.af,k1.aw,k1.boxes2,k1.keys,k1.own,k1.ownkeys,k1.sep,k1.sepB,k1.one,k1.base,k1.fresh,k1.sub⟩
    rcases Ca.1 hp with rfl|hp
    ·exact ⟨Rv _,by simp [Fm.withOwn]⟩
    exact k1.ay p hp
   refine ⟨u,fun w' hkw=>?_,(h u).out _ _ w ((k3.put o.dst k2).is)⟩;obtain ⟨dst,op',ty',pos,after,guard⟩:=o
   simp only at ho
   subst ho;obtain ⟨f,d,z,S⟩:=TI.of_spec (hT t i hi);have hd:Kk d=false:=by rw [←S.agg];exact hag
   have h1:=S.one hd
   have hrun:=J4 (hT t i hi) w' b (offb * es+jn * es+off) ((List.range i.size).map fun _=>u) Bi (fun p hp=>by
    obtain rfl:p=0:=by omega
    refine hkw.cell ?_;rw [show offb * es+jn * es+off+0=(offb+jn) * es+off by rw [G0];omega,cell_of_row w b _ cells ty (0,0) hb]
    simp only [h1,List.range_one,Gz,Wz,X4];rw [←hu,A3p]
    simp [hcl])
   simp only [execOp,hv,Instr.loadAt,Instr.sureAddr,Sem.run_bind,Sem.run_pure,Result.andThen_ok,hrun,hag,h1];rfl
variable {v : Value}
theorem C8r (k k2:Nat){c:Ag}(hk:Bl s.own k=some (.sl n es row))(hj:j<n)(hc:(row j)[off]? =some (.val v))(h2:Bl s.own k2=some c)(hl:Dm s.ay k2=some v)(hne:Nat.beq k k2=false)(c':Ag)(hu:Vi n es row j off [c] c')(h:GW P B Q K {s with own:=⟨k,c'⟩::Ba [k,k2] s.own}):GW P B Q K s:=by
 refine ⟨fun E a w hs=>?_⟩;have hm:=C2 hk;have hm2:=C2 h2;have hkk:k≠k2:=fun e=>by subst e;simp at hne
 obtain ⟨hklt,o2,o3⟩:=hs.own _ hm;obtain ⟨hklt2,p2,p3⟩:=hs.own _ hm2
 simp only at o2 o3 hklt p2 p3 hklt2
 have hlv:=(hs.ay _ (G1 hl)).2
 simp only at hlv
 have hI:=hs.drop [k,k2]
 have key:∀z,(z∈E.fp k∨z∈E.fp k2)→s.ag E z∧¬ ({s with own:=Ba [k,k2] s.own}:AS).ag E z∧B.fresh z:=by
  intro z hz
  have:∃y∈s.own,y.key∈[k,k2]∧z∈E.fp y.key:=by
   rcases hz with hz|hz
   ·exact ⟨_,hm,by simp,hz⟩
   exact ⟨_,hm2,by simp,hz⟩
  obtain ⟨y,hy,hyk,hz⟩:=this;have hav:s.ag E z:= .inr ⟨_,hy,hz⟩;refine ⟨hav,?_,hs.fresh z hav⟩
  rintro (⟨r,hr',rfl⟩|⟨r,hr',hz'⟩)
  ·exact hs.sepB r hr' _ hy hz
  obtain ⟨q1,q2⟩:=Bh.1 hr';exact hs.sep _ hy r q1 (fun e=>q2 (e▸hyk)) z hz hz'
 have hsep:=hs.sep _ hm _ hm2 hkk;generalize hov:E.ov k=vv,hfp:E.fp k=fp at o2 o3
 cases o2 with
 |nil=>omega
 |emp=>omega
 |sl _ _ _ b offb cap ty cells fps hn hcp hb hcs hl' hr=>
  have hoff:off<es:=by have:=(Cq.1 hc).1;rwa [hl' j hj] at this
  have hin:=hr j off _ hj hc;generalize hu':cells.getD ((offb+j) * es+off) undef=u at hin
  have huv:u=v:=by
   revert hin
   generalize fps (j * es+off)=g;intro hin
   cases hin;rfl
  obtain ⟨s1,s2⟩:=A8g hn hcp hb hcs hl' hr o3 hj hoff (c:=c) (g:=E.fp k2) (by rw [hu',huv,←hlv];exact p2) p3 (fun z hz=>by
   refine ⟨fun e=>?_,fun p hp _ hz'=>?_⟩
   ·subst e
    exact hsep z (by simp only [hfp];simp) hz
   exact hsep z (by simp only [hfp];exact Da _ (Du hp hz')) hz) hu
  have hI3:=hI.addAt (k:=k) hklt (fun y' hy=>fun e=>(Bh.1 hy).2 (by rw [e];simp)) (by rw [hov];exact s1) s2 (fun z hz=>by
   rcases Ca.1 hz with rfl|hz
   ·exact key z (.inl (by rw [hfp];simp))
   obtain ⟨p,hp,hz⟩:=Ds.1 hz
   split at hz
   ·exact key z (.inr hz)
   exact key z (.inl (by rw [hfp];exact Da _ (Ds.2 ⟨p,hp,hz⟩))))
  exact h.out _ a w hI3.is
theorem U4 (i es:Nat)(row:Nat→List Ag)(hi:I7 s.af i= .c (.val (.slice none 0 0)))(h:GW P B Q K {s with af:=C4 s.af i (.own s.next),own:=⟨s.next,.sl 0 es row⟩::s.own,next:=s.next+1}):GW P B Q K s:=by
 refine ⟨fun E a w hs=>?_⟩;have hI:s.isA B E (s.ag E) a w:=⟨hs.defers,hs.ay,hs.size,hs.af,hs.aw,hs.boxes2,hs.keys,hs.own,hs.ownkeys,hs.sep,hs.sepB,hs.one,hs.base,hs.fresh,fun _ h=>h⟩
 obtain ⟨k1,k2⟩:=hI.addOwn (.nil es row) Bi Bi;have k3:=k1.is;refine h.out (E.withOwn s.next (.slice none 0 0) []) a w ⟨k3.defers,k3.ay,by rw [k3.size];exact (Bm _ _ _).symm,fun m z hz=>?_,k3.aw,k3.boxes2,k3.keys,k3.own,k3.ownkeys,k3.sep,k3.sepB,k3.one,k3.base,k3.fresh⟩
 simp only at hz
 rw [Ck] at hz
 split at hz
 ·rename_i hm
  obtain ⟨rfl,hm⟩:=hm;obtain rfl:=D3 hz;have hd:=hs.af i (.c (.val (.slice none 0 0))) (by rw [C7,Cl hm] at hi;rw [Cl hm];simpa using hi);rw [B4 hd]
  have:Cm (E.withOwn s.next (.slice none 0 0) []) w _ _ (.own s.next) (.slice none 0 0):=k2
  exact this.move (Df _) (fun _ _=>⟨rfl,rfl⟩) (fun _ _ _=>rfl) (fun b _ hb=>k1.sub b hb)
 exact k3.af m z hz
abbrev Ej (xs:List Int):Ag:=Mr 1 (fun n=>[vi n]) xs
abbrev D9 (xs:List Bool):Ag:=Mr 1 (fun b=>[vb b]) xs
abbrev Cj (xs:List ByteArray):Ag:=Mr 1 (fun b=>[vs b]) xs
structure Jg where
 ab:Int
 turn:Int
 deriving Inhabited,DecidableEq
def Jg.c (x:Jg):List Ag:=[vi x.ab,vi x.turn]
structure D3g where
 am:Jg
 n:Int
 deriving Inhabited,DecidableEq
structure Aa where
 op:Int
 am:Jg
 key:Int
 val:Int
 deriving Inhabited,DecidableEq
def Aa.c (x:Aa):List Ag:=[vi x.op,vi x.am.ab,vi x.am.turn,vi x.key,vi x.val]
abbrev A9 (xs:List Aa):Ag:=Mr 5 Aa.c xs
structure D4 where
 cap:Int
 ar:List Aa
 bv:Int
 back:Int
 bj:Int
 got:Int
 deriving Inhabited,DecidableEq
def D4.c (x:D4):List Ag:=[vi x.cap,A9 x.ar,vi x.bv,vi x.back,vi x.bj,vi x.got]
abbrev B7 (xs:List D4):Ag:=Mr 6 D4.c xs
structure D5 where
 kind:Int
 a:Int
 b:Int
 ax:List Int
 deriving Inhabited,DecidableEq
def D5.c (x:D5):List Ag:=[vi x.kind,vi x.a,vi x.b,Ej x.ax]
abbrev Ax (xs:List D5):Ag:=Mr 4 D5.c xs
structure B2 where
 ak:List D5
 aq:Int
 cap:Int
 deriving Inhabited,DecidableEq
def B2.c (x:B2):List Ag:=[Ax x.ak,vi x.aq,vi x.cap]
structure Ad where
 op:Int
 ab:Int
 key:Int
 val:Int
 deriving Inhabited,DecidableEq
def Ad.c (x:Ad):List Ag:=[vi x.op,vi x.ab,vi x.key,vi x.val]
abbrev Ai (xs:List Ad):Ag:=Mr 4 Ad.c xs
structure Gv where
 ab:Int
 ao:Bool
 deriving Inhabited,DecidableEq
def Gv.c (x:Gv):List Ag:=[vi x.ab,vb x.ao]
abbrev Hu (xs:List Gv):Ag:=Mr 2 Gv.c xs
structure Ae where
 ar:List Aa
 ae:List Aa
 au:List Aa
 cells:List Ad
 ah:List Int
 al:List Bool
 an:List Bool
 ai:List Gv
 deriving Inhabited,DecidableEq
def Ae.c (x:Ae):List Ag:=[A9 x.ar,A9 x.ae,A9 x.au,Ai x.cells,Ej x.ah,D9 x.al,D9 x.an,Hu x.ai]
abbrev Af (xs:List Ae):Ag:=Mr 8 Ae.c xs
structure G9 where
 bz:Bool
 aj:Int
 sum:Int
 al:Bool
 ao:Bool
 deriving Inhabited,DecidableEq
def G9.c (x:G9):List Ag:=[vb x.bz,vi x.aj,vi x.sum,vb x.al,vb x.ao]
abbrev Au (xs:List G9):Ag:=Mr 5 G9.c xs
structure D8 where
 to_:Int
 ab:Int
 ao:Bool
 deriving Inhabited,DecidableEq
def D8.c (x:D8):List Ag:=[vi x.to_,vi x.ab,vb x.ao]
abbrev Bd (xs:List D8):Ag:=Mr 3 D8.c xs
structure A3 where
 az:B2
 aq:List Ae
 ay:List D4
 ap:List G9
 ac:List D8
 deriving Inhabited,DecidableEq
def A3.c (x:A3):List Ag:=[Ax x.az.ak,vi x.az.aq,vi x.az.cap,Af x.aq,B7 x.ay,Au x.ap,Bd x.ac]
structure Ea where
 kind:Int
 a:Int
 b:Int
 deriving Inhabited,DecidableEq
def Ea.c (x:Ea):List Ag:=[vi x.kind,vi x.a,vi x.b]
abbrev E9 (xs:List Ea):Ag:=Mr 3 Ea.c xs
structure Db where
 az:B2
 au:List Aa
 aa:List Ea
 bq:Int
 deriving Inhabited,DecidableEq
def Db.c (x:Db):List Ag:=[Ax x.az.ak,vi x.az.aq,vi x.az.cap,A9 x.au,E9 x.aa,vi x.bq]
def wS {α:Type} (w:α→Nat) (xs:List α):Nat:=xs.length+(xs.map w).sum
def Jg.ok (x:Jg):Prop:=Gt .i64 x.ab∧Gt .i64 x.turn
def Aa.ok (x:Aa):Prop:=Gt .i64 x.op∧x.am.ok∧Gt .i64 x.key∧Gt .i64 x.val
def D4.w (x:D4):Nat:=x.ar.length
def D4.ok (x:D4):Prop:=Gt .i64 x.cap∧(x.ar.length≤maxLen∧∀y∈x.ar,y.ok)∧Gt .i64 x.bv∧Gt .i64 x.back∧Gt .i64 x.bj∧Gt .i64 x.got
def D5.w (x:D5):Nat:=x.ax.length
def D5.ok (x:D5):Prop:=Gt .i64 x.kind∧Gt .i64 x.a∧Gt .i64 x.b∧(x.ax.length≤maxLen∧∀y∈x.ax,Gt .i64 y)
def B2.w (x:B2):Nat:=wS D5.w x.ak
def B2.ok (x:B2):Prop:=(x.ak.length≤maxLen∧∀y∈x.ak,y.ok)∧Gt .i64 x.aq∧Gt .i64 x.cap
def Ad.ok (x:Ad):Prop:=Gt .i64 x.op∧Gt .i64 x.ab∧Gt .i64 x.key∧Gt .i64 x.val
def Gv.ok (x:Gv):Prop:=Gt .i64 x.ab
def Ae.w (x:Ae):Nat:=x.ar.length+x.ae.length+x.au.length+x.cells.length+x.ah.length+x.al.length+x.an.length+x.ai.length
def Ae.ok (x:Ae):Prop:=(x.ar.length≤maxLen∧∀y∈x.ar,y.ok)∧(x.ae.length≤maxLen∧∀y∈x.ae,y.ok)∧(x.au.length≤maxLen∧∀y∈x.au,y.ok)∧(x.cells.length≤maxLen∧∀y∈x.cells,y.ok)∧(x.ah.length≤maxLen∧∀y∈x.ah,Gt .i64 y)∧x.al.length≤maxLen∧x.an.length≤maxLen∧(x.ai.length≤maxLen∧∀y∈x.ai,y.ok)
def G9.ok (x:G9):Prop:=Gt .i64 x.aj∧Gt .i64 x.sum
def D8.ok (x:D8):Prop:=Gt .i64 x.to_∧Gt .i64 x.ab
def A3.w (x:A3):Nat:=x.az.w+wS Ae.w x.aq+wS D4.w x.ay+x.ap.length+x.ac.length
def A3.ok (x:A3):Prop:=x.az.ok∧(x.aq.length≤maxLen∧∀y∈x.aq,y.ok)∧(x.ay.length≤maxLen∧∀y∈x.ay,y.ok)∧(x.ap.length≤maxLen∧∀y∈x.ap,y.ok)∧(x.ac.length≤maxLen∧∀y∈x.ac,y.ok)
def Ea.ok (x:Ea):Prop:=Gt .i64 x.kind∧Gt .i64 x.a∧Gt .i64 x.b
def Db.w (x:Db):Nat:=x.az.w+x.au.length+x.aa.length
variable {α : Type}
theorem A2e [Inhabited α] (w:α→Nat)(xs:List α)(k:Nat)(hk:k<xs.length):((xs.take (k+1)).map w).sum=((xs.take k).map w).sum+w (xs.getD k default):=by
 rw [A9t,Qs,List.sum_append,Cl hk]
 simp [List.getD,hk]
theorem Gf [Inhabited α] (w:α→Nat)(xs:List α)(k:Nat)(hk:k<xs.length):((xs.take k).map w).sum+w (xs.getD k default)≤(xs.map w).sum:=by
 rw [←A2e w xs k hk]
 conv=>rhs;rw [←Pe (k+1) xs,Qs,List.sum_append]
 omega
theorem C8v (w:α→Nat)(xs:List α):wS w xs=xs.length+(xs.map w).sum:=rfl
theorem Ex (b:ByteArray):(b==b)=true:=by rw [beq_toListBytes];simp
theorem Kf {a b:ByteArray}(h:(a==b)=true):a=b:=by
 rw [beq_toListBytes] at h;have h:=eq_of_beq h;rw [ByteArray.toList_eq,ByteArray.toList_eq] at h;obtain ⟨⟨x⟩⟩:=a;obtain ⟨⟨y⟩⟩:=b
 simp at h
 rw [h]
open Go.RowKit (Below)
def B01 (c c':Ag):Prop:=c'=c∨(c= .val (.slice none 0 0)∧∃es row,c'= .sl 0 es row)
def Ja (cs cs':List Ag):Prop:=
 match cs,cs' with
 | [],[]=>True
 |c::cs,c'::cs'=>B01 c c'∧Ja cs cs'
 |_,_=>False
variable {cs : List Ag}
theorem Ja.get {cs':List Ag}(h:Ja cs cs'):cs'.length=cs.length∧∀(i:Nat) (c':Ag),cs'[i]? =some c'→∃c,cs[i]? =some c∧B01 c c':=by
 induction cs generalizing cs' with
 |nil=>cases cs'<;>simp_all [Ja]
 |cons c cs ih=>
  cases cs' with
  |nil=>simp [Ja] at h
  |cons c' cs'=>
   obtain ⟨h1,h2⟩:=h;obtain ⟨g1,g2⟩:=ih h2;refine ⟨by simp [g1],fun i d hd=>?_⟩
   cases i with
   |zero=>simp only [Fq,Ei] at hd;subst hd;exact ⟨c,by simp,h1⟩
   |succ i=>simpa using g2 i d (by simpa using hd)
theorem B01.own {w:World}{c:Ag}{fp:List Nat}(h:B01 c c')(ho:Bp w c v fp):Bp w c' v fp:=by
 rcases h with rfl|⟨rfl,es,row,rfl⟩
 ·exact ho
 cases ho;exact .nil es row
theorem B01.refl (c:Ag):B01 c c:= .inl rfl
def Ly (c c':Ag):Prop:=
 match c,c' with
 | .sl n es row,.sl n' es' row'=>n'=n∧es'=es∧∀i,i<n→Ja (row i) (row' i)
 |_,_=>False
theorem Ly.own {w:World}{c:Ag}{fp:List Nat}(h:Ly c c')(ho:Bp w c v fp):Bp w c' v fp:=by
 cases ho with
 |val x hx=>cases c'<;>exact h.elim
 |nil es row=>
  cases c' with
  |val=>exact h.elim
  |sl n' es' row'=>
   obtain ⟨rfl,rfl,_⟩:=h;exact .nil _ row'
 |emp es row b0 o0=>
  cases c' with
  |val=>exact h.elim
  |sl n' es' row'=>
   obtain ⟨rfl,rfl,_⟩:=h;exact .emp _ row' b0 o0
 |sl n es row b off cap ty cells fps hn hc hb hs hl hr=>
  cases c' with
  |val=>exact h.elim
  |sl n' es' row'=>
   obtain ⟨rfl,rfl,h⟩:=h;refine .sl _ _ row' b off cap ty cells fps hn hc hb hs (fun i hi=>?_) (fun i j d hi hd=>?_)
   ·rw [(h i hi).get.1];exact hl i hi
   obtain ⟨c,h1,h2⟩:=(h i hi).get.2 j d hd;exact h2.own (hr i j c hi h1)
def Je (l:List Ow) (k:Nat) (c:Ag):List Ow:=
 match l with
 | []=>[]
 |y::r=>match Nat.beq y.key k with
  |true=>⟨k,c⟩::Je r k c
  |false=>y::Je r k c
theorem Xq {l:List Ow}{c:Ag}{y:Ow}(h:y∈Je l k c):(y.key=k∧y.cell=c∧∃z∈l,z.key=k)∨(y∈l∧y.key≠k):=by
 induction l with
 |nil=>simp [Je] at h
 |cons x r ih=>
  unfold Je at h
  split at h
  ·rename_i e
   have e:=Fl e
   rcases Ca.1 h with rfl|h
   ·exact .inl ⟨rfl,rfl,x,by simp,e⟩
   rcases ih h with ⟨h1,h2,z,hz,h3⟩|⟨h1,h2⟩
   ·exact .inl ⟨h1,h2,z,Da _ hz,h3⟩
   exact .inr ⟨Da _ h1,h2⟩
  rename_i e
  rcases Ca.1 h with rfl|h
  ·exact .inr ⟨by simp,fun e'=>by rw [e',Nat.beq_refl] at e;cases e⟩
  rcases ih h with ⟨h1,h2,z,hz,h3⟩|⟨h1,h2⟩
  ·exact .inl ⟨h1,h2,z,Da _ hz,h3⟩
  exact .inr ⟨Da _ h1,h2⟩
theorem Zr (l:List Ow)(k:Nat)(c:Ag):(Je l k c).map (·.key)=l.map (·.key):=by
 induction l with
 |nil=>rfl
 |cons x r ih=>
  unfold Je
  split
  ·rename_i e
   have e:=Fl e
   simp [ih,e]
  simp [ih]
theorem Ie {l:List Ow}{c:Ag}{y:Ow}(h:y∈Je l k c):∃z∈l,z.key=y.key:=by
 rcases Xq h with ⟨h1,_,z,hz,h3⟩|⟨h1,_⟩
 ·exact ⟨z,hz,h3.trans h1.symm⟩
 exact ⟨y,h1,rfl⟩
theorem H5 (k:Nat)(c':Ag){c:Ag}(hk:Bl s.own k=some c)(hc:Ly c c')(h:GW P B Q K {s with own:=Je s.own k c'}):GW P B Q K s:=by
 refine ⟨fun E a w hs=>?_⟩;have hm:=C2 hk
 have av:∀b,({s with own:=Je s.own k c'}:AS).ag E b→s.ag E b:=by
  rintro b (hb|⟨y,hy,hb⟩)
  ·exact .inl hb
  obtain ⟨z,hz,e⟩:=Ie hy;exact .inr ⟨z,hz,by rw [e];exact hb⟩
 have mv:∀x v,Cm E w (s.ag E) s.next x v→Cm E w (({s with own:=Je s.own k c'}:AS).ag E) s.next x v:=fun x v hx=>
  hx.move (Df _) (fun _ _=>⟨rfl,rfl⟩) (fun _ _ _=>rfl) (fun b _ hb=>av b hb)
 refine h.out E a w ⟨hs.defers,hs.ay,hs.size,fun i x hx=>mv _ _ (hs.af i x hx),fun x hx=>?_,hs.boxes2,hs.keys,fun y hy=>?_,by rw [Zr];exact hs.ownkeys,fun y hy z hz hne=>?_,fun x hx y hy=>?_,hs.one,hs.base,fun b hb=>hs.fresh b (av b hb)⟩
 ·obtain ⟨h1,vs,ty,h2,h3,h4⟩:=hs.aw x hx
  exact ⟨h1,vs,ty,h2,h3,fun i y hy=>mv _ _ (h4 i y hy)⟩
 ·rcases Xq hy with ⟨h1,h2,_⟩|⟨h1,_⟩
  ·obtain ⟨g1,g2,g3⟩:=hs.own _ hm
   rw [h1,h2];exact ⟨g1,hc.own g2,g3⟩
  exact hs.own y h1
 ·obtain ⟨y',hy',e1⟩:=Ie hy
  obtain ⟨z',hz',e2⟩:=Ie hz;rw [←e1,←e2];exact hs.sep y' hy' z' hz' (by rw [e1,e2];exact hne)
 obtain ⟨y',hy',e1⟩:=Ie hy;rw [←e1];exact hs.sepB x hx y' hy'
theorem C5v [Inhabited α] {e:α→List Ag}{xs:List α}(h:∀i,i<xs.length→Ja (row i) (e (xs.getD i default))):Ly (.sl xs.length es row) (Mr es e xs):=
 ⟨rfl,rfl,h⟩
open Go.RowKit (Below)
def Wk (cs cs':List Ag):Prop:=cs'.length=cs.length∧∀(i:Nat) (c':Ag),cs'[i]? =some c'→∃c,cs[i]? =some c∧∀w A v,R2 w A c v→R2 w A c' v
theorem Wk.refl (cs:List Ag):Wk cs cs:=⟨rfl,fun _ c h=>⟨c,h,fun _ _ _ h=>h⟩⟩
theorem Wk.repL {w:World}{xs ys:List Ag}{cs:List Value}(h:Wk xs ys)(hr:Yz w xs cs):Yz w ys cs:=by
 refine ⟨h.1.trans hr.1,fun i c hc=>?_⟩;obtain ⟨c0,h1,h2⟩:=h.2 i c hc;exact h2 _ _ _ (hr.2 i c0 h1)
theorem Yz.arg1 {w:World}{c:Ag}(h:Yz w [c] [v]):Lf w (fun _=>False) (.one c) v:=h.2 0 c rfl
def Ka {α:Type} (f:α→Int→α) (c:α→Nat) (l:List α) (k:Int):List α:=
 match l with
 | []=>[]
 |x::r=>f x k::Ka f c r (k+c x)
theorem L0 (f:α→Int→α)(c:α→Nat)(l:List α)(k:Int):(Ka f c l k).length=l.length:=by
 induction l generalizing k with
 |nil=>rfl
 |cons x r ih=>simp [Ka,ih]
theorem A73 (f:α→Int→α)(c:α→Nat)(l:List α)(k:Int)(j:Nat)(d:α)(h:j<l.length):(Ka f c l k).getD j d=f (l.getD j d) (k+(((l.take j).map c).sum:Nat)):=by
 induction l generalizing k j with
 |nil=>simp at h
 |cons x r ih=>
  cases j with
  |zero=>simp [Ka]
  |succ j=>
   have:=ih (k+c x) j (by simpa using h)
   simp only [Ka,List.getD_cons_succ,this,A9u,Gz,V9]
   congr 1
   omega
theorem A1m (f:α→Int→α)(c:α→Nat)(l m:List α)(k:Int):Ka f c (l++m) k=Ka f c l k++Ka f c m (k+((l.map c).sum:Nat)):=by
 induction l generalizing k with
 |nil=>simp [Ka]
 |cons x r ih=>
  simp only [Tb,Ka,ih,Gz,V9];rw [show k+(c x:Int)+((r.map c).sum:Nat)=k+((c x+(r.map c).sum:Nat):Int) by omega]
def Md {α:Type} (f:α→Int→α) (c:α→Nat) (l:List α) (k:Int) (j:Nat):List α:=Ka f c (l.take j) k++l.drop j
theorem Pn (f:α→Int→α)(c:α→Nat)(l:List α)(k:Int)(j:Nat):(Md f c l k j).length=l.length:=by
 simp only [Md,D7,L0,Eo,G4];omega
theorem B1y (f:α→Int→α)(c:α→Nat)(l:List α)(k:Int)(j:Nat)(h:¬ j<l.length):Md f c l k j=Ka f c l k:=by
 simp only [Md];rw [K0 A7,List.drop_of_length_le A7,Hw]
theorem B1z (f:α→Int→α)(c:α→Nat)(l:List α)(k:Int)(j:Nat)(d:α)(h:j<l.length):(Md f c l k j).getD j d=l.getD j d:=by
 have hl:(Ka f c (l.take j) k).length=j:=by rw [L0,Eo];omega
 simp [Md,List.getD,F1,hl]
theorem B6u [Inhabited α] (f:α→Int→α)(c:α→Nat)(l:List α)(k:Int)(j i:Nat)(h:j<l.length)(hi:i≠j):(Md f c l k (j+1)).getD i default=(Md f c l k j).getD i default:=by
 have e:l.take (j+1)=l.take j++[l.getD j default]:=by rw [A9t];simp [List.getD,h]
 have hl:(Ka f c (l.take j) k).length=j:=by rw [L0,Eo];omega
 have hd:l.drop j=l.getD j default::l.drop (j+1):=by rw [A3q h];simp [List.getD,h]
 simp only [Md,e,A1m,Cv,hd];simp only [List.getD]
 rcases Si hi with hi|hi
 ·rw [F2 A7,F2 A7]
 obtain ⟨m,hm⟩:∃m,i-j=m+1:=⟨i-j-1,by omega⟩
 conv=>lhs;rw [F1 A7,hl,hm]
 conv=>rhs;rw [F1 A7,hl,hm]
 simp [Ka]
theorem B9q [Inhabited α] (f:α→Int→α)(c:α→Nat)(l:List α)(k:Int)(j:Nat)(h:j<l.length):(Md f c l k (j+1)).getD j default=f (l.getD j default) (k+(((l.take j).map c).sum:Nat)):=by
 have e:l.take (j+1)=l.take j++[l.getD j default]:=by rw [A9t];simp [List.getD,h]
 have hl:(Ka f c (l.take j) k).length=j:=by rw [L0,Eo];omega
 simp only [Md,e,A1m]
 simp [List.getD,hl,Ka]
def Hb (row:Nat→List Ag) (j:Nat) (r:List Ag):Nat→List Ag:=fun i=>if i=j then r else row i
theorem Cu (row:Nat→List Ag)(j:Nat)(r:List Ag):Hb row j r j=r:=by simp [Hb]
theorem Qn (row:Nat→List Ag)(j i:Nat)(r:List Ag)(h:i≠j):Hb row j r i=row i:=by simp [Hb,h]
theorem Ja.refl (cs:List Ag):Ja cs cs:=by
 induction cs with
 |nil=>trivial
 |cons c cs ih=>exact ⟨.refl c,ih⟩
variable {r : List Ag}
theorem C0x {r':List Ag}(h:E7 r off cs=r'):Vi n es (Hb row j r) j off cs (.sl n es (Hb row j r')):=
 ⟨_,rfl,fun _ _ hi=>by rw [Qn _ _ _ _ hi,Qn _ _ _ _ hi],by rw [Cu,Cu,h]⟩
theorem C9s (row:Nat→List Ag)(j off:Nat)(v:Value)(hr:row j=r):(fun i=>if i=j then E7 (row i) off [.val v] else row i)=Hb row j (E7 r off [.val v]):=by
 funext i
 unfold Hb
 by_cases h:i=j
 ·subst h;rw [Ak rfl,Ak rfl,hr]
 rw [Ab h,Ab h]
open Go.RowKit (Below) in
theorem C8s {P:Program}(k k2:Nat)(off:Nat){c:Ag}(hk:Bl s.own k=some (.sl n es (Hb row j r)))(hj:j<n)(hc:r[off]? =some (.val v))(h2:Bl s.own k2=some c)(hl:Dm s.ay k2=some v)(hne:Nat.beq k k2=false){r':List Ag}(hr:E7 r off [c]=r')(h:GW P B Q K {s with own:=⟨k,.sl n es (Hb row j r')⟩::Ba [k,k2] s.own}):GW P B Q K s:=
 C8r k k2 hk hj (off:=off) (by rw [Cu];exact hc) h2 hl hne _ (C0x hr) h
theorem getD_set_self (l:List α)(j:Nat)(x d:α)(h:j<l.length):(l.set j x).getD j d=x:=by simp [List.getD,h]
theorem getD_set_ne (l:List α)(i j:Nat)(x d:α)(h:i≠j):(l.set j x).getD i d=l.getD i d:=by simp [List.getD,List.getElem?_set_ne (Ne.symm h)]
theorem B7v [Inhabited α] {e:α→List Ag}{xs:List α}{y x:α}(hj:j<xs.length)(hy:xs.getD j default=y)(h:E7 (e y) off cs=e x):
  Vi xs.length es (fun i=>e (xs.getD i default)) j off cs (Mr es e (xs.set j x)):=Dd hj (by rw [hy];exact h)
theorem Lr [Inhabited α] {e:α→List Ag}{xs:List α}{x1 x2:α}(hj:j<xs.length)(h:E7 (e x1) off cs=e x2):
  Vi (xs.set j x1).length es (fun i=>e ((xs.set j x1).getD i default)) j off cs (Mr es e (xs.set j x2)):=by
 refine ⟨_,by rw [Mr,Jz,Jz],fun i _ hne=>?_,?_⟩
 ·simp only [getD_set_ne _ _ _ _ _ hne]
 simp only [getD_set_self _ _ _ _ hj,h]
theorem Hk [Inhabited α] {e:α→List Ag}{xs:List α}{x2:α}(hj:j<xs.length)(h:E7 r off cs=e x2):
  Vi xs.length es (Hb (fun i=>e (xs.getD i default)) j r) j off cs (Mr es e (xs.set j x2)):=by
 refine ⟨_,by rw [Mr,Jz],fun i _ hne=>?_,?_⟩
 ·simp only [getD_set_ne _ _ _ _ _ hne,Qn _ _ _ _ hne]
 simp only [getD_set_self _ _ _ _ hj,Cu,h]
theorem B10 [Inhabited α] (f:α→Int→α)(c:α→Nat)(l:List α)(k:Int)(j:Nat)(h:j<l.length):
  (Md f c l k j).set j (f (l.getD j default) (k+(((l.take j).map c).sum:Nat)))=Md f c l k (j+1):=by
 apply A3i
 intro i;have hl:=Pn f c l k j;have hl':=Pn f c l k (j+1)
 by_cases hi:i=j
 ·subst hi
  have:=B9q f c l k i h
  rw [List.getElem?_set_self A7,←this]
  simp [List.getD,Cl (show i<(Md f c l k (i+1)).length by omega)]
 rw [List.getElem?_set_ne A7]
 have:=B6u f c l k j i h hi
 by_cases hb:i<l.length
 ·simp only [List.getD,Cl (show i<(Md f c l k (j+1)).length by omega),Cl (show i<(Md f c l k j).length by omega),Nn] at this
  rw [Cl A7,Cl A7,this]
 rw [T9 A7,T9 A7]
theorem U2 (c:α→Nat)(l:List α)(h:∀x,1≤c x):l.length≤(l.map c).sum:=by
 induction l with
 |nil=>simp
 |cons x r ih=>have:=h x;simp only [Gi,Gz,V9];omega
def Y5 (_:Int) (k:Int):Int:=k
def Nj (_:Int):Nat:=1
theorem B77 (c:α→Nat)(l:List α)(h:∀x,c x≤5):(l.map c).sum≤5 * l.length:=by
 induction l with
 |nil=>simp
 |cons x r ih=>have:=h x;simp only [Gz,V9,Gi];omega
theorem C9t (l:List Int):(l.map Nj).sum≤5 * l.length:=B77 _ _ fun _=>by simp only [Nj];omega
theorem Ff [Inhabited α] (xs:List α)(k:Nat)(h:k<xs.length):xs.take (k+1)=xs.take k++[xs.getD k default]:=by
 rw [A9t];simp [List.getD,h]
theorem Em [Inhabited α] (p:α→Bool)(xs:List α)(k:Nat)(h:k<xs.length):
  (xs.take (k+1)).filter p=(xs.take k).filter p++(if p (xs.getD k default)=true then [xs.getD k default] else []):=by
 rw [Ff xs k h,List.filter_append]
 congr 1
 by_cases hp:p (xs.getD k default)=true
 ·rw [Ak hp,List.filter_cons_of_pos hp,List.filter_nil]
 rw [Ab hp,List.filter_cons_of_neg hp,List.filter_nil]
theorem Dx (p:α→Bool)(xs:List α)(k:Nat):((xs.take k).filter p).length≤xs.length:=by
 have h1:=Ni p (xs.take k);have h2:=Lv k xs;have h3:=List.length_take_le' k xs;omega
theorem B9c {β:Type} [Inhabited α] (f:β→α→β)(z:β)(xs:List α)(k:Nat)(h:k<xs.length):
  (xs.take (k+1)).foldl f z=f ((xs.take k).foldl f z) (xs.getD k default):=by
 rw [Ff xs k h,A3r];rfl
theorem A71 {β:Type} [Inhabited α] (f:α→β)(xs:List α)(k:Nat)(h:k<xs.length):
  (xs.take (k+1)).map f=(xs.take k).map f++[f (xs.getD k default)]:=by
 rw [Ff xs k h,Qs];rfl
theorem C5i [Inhabited α] (p:α→Bool)(xs:List α)(k:Nat)(h:k<xs.length):
  (xs.take (k+1)).any p=((xs.take k).any p||p (xs.getD k default)):=by
 rw [Ff xs k h,List.any_append];simp
theorem A6k [Inhabited α] (p:α→Bool)(xs:List α)(k:Nat)(h:k<xs.length):
  (xs.take (k+1)).all p=((xs.take k).all p&&p (xs.getD k default)):=by
 rw [Ff xs k h,List.all_append];simp
theorem Am {d:α}{xs:List α}(h:k<xs.length):xs.getD k d∈xs:=by
 rw [List.getD,Cl h];exact A3h h
theorem R5 [Inhabited α] {p:α→Bool}{xs:List α}(h:k<xs.length)(hp:p (xs.getD k default)=true):xs.any p=true:=
 Tf.2 ⟨_,Am h,hp⟩
theorem A31 [Inhabited α] {p:α→Bool}{xs:List α}(h:k<xs.length)(hp:p (xs.getD k default)=false):xs.all p=false:=by
 rw [List.all_eq_false];exact ⟨xs.getD k default,Am h,by rw [hp];decide⟩
theorem F9 (xs:List α)(k:Nat)(h:¬ k<xs.length):xs.take k=xs:=K0 A7
theorem C3 [Inhabited α] {e:α→List Ag}:Ly (.sl 0 es row) (Mr es e ([]:List α)):=⟨rfl,rfl,fun _ h=>nomatch h⟩
variable {q : Prop} {p : Prop} {b : Bool}
theorem I3 (hb:b=true)(h:p):(b=true→p)∧(b=false→q):=⟨fun _=>h,fun e=>by rw [hb] at e;cases e⟩
theorem Hf (hb:b=false)(h:q):(b=true→p)∧(b=false→q):=⟨fun e=>(by rw [hb] at e;cases e),fun _=>h⟩
theorem H8 (hq:q)(hp:p:=by first|omega|(show _∧_;omega)|((repeat (first|rw [Ox]|rw [bsz]|rw [Nh]|rw [Gi]|rw [Ld]))<;>omega)|((repeat rw [Bu])<;>first|omega|(show _∧_;omega))|(simp only [Ox,bsz,Nh,Gi,Ld];omega)|(simp only [Bu];first|omega|(show _∧_;omega))|decide):p∧q:=⟨hp,hq⟩
theorem Co (hq:q)(hp:p:=by first|omega|(show _∧_;omega)|((repeat (first|rw [Ox]|rw [bsz]|rw [Nh]|rw [Gi]|rw [Ld]))<;>omega)|((repeat rw [Bu])<;>first|omega|(show _∧_;omega))|(simp only [Ox,bsz,Nh,Gi,Ld];omega)|(simp only [Bu];first|omega|(show _∧_;omega))|decide|(simp only [Qr,Tg,bne_iff_ne,A0m,Ml,Ur,Go.Sx.Ch,Go.Sx.G8,J7,Mk,ne_eq,Int.not_lt,Int.not_le,ge_iff_le,gt_iff_lt,Int.toNat_zero,Int.toNat_one,Bu] at * <;>first|omega|(show _∧_;omega))):p∧q:=⟨hp,hq⟩
theorem skf (h:q)(hb:b=false:=by first|with_reducible rfl|assumption|(simp;done)|fail):(b=true→p)∧(b=false→q):=Hf hb h
theorem skt (h:p)(hb:b=true:=by first|with_reducible rfl|assumption|(simp;done)|fail):(b=true→p)∧(b=false→q):=I3 hb h
theorem I1 (h:q)(hb:b=false:=by first|with_reducible rfl|assumption):(b=true→p)∧(b=false→q):=Hf hb h
theorem I2 (h:p)(hb:b=true:=by first|with_reducible rfl|assumption):(b=true→p)∧(b=false→q):=I3 hb h
open Go.RowKit (Below)
theorem B8v (hT:Bw P T){B:Fa}{Q:Exit→Act→World→Prop}{q:Bool}{all:Array Oper}{o:Oper}{rest:List Oper}{K:List KI}{s:AS}{t e:TypeId}{len:Nat}{parts:Array (Nat×Operand)}{i j:TI}
  (hg:o.guard=none)(ho:o.op= .buildSlice t len parts)(hi:find T t=some i)(hie:i.elem=some e)(hj:find T e=some j)(hsm:(Nat.ble (len * j.size) 10000&&Nat.blt 0 j.size)=true)
  {l:List AV}(hcs:Tq T (K3 len 0 j.size e) s parts.toList (repL len (Jr j))=some l){cs:List Ag}{ks:List Nat}(hc:V3 s.own l=some (cs,ks))(hkd:G2 ks=true)
  (h:G P B Q (.ops q all rest::K) (({s with own:=⟨s.next,.sl len j.size fun i=>(cs.drop (i * j.size)).take j.size⟩::Ba ks s.own,next:=s.next+1}:AS).put o.dst (.own s.next))):G P B Q (.ops q all (o::rest)::K) s:=by
 refine I9 hg (by rw [ho];simp [De]) (fun E a w hs=>?_);obtain ⟨f,d,z,S⟩:=TI.of_spec (hT e j hj);have hzs:z.cells.size=j.size:=by have:=S.zlen;rw [←S.cells] at this;simpa using this
 simp only [Ce] at hsm;have hpos:=Kh hsm.2;have hsmall:=Hv hsm.1;have hlen:len≤len * j.size:=Nat.le_mul_of_pos_right _ hpos
 have hz0:DL E w (s.ag E) s.next (repL len (Jr j)) ((Array.range (len * j.size)).map (z.cells[· % z.cells.size]!)):=by
  refine ⟨by simp [Mg,Jr,S.zlen],fun k y hy=>?_⟩;have hzl:(Jr j).length=j.size:=by simp [Jr,S.zlen]
  have hk:k<len * j.size:=by have:=(Cq.1 hy).1;rwa [Mg,hzl] at this
  rw [B7j _ _ _ (by rw [hzl];exact hk),hzl] at hy
  have:=(A53 (hT e j hj) S.cells E w (s.ag E) s.next).2 _ _ hy
  have hm:k % j.size<z.cells.size:=by rw [hzs];exact Yv _ (A0c (fun h=>by rw [h] at hk;simp at hk))
  have e1:((Array.range (len * j.size)).map (z.cells[· % z.cells.size]!)).getD k undef=z.cells.getD (k % j.size) undef:=by
   have:=Qa z.cells (len * j.size) k hk
   rw [show (Array.range (len * j.size)).map (z.cells[· % z.cells.size]!)=madeCells z.cells (len * j.size) from rfl,this,hzs]
   rw [getElem!_pos z.cells _ hm];simp only [Array.getD,hm,dif_pos];rfl
  rw [e1];exact this
 obtain ⟨cs',hfill,hDL⟩:=B27 hT hs (K3 len 0 j.size e) (fun k=>some (k * j.size,j.size)) (fun k o u hk j' hj'=>by
  obtain ⟨rfl,rfl⟩:=Yq _ _ _ _ _ _ _ hk;rw [hj] at hj';obtain rfl:=D3 hj'
  simp) parts.toList _ _ l hcs hz0
 have hll:l.length=len * j.size:=by
  have:=Y2 hcs
  rw [this,Mg]
  simp [Jr,S.zlen]
 have hcsl:cs'.size=len * j.size:=by have:=hDL.1;omega
 have hrun:(Instr.buildSlice t len (parts.map fun p=>(p.1,a.eval p.2))).run P w= .ok (.slice (some ⟨w.heap.size,0,none⟩) len len) (w.alloc (.cells cs' e)):=by
  have hnot:¬ (16777216<len * j.size):=by omega
  have hfill':Instr.fill (fun k=>some (k * j.size,j.size)) ((Array.range (len * j.size)).map (z.cells[· % z.cells.size]!)) (parts.map fun p=>(p.1,a.eval p.2)).toList=some cs':=by
   rw [A9o];exact hfill
  by_cases h0:len * j.size=0
  ·simp [Instr.buildSlice,run_underlying (Bz (hT t i hi) hie),Bf (hT e j hj),h0,newRow,Array.range_zero']
   simp [h0,Array.range_zero'] at hfill'
   rw [hfill']
   simp
  simp [Instr.buildSlice,run_underlying (Bz (hT t i hi) hie),Bf (hT e j hj),hnot,h0,newRow,zeroValue,typeInfo,S.hf,S.hz]
  simp at hfill'
  rw [hfill']
  simp
 have hnd:=Eg hkd;obtain ⟨q1,q2,gps,q3,q4,q5⟩:=A8f hs hc hnd (vs:=cs'.toList) (by simp only [Nq];omega) (fun m z hz=>by rw [Bn];exact hDL.2 m z hz);have hcl:cs.length=len * j.size:=by omega
 have hbel:=Jd w (.cells cs' e)
 have hlt:∀b∈(List.range cs.length).flatMap gps,b<w.heap.size:=by
  intro b hb;obtain ⟨k,hk,hb1⟩:=Ds.1 (q5 b hb);obtain ⟨y,hy,rfl⟩:=q2 k hk;exact (hs.own y hy).2.1.lt b hb1
 have hown:=Bp.sl (w:=w.alloc (.cells cs' e)) len j.size (fun i=>(cs.drop (i * j.size)).take j.size) w.heap.size 0 len e cs' gps
  (Df _) (by simp only [maxLen];omega) (heap_alloc_new w _) (by simp [hcsl]) (fun k hk=>by
   have h2:k * j.size+j.size≤len * j.size:=by rw [←Pc];exact Kd _ hk
   simp [hcl];omega) (fun k m c hk hc'=>by
   have hm:m<j.size:=by have:=(Cq.1 hc').1;simp at this;omega
   rw [X6,Ak hm,Tc] at hc';have ho:=q3 _ _ hc';rw [Bn] at ho;rw [show (0+k) * j.size+m=k * j.size+m by rw [Td]]
   refine ho.move (fun b hb=>?_);have hkl:k * j.size+m<cs.length:=(Cq.1 hc').1
   exact He w _ _ (hlt b (Ds.2 ⟨_,Ft.2 hkl,hb⟩)))
 rw [←hcl] at hown;have hfp:(w.heap.size::(List.range cs.length).flatMap gps).Nodup:=Ip.2 ⟨fun hm=>Nat.lt_irrefl _ (hlt _ hm),q4⟩;have hI:=hs.drop ks
 have key:∀b,b∈(List.range cs.length).flatMap gps→s.ag E b∧¬ ({s with own:=Ba ks s.own}:AS).ag E b:=by
  intro b hb;obtain ⟨k,hk1,hb1⟩:=Ds.1 (q5 b hb);obtain ⟨y,hy,rfl⟩:=q2 k hk1;refine ⟨.inr ⟨y,hy,hb1⟩,?_⟩
  rintro (⟨u,hu,rfl⟩|⟨u,hu,hb'⟩)
  ·exact hs.sepB u hu y hy hb1
  obtain ⟨hz1,hz2⟩:=Bh.1 hu;exact hs.sep y hy u hz1 (fun e=>hz2 (e▸hk1)) b hb1 hb'
 have hkept:B49 (fun _=>False) w (w.alloc (.cells cs' e)):=⟨rfl,rfl,rfl,by simp,fun k hk _=>He w _ _ hk⟩
 have hI2:=hI.kept hkept (fun b hb=>hb.elim)
 obtain ⟨k1,k2⟩:=hI2.addOwn hown hfp (fun b hb=>by
  rcases Ca.1 hb with rfl|hb
  ·refine ⟨.inr (Df _),fun hav=>?_,.inl hs.base.size⟩
   have:=hs.avoid_lt (hI.sub _ hav)
   omega
  exact ⟨.inl (key b hb).1,(key b hb).2,hs.fresh b (key b hb).1⟩)
 have hput:=(k1.put o.dst k2).is
 refine ⟨_,_,.inl (by
  obtain ⟨dst,op',ty',pos,after,guard⟩:=o
  simp only at ho
  subst ho
  simp only [execOp,Sem.run_bind,hrun,Result.andThen_ok];rfl),fun hk=>(by
   exact ⟨by simp,fun k hk=>He w _ _ hk⟩),h _ _ _ (by simpa [AS.addOwn] using hput)⟩
theorem Mv (hT:Bw P T){q:Bool}{e:TypeId}{len:Nat}{parts:Array (Nat×Operand)}{j:TI}{l:List AV}{ks:List Nat}(hh:(o.guard,o.op,find T t,i.elem,find T e,(Nat.ble (len * j.size) 10000&&Nat.blt 0 j.size),Tq T (K3 len 0 j.size e) s parts.toList (repL len (Jr j)),V3 s.own l,G2 ks)=(none,.buildSlice t len parts,some i,some e,some j,true,some l,some (cs,ks),true))(h:GW P B Q (.ops q all rest::K) (({s with own:=⟨s.next,.sl len j.size fun i=>(cs.drop (i * j.size)).take j.size⟩::Ba ks s.own,next:=s.next+1}:AS).put o.dst (.own s.next))):GW P B Q (.ops q all (o::rest)::K) s:=by
 simp only [J9] at hh;obtain ⟨hg,ho,hi,hie,hj,hsm,hcs,hc,hkd⟩:=hh;exact ⟨B8v hT hg ho hi hie hj hsm hcs hc hkd (h.rec id)⟩
theorem AS.is.reBox {E:Fm}{a:Act}{w:World}(h:s.is B E a w){b:Bx}(hb:Fs s.aw k=some b)(cells:List AV)(hd:∀vs:Array Value,vs.size=b.cells.length→(∀i y,b.cells[i]? =some y→Cm E w (s.ag E) s.next y (vs.getD i undef))→vs.size=cells.length∧∀j y,cells[j]? =some y→Cm E w (s.ag E) s.next y (vs.getD j undef)):
  ({s with aw:=Fj s.aw k cells}:AS).is B E a w:=by
 obtain ⟨hm,rfl⟩:=Fb hb
 have av:∀c,({s with aw:=Fj s.aw b.key cells}:AS).ag E c↔s.ag E c:=by
  intro c
  constructor
  ·rintro (⟨x,hx,rfl⟩|h)
   ·rcases Fe hx h.keys with ⟨h1,_,y,hy,h2⟩|⟨h1,_⟩
    ·exact .inl ⟨y,hy,by rw [h1,h2]⟩
    exact .inl ⟨x,h1,rfl⟩
   exact .inr h
  rintro (⟨x,hx,rfl⟩|h)
  ·obtain ⟨y,hy,e⟩:=B2j (k:=b.key) (cs:=cells) hx
   exact .inl ⟨y,hy,by rw [e]⟩
  exact .inr h
 have mv:∀x v,Cm E w (s.ag E) s.next x v→Cm E w (({s with aw:=Fj s.aw b.key cells}:AS).ag E) s.next x v:=
  fun x v hx=>hx.move (Df _) (fun _ _=>⟨rfl,rfl⟩) (fun _ _ _=>rfl) (fun c _ hc=>(av c).1 hc)
 refine ⟨h.defers,h.ay,h.size,fun i x hx=>mv _ _ (h.af i x hx),?_,?_,?_,h.own,h.ownkeys,h.sep,?_,h.one,h.base,fun c hc=>h.fresh c ((av c).1 hc)⟩
 ·intro x hx
  rcases Fe hx h.keys with ⟨h1,h2,_⟩|⟨h1,_⟩
  ·obtain ⟨g1,vs,ty,g2,g3,g4⟩:=h.aw b hm
   obtain ⟨e1,e2⟩:=hd vs g3 g4;exact ⟨h1▸g1,vs,ty,by rw [h1];exact g2,by rw [h2];exact e1,fun j y hj=>mv _ _ (e2 j y (by rw [←h2];exact hj))⟩
  obtain ⟨g1,vs,ty,g2,g3,g4⟩:=h.aw x h1;exact ⟨g1,vs,ty,g2,g3,fun j y hj=>mv _ _ (g4 j y hj)⟩
 ·intro x hx y hy he
  rcases Fe hx h.keys with ⟨h1,_⟩|⟨h1,_⟩<;>rcases Fe hy h.keys with ⟨g1,_⟩|⟨g1,_⟩
  ·rw [h1,g1]
  ·rw [h1] at he ⊢
   exact h.boxes2 b hm y g1 he
  ·rw [g1] at he ⊢
   exact h.boxes2 x h1 b hm he
  exact h.boxes2 x h1 y g1 he
 ·show ((Fj s.aw b.key cells).map (·.key)).Nodup
  rw [Qm];exact h.keys
 intro x hx y hy
 rcases Fe hx h.keys with ⟨h1,_⟩|⟨h1,_⟩
 ·rw [h1];exact h.sepB b hm y hy
 exact h.sepB x h1 y hy
theorem Xy (k off es:Nat)(row:Nat→List Ag){b:Bx}(hb:Fs s.aw k=some b)(hi:I7 b.cells off= .c (.val (.slice none 0 0)))(h:GW P B Q K {s with aw:=Fj s.aw k (C4 b.cells off (.own s.next)),own:=⟨s.next,.sl 0 es row⟩::s.own,next:=s.next+1}):GW P B Q K s:=by
 refine ⟨fun E a w hs=>?_⟩;have hI:s.isA B E (s.ag E) a w:=⟨hs.defers,hs.ay,hs.size,hs.af,hs.aw,hs.boxes2,hs.keys,hs.own,hs.ownkeys,hs.sep,hs.sepB,hs.one,hs.base,hs.fresh,fun _ h=>h⟩
 obtain ⟨k1,k2⟩:=hI.addOwn (.nil es row) Bi Bi;have k3:=k1.is
 have k4:=k3.reBox (k:=k) (b:=b) hb (C4 b.cells off (.own s.next)) (fun vs h1 h2=>by
  refine ⟨by rw [Bm];exact h1,fun j y hj=>?_⟩;rw [Ck] at hj
  split at hj
  ·rename_i hm
   obtain ⟨rfl,hm⟩:=hm;obtain rfl:=D3 hj;have hd:=h2 off (.c (.val (.slice none 0 0))) (by rw [C7,Cl hm] at hi;rw [Cl hm];simpa using hi);rw [B4 hd];exact k2.move (Df _) (fun _ _=>⟨rfl,rfl⟩) (fun _ _ _=>rfl) (fun b _ hb=>k1.sub b hb)
  exact h2 j y hj)
 exact h.out _ _ _ k4
theorem Al (id:Nat)(hm:P.follows .mixedOrders=true){ops:Array Oper}(ord:List Nat)(hB:C7e ops ord=true)(h:GW P B Q (.ops true ops (Zf ops ord)::K) s):GW P B Q (.code (.region id ops true)::K) s:=B5p hm ord hB h
theorem Bs [Inhabited α] {e:α→List Ag}{row1:Nat→List Ag}{xs:List α}:A0t 0 xs.length es row1 (fun i=>e (xs.getD i default)) (Mr es e xs):=
 ⟨_,by rw [Mr,Td],fun i hi=>by omega,fun i hi=>by simp⟩
theorem Rd [Inhabited α] {e:α→List Ag}(xs:List α)(h:∀x,∀c∈e x,∃v,c= .val v):F7 xs.length (fun i=>e (xs.getD i default)):=fun _ _=>h _
theorem Sq (xs:List Int):F7 xs.length (fun i=>[vi (xs.getD i default)]):=Rd (e:=fun n=>[vi n]) xs fun _x _c hc=>⟨_,Ke.1 hc⟩
theorem Ts (xs:List Bool):F7 xs.length (fun i=>[vb (xs.getD i default)]):=Rd (e:=fun n=>[vb n]) xs fun _x _c hc=>⟨_,Ke.1 hc⟩
theorem Ps (xs:List ByteArray):F7 xs.length (fun i=>[vs (xs.getD i default)]):=Rd (e:=fun n=>[vs n]) xs fun _x _c hc=>⟨_,Ke.1 hc⟩
theorem Iz (xs:List Aa):F7 xs.length (fun i=>Aa.c (xs.getD i default)):=Rd xs fun x c hc=>by
 simp only [Aa.c,Ca,Rs,T7] at hc
 rcases hc with rfl|rfl|rfl|rfl|rfl<;>exact ⟨_,rfl⟩
theorem Gb (xs:List Ad):F7 xs.length (fun i=>Ad.c (xs.getD i default)):=Rd xs fun x c hc=>by
 simp only [Ad.c,Ca,Rs,T7] at hc
 rcases hc with rfl|rfl|rfl|rfl<;>exact ⟨_,rfl⟩
theorem Gw (xs:List D8):F7 xs.length (fun i=>D8.c (xs.getD i default)):=Rd xs fun x c hc=>by
 simp only [D8.c,Ca,Rs,T7] at hc
 rcases hc with rfl|rfl|rfl<;>exact ⟨_,rfl⟩
theorem A67 (xs:List Gv):F7 xs.length (fun i=>Gv.c (xs.getD i default)):=Rd xs fun x c hc=>by
 simp only [Gv.c,Ca,Rs,T7] at hc
 rcases hc with rfl|rfl<;>exact ⟨_,rfl⟩
theorem Mc (xs:List G9):F7 xs.length (fun i=>G9.c (xs.getD i default)):=Rd xs fun x c hc=>by
 simp only [G9.c,Ca,Rs,T7] at hc
 rcases hc with rfl|rfl|rfl|rfl|rfl<;>exact ⟨_,rfl⟩
def Dv (n lo hi:Int):Bool:=if n≥lo then decide (n≤hi) else false
def Dl (n lo hi:Int):Int:=if hi<lo∨n<lo then lo else if hi<n then hi else n
def Es (key n:Int):Int:=if n<1 then 0 else if key.tmod n<0 then key.tmod n+n else key.tmod n
theorem Ch {n lo hi:Int}:Dv n lo hi=true↔lo≤n∧n≤hi:=by
 unfold Dv
 split
 ·simp;omega
 simp;omega
theorem Hc (n lo hi:Int)(h:lo≤hi):lo≤Dl n lo hi∧Dl n lo hi≤hi:=by
 unfold Dl
 split
 ·omega
 split<;>omega
theorem C42 (k:Nat)(h:k<4611686018427387904):IntKind.i64.wrap ((k:Int)+1)=((k+1:Nat):Int):=by
 rw [Ks (by show _∧_;omega)];omega
variable {x : A3}
theorem A3.workers_le (h:x.w≤n):x.aq.length≤n:=by simp only [A3.w,wS] at h;omega
theorem A3.tokens_le (h:x.w≤n):x.ap.length≤n:=by simp only [A3.w,wS] at h;omega
theorem A3.news_le (h:x.w≤n):x.ac.length≤n:=by simp only [A3.w,wS] at h;omega
theorem A3.worker_le (h:x.w≤n)(hk:k<x.aq.length):((x.aq.take k).map Ae.w).sum+(x.aq.getD k default).w≤n:=by
 have:=Gf Ae.w x.aq k hk
 simp only [A3.w,wS] at h;omega
theorem A3.link_le (h:x.w≤n)(hk:k<x.ay.length):((x.ay.take k).map D4.w).sum+(x.ay.getD k default).w≤n:=by
 have:=Gf D4.w x.ay k hk
 simp only [A3.w,wS] at h;omega
theorem Ad.eqv (x y:Ad):(x.op==y.op&&(x.ab==y.ab&&(x.key==y.key&&(x.val==y.val&&true))))=decide (x=y):=by
 obtain ⟨_,_,_,_⟩:=x;obtain ⟨_,_,_,_⟩:=y;rw [Th];simp [and_assoc]
def F6 (xs:List Aa) (e:Int):List Aa:=xs.filter fun r=>r.am.ab==e
def B9w (w:Ae) (e:Int):Bool:=w.au.any fun r=>decide (r.am.ab≤e)
def A9l (w:Ae) (e:Int):Nat:=(F6 w.ar e).length+(F6 w.ae e).length
def L4 (w:Ae) (e:Int):Bool:=if B9w w e then false else (A9l w e:Int)==0
def Kl (w:Ae) (e:Int):Bool:=w.ai.any fun d=>d.ab==e
def Qj (c:A3) (e:Int):Bool:=if 0<c.aq.length then Kl (c.aq.getD 0 default) e else false
theorem Ny (xs:List Aa)(e:Int):(F6 xs e).length≤xs.length:=Ni _ _
def Hq {α:Type} (p:α→Bool):List α→Nat
 | []=>0
 |x::r=>if p x=true then 0 else Hq p r+1
def P8 {α:Type} (p:α→Bool) (xs:List α):Int:=if xs.any p=true then (Hq p xs:Int) else-1
theorem C6i [Inhabited α] (p:α→Bool)(xs:List α)(k:Nat)(h:(xs.take k).any p=false)(hk:k<xs.length)(hp:p (xs.getD k default)=true):Hq p xs=k:=by
 induction xs generalizing k with
 |nil=>simp at hk
 |cons x r ih=>
  cases k with
  |zero=>
   simp only [X4] at hp
   simp [Hq,hp]
  |succ k=>
   simp only [A9u,List.any_cons,Bool.or_eq_false_iff] at h
   have:=ih k h.2 (by simpa using hk) (by simpa using hp)
   simp [Hq,h.1,this]
theorem Sp [Inhabited α] (p:α→Bool)(xs:List α)(k:Nat)(h:(xs.take k).any p=false)(hk:k<xs.length)(hp:p (xs.getD k default)=true):P8 p xs=k:=by
 rw [P8,Ak (R5 hk hp),C6i p xs k h hk hp]
theorem M4 (p:α→Bool)(xs:List α)(h:xs.any p=false):P8 p xs= -1:=by rw [P8,Ab (by rw [h];decide)]
theorem A2p (p:α→Bool)(xs:List α):decide (P8 p xs≥0)=xs.any p:=by
 unfold P8
 cases h:xs.any p with
 |true=>rw [Ak rfl];exact Dg A7
 |false=>rw [Ab Cw];exact Cb A7
theorem Gn [Inhabited α] {p:α→Bool}{xs:List α}(h:(xs.take k).any p=false)(hk:k<xs.length)(hp:p (xs.getD k default)=false):(xs.take (k+1)).any p=false:=by
 rw [C5i p xs k hk,h,hp];rfl
open Go.RowKit (Below)
abbrev vy (b:UInt8):Ag:= .val (.int .u8 b.toNat)
abbrev V4 (xs:List UInt8):Ag:=Mr 1 (fun b=>[vy b]) xs
theorem C8l (hT:Bw P T){q:Bool}{x:Operand}{u e:TypeId}{j l:TI}(hg:o.guard=none)(ho:o.op= .convert t u x)(hi:find T t=some i)(hie:i.elem=some e)(hj:find T e=some j)(hfl:j.flat=some [.int .u8])(hag:j.agg=false)(hl:find T u=some l)(hstr:l.str=true){bs:List UInt8}(hx:A5a s.own (s.ev x)=some (V4 bs))(h:G P B Q (.ops q all rest::K) (s.put o.dst (.v (.string ⟨bs.toArray⟩)))):G P B Q (.ops q all (o::rest)::K) s:=by
 refine Fo hg (fun E a w hs=>?_);have hr:=Vl hs hx (hs.ev x);have hu:=Bz (hT t i hi) hie;have hd:=Ql (hT u l hl) hstr;have he:P.underlying e=some (.int .u8):=A68 hT hj hag hfl;obtain ⟨dst,op',ty,pos,after,guard⟩:=o
 simp only at ho
 subst ho;generalize hv:a.eval x=v at hr;refine ⟨.string ⟨bs.toArray⟩,fun w' hk=>?_,h E _ w (hs.put dst (.c (.val _ rfl)))⟩;simp only [execOp,hv,Sem.run_bind];generalize hc:V4 bs=c at hr
 cases hr with
 |val x h=>simp [Mr] at hc
 |nil es row=>
  simp only [Mr,Ag.sl.injEq] at hc;obtain ⟨hc,_⟩:=hc;obtain rfl:=Np hc;rw [run_convert_bytes_nil w' t e hu he 0 0 u hd]
  rfl
 |emp es row a'=>
  simp only [Mr,Ag.sl.injEq] at hc;obtain ⟨hc,_⟩:=hc;obtain rfl:=Np hc;rw [run_convert_bytes_string w' t u e _ 0 0 hu he hd,run_bytesToString w' a' 0 0 [] (by simp [loadCells,loadCellsFrom])]
  rfl
 |sl n es row b off cap u' hA hn hcp hl' hu' hr'=>
  simp only [Mr,Ag.sl.injEq] at hc;obtain ⟨rfl,rfl,rfl⟩:=hc
  rw [run_convert_bytes_arg w' t e hu he b off bs.length cap (bs.map fun b=>(b.toNat:Int)) Bi (fun k hk'=>by
   have h1:=hk.cell (hu' k 0 hk' A7);have h2:=hr' k 0 _ hk' rfl;have h3:u' k 0= .int .u8 ((bs.getD k default).toNat):=by generalize u' k 0=z at h2;cases h2;rfl
   rw [h3] at h1;simp only [Nat.mul_one,Ru] at h1;rw [h1]
   simp [List.getD,hk']) u hd]
  simp only [Result.andThen_ok,Sem.run_pure]
  congr 3
  simp [strOfNums,Function.comp_def]
theorem D0z (hT:Bw P T){q:Bool}{x:Operand}{u e:TypeId}{j l:TI}(hh:(o.guard,o.op,find T t,i.elem,find T e,j.flat,j.agg,find T u,l.str)=(none,.convert t u x,some i,some e,some j,some [.int .u8],false,some l,true))(bs:List UInt8)(hx:A5a s.own (s.ev x)=some (V4 bs))(h:GW P B Q (.ops q all rest::K) (s.put o.dst (.v (.string ⟨bs.toArray⟩)))):GW P B Q (.ops q all (o::rest)::K) s:=by
 simp only [J9] at hh;obtain ⟨hg,ho,hi,hie,hj,hfl,hag,hl,hstr⟩:=hh;exact ⟨C8l hT hg ho hi hie hj hfl hag hl hstr hx (h.rec id)⟩
variable {ops : Array Oper}
def C12 (ops:Array Oper):List Nat→Array Bool→Option (Array Bool)
 | [],listed=>some listed
 |i::r,listed=>match ops[i]? with
  |some o=>match De o.op with
   | 0=>match (Region.ready .any ops listed).contains i&&B5x ops listed i o with
    |true=>C12 ops r (listed.setIfInBounds i true)
    |false=>none
   |_=>none
  |none=>none
def B3b (ops:Array Oper) (listed:Array Bool) (i:Nat) (t:List Nat):Bool:=
 match t with
 | []=>false
 |j::r=>j==i&&(ops[i]?).isSome&&Xk ops r (listed.setIfInBounds i true)
def C7f (ops:Array Oper) (pre:List Nat) (tails:List (List Nat)):Bool:=
 Region.noSelect ops&&tails.all (fun t=>pre.length+t.length==ops.size)&&match C12 ops pre (Array.replicate ops.size false) with
 |none=>false
 |some listed=>!(Region.ready .any ops listed).isEmpty&&!tails.isEmpty&&(Region.ready .any ops listed).all fun i=>tails.any (B3b ops listed i)
variable {tails : List (List Nat)}
theorem B5g (hsel:∀(j:Nat) (o:Oper) cs b,ops[j]? =some o→o.op≠ .select cs b){Q:Act→World→Prop}{m:Nat}(hm:∀t∈tails,t.length=m)(hne:tails≠[]):∀(pre:List Nat) (listed fin:Array Bool) (a:Act) (w:World),
  C12 ops pre listed=some fin→Pf ops listed→(Region.ready .any ops fin).isEmpty=false→((Region.ready .any ops fin).all fun i=>tails.any (B3b ops fin i))=true→
  (∀t∈tails,Fz P ops Q ((pre++t).filterMap fun i=>ops[i]?) a w)→Qx P ops Q (pre.length+m) listed a w
 | [],listed,fin,a,w,h,hc,hr,ht,hq=>by
  obtain rfl:=D3 h
  cases m with
  |zero=>
   exfalso
   match hl:Region.ready .any ops listed with
   | []=>rw [hl] at hr;simp at hr
   |i::r=>
    rw [hl] at ht;simp only [X0,Ce,Tf] at ht;obtain ⟨⟨t,h1,h2⟩,_⟩:=ht
    have:=hm t h1
    obtain rfl:=Np this
    simp [B3b] at h2
  |succ m=>
   rw [show ([]:List Nat).length+(m+1)=m+1 by simp]
   refine ⟨fun h0=>(by rw [h0] at hr;simp at hr),fun i hi=>?_⟩;have hi':=J6.1 ht i hi;obtain ⟨t,h1,h2⟩:=Tf.1 hi'
   match t,h2,hm t h1,hq t h1 with
   |j::r,h2,hlen,hq=>
    simp only [B3b,Ce,Qr] at h2;obtain ⟨⟨rfl,h3⟩,h4⟩:=h2;obtain ⟨o,ho⟩:=A9n.1 h3;have hl:r.length=m:=by simpa using hlen
    have ih:=fun a w=>A0w (P:=P) (Q:=Q) hsel r (listed.setIfInBounds j true) a w h4 (hc.set hi);rw [hl] at ih;have e:([]++j::r).filterMap (fun i=>ops[i]?)=o::r.filterMap fun i=>ops[i]? :=by simp [ho]
    rw [e] at hq;unfold opM;simp only [ho];unfold Fz at hq
    split
    ·rename_i hw
     rw [Ak hw] at hq
     rcases hq with ⟨v,h1,h2⟩|⟨_,hd⟩
     ·unfold Ki
      rw [h1 w (El.refl w)];exact ⟨fun _=>El.refl w,ih _ _ h2⟩
     exact hd.mono fun a w h=>ih a w h
    rename_i hw
    rw [Ab hw] at hq;exact ih _ _ hq
 |i::pre,listed,fin,a,w,h,hc,hr,ht,hq=>by
  unfold C12 at h
  split at h
  ·rename_i o ho
   split at h
   ·rename_i hk
    split at h
    ·rename_i hf
     simp only [Ce,A0h] at hf;obtain ⟨hrd,hf⟩:=hf
     have hfree:∀j oj,ops[j]? =some oj→j≠i→listed.getD j true=false→Wv ops ops.size j i=true∨(o.apart ops oj=true∧(P7 o.op=true∨De oj.op≤1)):=by
      intro j oj hoj hji hun
      have:=J6.1 hf j (Ft.2 (T8.1 hoj).1)
      simp only [hoj,hun,A3l,Yw,Qr,hji,false_or,Ce] at this;exact this.symm.imp id fun ⟨h1,h2⟩=>⟨h1,h2.imp id fun h=>Hv h⟩
     have hl:∀t,(i::pre++t).filterMap (fun i=>ops[i]?)=o::(pre++t).filterMap fun i=>ops[i]? :=fun t=>by simp [ho]
     have hy:∃v,Lw P ops o v a w∧∀t∈tails,Fz P ops Q ((pre++t).filterMap fun i=>ops[i]?) (a.put o.dst v) w:=by
      by_cases hw:Region.wanted o (yielded ops a.tmps)=true
      ·have one:∀t∈tails,∃v,(∀w',El w w'→(execOp a.eval o).run P w'= .ok (.value v) w')∧Fz P ops Q ((pre++t).filterMap fun i=>ops[i]?) (a.put o.dst v) w:=fun t ht=>by
        have:=hq t ht
        rw [hl] at this;unfold Fz at this;rw [Ak hw] at this
        rcases this with ⟨v,h1,h2⟩|⟨hn,_⟩
        ·exact ⟨v,h1,h2⟩
        exact absurd hk hn
       obtain ⟨t0,ht0⟩:=List.exists_mem_of_ne_nil _ hne;obtain ⟨v,h1,_⟩:=one t0 ht0;refine ⟨v,.inl ⟨hw,fun w' hk=>hk.elim (fun hb=>Sn hb a.eval (h1 w (El.refl w))) (h1 w')⟩,fun t ht=>?_⟩;obtain ⟨v',g1,g2⟩:=one t ht;have e1:=h1 w (El.refl w);have e2:=g1 w (El.refl w);rw [e1] at e2;simp only [Result.ok.injEq,Next.value.injEq,and_true] at e2;rw [e2];exact g2
      refine ⟨undef,.inr ⟨by simpa using hw,rfl⟩,fun t ht=>?_⟩
      have:=hq t ht
      rw [hl] at this;unfold Fz at this
      rwa [Ab hw] at this
     obtain ⟨v,hy,hK⟩:=hy;have ih:=B5g hsel hm hne pre _ fin _ w h (hc.set hrd) hr ht hK;rw [show (i::pre).length+m=(pre.length+m)+1 by simp;omega]
     exact Nr ho hsel ops.size (pre.length+m) listed a w hc hfree hrd hy ih
    simp at h
   simp at h
  simp at h
theorem B0z {id:Nat}{a:Act}{w:World}{pre:List Nat}(hm:P.follows .mixedOrders=true)(hB:C7f ops pre tails=true)(h:∀t∈tails,Fz P ops (fun a w=>Q .normal a w) (Zf ops (pre++t)) a {w with drawn:=w.drawn+1}):(Code.region id ops true).wp P Q a w:=by
 simp only [C7f,Ce] at hB;obtain ⟨⟨h1,h2⟩,h3⟩:=hB
 split at h3
 ·simp at h3
 rename_i fin hp
 simp only [Ce,Ml] at h3;obtain ⟨⟨h4,h5⟩,h6⟩:=h3;have hne:tails≠[]:=by rintro rfl;simp at h5
 have hlen:∀t∈tails,pre.length+t.length=ops.size:=fun t ht=>by simpa using List.all_eq_true.1 h2 t ht
 obtain ⟨t0,ht0⟩:=List.exists_mem_of_ne_nil _ hne;refine wp_region_any hm (Xa (Q:=fun a w=>Q .normal a w) (fun _ _ h=>h) _ _ _ _ ?_)
 have:=B5g (P:=P) (Q:=fun a w=>Q .normal a w) (Region.noSelect_spec h1) (m:=t0.length) (fun t ht=>by have:=hlen t ht;have:=hlen t0 ht0;omega) hne pre (Array.replicate ops.size false) fin a _ hp
  (fun j o _ hl=>by exfalso;by_cases hj:j<ops.size<;>simp [hj] at hl) h4 h6 h
 rwa [hlen t0 ht0] at this
def C5h (P:Program) (B:Fa) (Q:Exit→Act→World→Prop) (K:List KI) (s:AS) (ops:Array Oper) (pre:List Nat):List (List Nat)→Prop
 | []=>True
 |t::r=>GW P B Q (.ops true ops (Zf ops (pre++t))::K) s∧C5h P B Q K s ops pre r
theorem C23 {pre:List Nat}(h:C5h P B Q K s ops pre tails):∀t∈tails,GW P B Q (.ops true ops (Zf ops (pre++t))::K) s:=by
 induction tails with
 |nil=>simp
 |cons x r ih=>
  intro t ht
  rcases Ca.1 ht with rfl|ht
  ·exact h.1
  exact ih h.2 t ht
theorem D2k (pre:List Nat)(tails:List (List Nat))(hm:P.follows .mixedOrders=true){id:Nat}(hB:C7f ops pre tails=true)(h:C5h P B Q K s ops pre tails):GW P B Q (.code (.region id ops true)::K) s:=
 ⟨fun E a w hs=>B0z hm hB (fun t ht=>(C23 h t ht).rec fun h=>h E a _ (hs.call (w':= {w with drawn:=w.drawn+1}) ⟨rfl,rfl,rfl,Df _,fun _ _=>rfl⟩).is)⟩
end Go.Sx
set_option maxRecDepth 100000
namespace Go.Sx
open Go
variable {Q : Exit → Act → World → Prop}
theorem Q2 {B:Fa}{s:AS}(k:Nat)(c':Ag){c:Ag}(hk:Bl s.own k=some c)(hc:Ly c c')(h:RW B Q {s with own:=Je s.own k c'}):RW B Q s:=by
 refine ⟨fun E a w hs=>?_⟩;have hm:=C2 hk
 have av:∀b,({s with own:=Je s.own k c'}:AS).ag E b→s.ag E b:=by
  rintro b (hb|⟨y,hy,hb⟩)
  ·exact .inl hb
  obtain ⟨z,hz,e⟩:=Ie hy;exact .inr ⟨z,hz,by rw [e];exact hb⟩
 have mv:∀x v,Cm E w (s.ag E) s.next x v→Cm E w (({s with own:=Je s.own k c'}:AS).ag E) s.next x v:=fun x v hx=>
  hx.move (Df _) (fun _ _=>⟨rfl,rfl⟩) (fun _ _ _=>rfl) (fun b _ hb=>av b hb)
 obtain ⟨h⟩:=h;refine h E a w ⟨hs.defers,hs.ay,hs.size,fun i x hx=>mv _ _ (hs.af i x hx),fun x hx=>?_,hs.boxes2,hs.keys,fun y hy=>?_,by rw [Zr];exact hs.ownkeys,fun y hy z hz hne=>?_,fun x hx y hy=>?_,hs.one,hs.base,fun b hb=>hs.fresh b (av b hb)⟩
 ·obtain ⟨h1,vs,ty,h2,h3,h4⟩:=hs.aw x hx
  exact ⟨h1,vs,ty,h2,h3,fun i y hy=>mv _ _ (h4 i y hy)⟩
 ·rcases Xq hy with ⟨h1,h2,_⟩|⟨h1,_⟩
  ·obtain ⟨g1,g2,g3⟩:=hs.own _ hm
   rw [h1,h2];exact ⟨g1,hc.own g2,g3⟩
  exact hs.own y h1
 ·obtain ⟨y',hy',e1⟩:=Ie hy
  obtain ⟨z',hz',e2⟩:=Ie hz;rw [←e1,←e2];exact hs.sep y' hy' z' hz' (by rw [e1,e2];exact hne)
 obtain ⟨y',hy',e1⟩:=Ie hy;rw [←e1];exact hs.sepB x hx y' hy'
theorem A5c {B:Fa}{s:AS}(i es:Nat)(row:Nat→List Ag)(hi:I7 s.af i= .c (.val (.slice none 0 0)))(h:RW B Q {s with af:=C4 s.af i (.own s.next),own:=⟨s.next,.sl 0 es row⟩::s.own,next:=s.next+1}):RW B Q s:=by
 refine ⟨fun E a w hs=>?_⟩;have hI:s.isA B E (s.ag E) a w:=⟨hs.defers,hs.ay,hs.size,hs.af,hs.aw,hs.boxes2,hs.keys,hs.own,hs.ownkeys,hs.sep,hs.sepB,hs.one,hs.base,hs.fresh,fun _ h=>h⟩
 obtain ⟨k1,k2⟩:=hI.addOwn (.nil es row) Bi Bi;have k3:=k1.is;obtain ⟨h⟩:=h;refine h (E.withOwn s.next (.slice none 0 0) []) a w ⟨k3.defers,k3.ay,by rw [k3.size];exact (Bm _ _ _).symm,fun m z hz=>?_,k3.aw,k3.boxes2,k3.keys,k3.own,k3.ownkeys,k3.sep,k3.sepB,k3.one,k3.base,k3.fresh⟩
 simp only at hz
 rw [Ck] at hz
 split at hz
 ·rename_i hm
  obtain ⟨rfl,hm⟩:=hm;obtain rfl:=D3 hz;have hd:=hs.af i (.c (.val (.slice none 0 0))) (by rw [C7,Cl hm] at hi;rw [Cl hm];simpa using hi);rw [B4 hd]
  have:Cm (E.withOwn s.next (.slice none 0 0) []) w _ _ (.own s.next) (.slice none 0 0):=k2
  exact this.move (Df _) (fun _ _=>⟨rfl,rfl⟩) (fun _ _ _=>rfl) (fun b _ hb=>k1.sub b hb)
 exact k3.af m z hz
end Go.Sx
set_option maxRecDepth 100000
namespace Go.Sx
open Go
variable {α : Type} {es : Nat} {row : Nat → List Ag}
theorem C2d [Inhabited α] {e:α→List Ag}{xs:List α}{x y:α}(h0:row 0=e x)(h1:row 1=e y):
  A0t xs.length 2 es (fun i=>e (xs.getD i default)) row (Mr es e (xs++[x,y])):=by
 obtain ⟨r,hr,ha,hb⟩:=Ob es e xs [x,y];refine ⟨r,hr,ha,fun i hi=>?_⟩;rw [hb i hi]
 match i,hi with
 | 0,_=>exact h0.symm
 | 1,_=>exact h1.symm
theorem C77 [Inhabited α] {e:α→List Ag}{xs:List α}{x y z u:α}(h0:row 0=e x)(h1:row 1=e y)(h2:row 2=e z)(h3:row 3=e u):
  A0t xs.length 4 es (fun i=>e (xs.getD i default)) row (Mr es e (xs++[x,y,z,u])):=by
 obtain ⟨r,hr,ha,hb⟩:=Ob es e xs [x,y,z,u];refine ⟨r,hr,ha,fun i hi=>?_⟩;rw [hb i hi]
 match i,hi with
 | 0,_=>exact h0.symm
 | 1,_=>exact h1.symm
 | 2,_=>exact h2.symm
 | 3,_=>exact h3.symm
theorem Ja.rfl':∀l:List Ag,Ja l l
 | []=>trivial
 |_::l=>⟨.inl rfl,Ja.rfl' l⟩
theorem C3a [Inhabited α] {e:α→List Ag}{x y z u:α}(h0:row 0=e x)(h1:row 1=e y)(h2:row 2=e z)(h3:row 3=e u):
  Ly (.sl 4 es row) (Mr es e [x,y,z,u]):=by
 refine ⟨rfl,rfl,fun i hi=>?_⟩
 match i,hi with
 | 0,_=>rw [h0];exact Ja.rfl' _
 | 1,_=>rw [h1];exact Ja.rfl' _
 | 2,_=>rw [h2];exact Ja.rfl' _
 | 3,_=>rw [h3];exact Ja.rfl' _
theorem Pj (f:Nat→List α)(k:Nat):(List.range (k+1)).flatMap f=(List.range k).flatMap f++f k:=by
 rw [Sj,A0k];simp
def pW (w:Nat):List Ea:=[⟨1,w,0⟩,⟨3,w,0⟩,⟨2,w,0⟩,⟨7,w,0⟩]
def pK (w k:Nat):List Ea:=if (w:Int)=k then [] else [⟨4,w,k⟩,⟨5,w,k⟩]
def pA (n:Nat):List Ea:=(List.range n).flatMap pW
def pB (w j:Nat):List Ea:=(List.range j).flatMap (pK w)
def pC (n m:Nat):List Ea:=(List.range m).flatMap fun w=>pB w n
def pE (e:Nat):List Ea:=(List.range e).map fun e=>⟨6,(e:Nat),0⟩
def Qw (n:Nat):List Ea:=pA n++pC n n++pE 4
theorem B33 (k:Nat):pA (k+1)=pA k++pW k:=Pj _ _
theorem B34 (w k:Nat):pB w (k+1)=pB w k++pK w k:=Pj _ _
theorem B35 (n k:Nat):pC n (k+1)=pC n k++pB k n:=Pj _ _
theorem C11 (k:Nat):pE (k+1)=pE k++[⟨6,(k:Nat),0⟩]:=by simp [pE,Sj]
theorem A8h (k:Nat):(pA k).length=4 * k:=by
 induction k with
 |zero=>rfl
 |succ k ih=>rw [B33,D7,ih];rfl
theorem D1y (w k:Nat):(pK w k).length≤2:=by unfold pK;split<;>simp
theorem B91 (w k:Nat):(pB w k).length≤2 * k:=by
 induction k with
 |zero=>exact Df _
 |succ k ih=>rw [B34,D7];have:=D1y w k;omega
theorem A8i (n k:Nat)(hn:n≤4):(pC n k).length≤8 * k:=by
 induction k with
 |zero=>exact Df _
 |succ k ih=>rw [B35,D7];have:=B91 k n;omega
theorem B92 (k:Nat):(pE k).length=k:=by simp [pE]
theorem A0v (n:Nat)(hn:n≤4):(Qw n).length≤52:=by
 have:=A8i n n hn
 simp only [Qw,D7,A8h,B92];omega
theorem D0h (w k:Nat)(h:k<4):(pW w).take (k+1)=(pW w).take k++[⟨([1,3,2,7]:List Int).getD k default,w,0⟩]:=by
 match k,h with
 | 0,_=>rfl
 | 1,_=>rfl
 | 2,_=>rfl
 | 3,_=>rfl
end Go.Sx
set_option maxRecDepth 100000
namespace Go.Sx
open Go
variable {P : Program} {T : List (TypeId × TI)}
def bnd (s:AS) (x:Option Operand) (d:Int):Option Int:=
 match x with
 |none=>some d
 |some y=>match s.ev y with
  | .c (.val (.int _ v))=>some v
  |_=>none
def C46 (x:Option Value) (l d:Int):Prop:=(x=none∧l=d)∨∃k,x=some (.int k l)
variable {l : Int}
theorem Kv {B:Fa}{E:Fm}{a:Act}{w:World}{s:AS}(hs:s.is B E a w){x:Option Operand}{d:Int}(h:bnd s x d=some l):C46 (x.map a.eval) l d:=by
 cases x with
 |none=>exact .inl ⟨rfl,(D3 h).symm⟩
 |some y=>
  refine .inr ?_;simp only [bnd] at h;have hd:=hs.ev y;generalize s.ev y=z at h hd
  split at h
  ·rename_i k v
   obtain rfl:=D3 h;have e:=B4 hd;exact ⟨k,by simp [e]⟩
  cases h
def Xz (n es:Nat) (row:Nat→List Ag) (l h:Int) (c:Ag):Prop:=∃row',c= .sl (h-l).toNat es row'∧∀i,i<(h-l).toNat→row' i=row (l.toNat+i)
variable {h : Int}
theorem B4f {t e:TypeId}{i j:TI}(hi:TI.of P t=some i)(he:i.elem=some e)(hj:TI.of P e=some j){a:Option Addr}{len cap:Nat}{lo hi':Option Value}(hl:C46 lo l 0)(hh:C46 hi' h len)(h0:0≤l)(h1:l≤h)(h2:h≤len)(h3:len≤cap)(w:World):
  (Instr.sliceAt t (.slice a len cap) lo hi' none).run P w= .ok (sliced a l.toNat h.toNat cap j.size) w:=by
 have hu:=Bz hi he;have hel:P.elem t=e:=by simp [Program.elem,hu]
 have hu':P.underlying t=some (.slice (P.elem t)):=by rw [hel];exact hu
 have hz:∀w,(sizeOf (P.elem t)).run P w= .ok j.size w:=fun w=>by rw [hel];exact Bf hj w
 rw [run_sliceAt_slice w t _ _ _ _ hu']
 rcases hl with ⟨rfl,rfl⟩|⟨k1,rfl⟩<;>rcases hh with ⟨rfl,rfl⟩|⟨k2,rfl⟩
 ·rw [run_slice_all w t a len cap hu',hz];simp [Result.andThen]
 ·rw [run_slice_h w t a len cap hu' k2 h h1 A7,hz];simp [Result.andThen]
 ·rw [run_slice_l w t a len cap hu' k1 l h0 A7,hz];simp [Result.andThen]
 rw [run_slice_lh w t a len cap hu' k1 k2 l h h0 h1 A7,hz];simp [Result.andThen]
variable {es : Nat} {row : Nat → List Ag}
theorem D0o {w:World}{A:Nat→Prop}{n:Nat}{v:Value}(hr:R2 w A (.sl n es row) v)(h0:0≤l)(h1:l≤h)(h2:h≤n){c:Ag}(hc:Xz n es row l h c):
  ∃a cap,v= .slice a n cap∧n≤cap∧R2 w A c (sliced a l.toNat h.toNat cap es):=by
 obtain ⟨row',rfl,hrow⟩:=hc
 cases hr with
 |nil=>
  refine ⟨none,0,rfl,Df _,?_⟩;have e1:l=0:=by omega
  have e2:h=0:=by omega
  subst e1;subst e2;exact .nil _ _
 |emp _ _ a=>
  refine ⟨some a,0,rfl,Df _,?_⟩;have e1:l=0:=by omega
  have e2:h=0:=by omega
  subst e1;subst e2;exact .emp _ _ a
 |sl _ _ _ b off cap u hA hn hcap hl hu hrr=>
  refine ⟨_,cap,rfl,hn,?_⟩;obtain ⟨p,rfl⟩:∃p:Nat,l=p:=⟨l.toNat,by omega⟩;obtain ⟨q,rfl⟩:∃q:Nat,h=q:=⟨h.toNat,by omega⟩;have e:((q:Int)-p).toNat=q-p:=by omega
  simp only [Bu] at hrow ⊢;rw [e] at hrow ⊢;unfold sliced
  by_cases hcl:cap=p
  ·have e1:q-p=0:=by omega
   have e2:cap-p=0:=by omega
   rw [Ak hcl,e1,e2];exact .emp _ _ _
  rw [Ab hcl]
  have ea:(some (⟨b,off,none⟩:Addr)).map (fun x=>x.add (p * es))=some ⟨b,off+p * es,none⟩:=by
   simp only [Pd,Addr.add]
   split
   ·rename_i h;rw [h];rfl
   rfl
  have eb:(some (⟨b,off,none⟩:Addr)).map (·.add (p * es))=some ⟨b,off+p * es,none⟩:=ea;rw [eb];refine .sl (q-p) es row' b (off+p * es) (cap-p) (fun i j=>u (p+i) j) (fun h=>hA ?_) A7 A7 (fun i hi=>?_) (fun i j hi hj=>?_) (fun i j c hi hj=>?_)
  ·exact Kc h (Kd _ A7)
  ·rw [hrow i hi];exact hl _ A7
  ·have:=hu (p+i) j A7 hj
   rw [G0] at this;rw [show off+p * es+i * es+j=off+(p * es+i * es)+j by omega]
   exact this
  rw [hrow i hi] at hj;exact hrr (p+i) j c A7 hj
theorem P3 (hT:Bw P T){B:Fa}{Q:Exit→Act→World→Prop}{q:Bool}{all:Array Oper}{o:Oper}{rest:List Oper}{K:List KI}{s:AS}{t e:TypeId}{x:Operand}{lo hi:Option Operand}{i j:TI}{n:Nat}(hh:(o.guard,o.op,find T t,i.elem,find T e,s.ev x,es,bnd s lo 0,bnd s hi n)=(none,.slice t x lo hi none,some i,some e,some j,.c (.sl n es row),j.size,some l,some h))(hb:0≤l∧l≤h∧h≤n)(c:Ag)(hc:Xz n es row l h c)(hgo:GW P B Q (.ops q all rest::K) (s.put o.dst (.c c))):GW P B Q (.ops q all (o::rest)::K) s:=by
 simp only [J9] at hh;obtain ⟨hg,ho,hi',he,hj,hx,hes,hl,hh⟩:=hh;subst hes;refine ⟨Fo hg (fun E a w hs=>?_)⟩;have hd:=hs.ev x;rw [hx] at hd
 cases hd with
 |c hr=>
  obtain ⟨ad,cap,hv,hcap,hrep⟩:=D0o hr hb.1 hb.2.1 hb.2.2 hc;have h1:=Kv hs hl;have h2:=Kv hs hh;refine ⟨_,fun w' _=>?_,hgo.rec fun hg=>hg _ _ _ (hs.put o.dst (.c hrep))⟩;have hrun:=B4f (a:=ad) (hT t i hi') he (hT e j hj) h1 h2 hb.1 hb.2.1 hb.2.2 hcap w';obtain ⟨dst,op',ty,pos,after,guard⟩:=o
  simp only at ho
  subst ho
  simp [execOp,hv,hrun]
theorem Xr {α:Type} [Inhabited α] {e:α→List Ag}{xs:List α}(h0:0≤l)(h1:l≤h)(h2:h≤xs.length):
  Xz xs.length es (fun i=>e (xs.getD i default)) l h (Mr es e ((xs.drop l.toNat).take (h-l).toNat)):=by
 have hlen:((xs.drop l.toNat).take (h-l).toNat).length=(h-l).toNat:=by simp;omega
 refine ⟨_,by rw [Mr,hlen],fun i hi=>?_⟩
 simp [List.getD,hi]
end Go.Sx
set_option maxRecDepth 100000
namespace Go.Sx
open Go
open Go.RowKit (Below)
variable {P : Program} {T : List (TypeId × TI)}
def Dy (P:Program) (H:World→Prop) (f:FuncId) (ins ax:List Gl):Prop:=
 Lk P f∧∀(w:World),H w→∀(vs:List Value),vs.length=ins.length→(∀i x,ins[i]? =some x→Lf w (fun _=>False) x (vs.getD i undef))→
  Calls P f vs.toArray w fun e w'=>Jb w w' ax e
def A6c (H:World→Prop):Prop:=∀w w',Below w.heap.size w w'→H w→H w'
variable {W : World}
theorem Pg {w:World}(h:Fa.rel ⟨W,fun _=>False⟩ w):Below W.heap.size W w:=⟨h.os,h.tape,h.output,h.size,fun k hk=>h.block k hk (fun h=>h)⟩
variable {H : World → Prop} {Q : Exit → Act → World → Prop} {q : Bool} {f : FuncId} {xs : List AV} {dst : Option Tmp} {K : List KI} {s : AS} {ins : List Gl} {ax : List Gl}
theorem C28 (hf:Dy P H f ins ax)(hst:A6c H)(hW:H W)(hx:Ix s xs=some ins)(h:G P ⟨W,fun _=>False⟩ Q K ((Ho ax s).2.put dst (Ho ax s).1)):A3v P ⟨W,fun _=>False⟩ Q q f xs dst K s:=by
 refine ⟨hf.1,fun E a w hs vs hl hv=>?_⟩;obtain ⟨h1,h2⟩:=Ji hx;refine (hf.2 w (hst W w (Pg hs.base) hW) vs A7 (fun i x hi=>?_)).mono (fun e w' hg=>?_)
 ·obtain ⟨y,hy,hc⟩:=h2 i x hi
  exact Ku hs hc (hv i y hy)
 obtain ⟨hb,rs,fps,rfl,hrl,hro,hfr,hdis⟩:=hg;have hA:=hs.call hb
 obtain ⟨E',hAd,hL,hD⟩:=M3 ax rs fps s E hA hrl hro (fun i hi=>(hfr i hi).1) hdis (fun i hi b hb'=>by
  have hge:=(hfr i hi).2 b hb';refine ⟨.inr hge,fun hav=>?_,.inl (Ew hs.base.size hge)⟩
  have:=hs.avoid_lt hav
  omega)
 have hres:=Gp ax (Dk ax s).1 rs hrl hL hD;rw [Sk] at h;exact ⟨_,rfl,fun _=> .of_below hb,h E' _ w' ((hAd.isA.put dst hres).is)⟩
theorem C5u (hf:Dy P H f ins ax)(hst:A6c H)(hW:H W)(hx:Ix s xs=some ins)(h:G P ⟨W,fun _=>False⟩ Q K (s.put dst (Pa ax))):A3v P ⟨W,fun _=>False⟩ Q q f xs dst K s:=by
 refine ⟨hf.1,fun E a w hs vs hl hv=>?_⟩;obtain ⟨h1,h2⟩:=Ji hx;refine (hf.2 w (hst W w (Pg hs.base) hW) vs A7 (fun i x hi=>?_)).mono (fun e w' hg=>?_)
 ·obtain ⟨y,hy,hc⟩:=h2 i x hi
  exact Ku hs hc (hv i y hy)
 obtain ⟨hb,rs,fps,rfl,hrl,hro,hfr,hdis⟩:=hg;have hI:=(hs.call hb).is
 have hno:∀i,i<ax.length→∀b∈fps i,¬ s.ag E b:=fun i hi b hb' hav=>by
  have:=hs.avoid_lt hav
  have:=(hfr i hi).2 b hb'
  omega
 have hone:∀i y,ax[i]? =some y→Cm E w' (s.ag E) s.next (La y) (rs.getD i undef):=by
  intro i y hy;have hi:i<ax.length:=(Cq.1 hy).1;have ho:=hro i y hy
  cases y with
  |one c=>exact .c (Bp.rep ho (hno i hi))
  |agg cs=>
   obtain ⟨us,gps,hu,hul,hur,hfp⟩:=ho;rw [hu];refine .agg us (by simp [hul]) (fun j x hj=>?_);simp only [E8,Ee] at hj;obtain ⟨c,hc,rfl⟩:=hj;have hj:j<cs.length:=(Cq.1 hc).1;exact .c ((hur j c hc).rep (fun b hb'=>hno i hi b (by rw [hfp];exact Du hj hb')))
  |ptr cs=>exact ho.elim
  |fn f an=>exact ho.elim
 have hres:Cm E w' (s.ag E) s.next (Pa ax) (Ir rs):=by
  have:=Gp (E:=E) (A:=s.ag E) (N:=s.next) (w:=w') ax (ax.map La) rs hrl Bi (fun i x hi=>by
   simp only [E8,Ee] at hi;obtain ⟨y,hy,rfl⟩:=hi
   exact hone i y hy)
  match ax,this with
  | [],this=>exact this
  | [o],this=>exact this
  |o1::o2::r,this=>exact this
 exact ⟨_,rfl,fun _=> .of_below hb,h E _ w' (hI.put dst hres)⟩
theorem C9l {fn:Func}{c:Code}(hf:P.funcs[f]? =some fn)(hb:fn.body=some c)(hn:(fn.name== "runtime.NumGoroutine")=false)(h:∀W,H W→G P ⟨W,fun _=>False⟩ (bodyPost P fn fun e w'=>Jb W w' ax e) [.code c] (F4 fn.ntmps ins)):Dy P H f ins ax:=by
 refine ⟨⟨fn,hf,hn,by simp [hb]⟩,fun w hH vs hl hv=>calls_of_wp hf hb ?_⟩
 refine h w hH ⟨fun _=> .slice none 0 0,fun _=>[]⟩ _ w ?_
 have nav:∀b,¬ (F4 fn.ntmps ins).ag ⟨fun _=> .slice none 0 0,fun _=>[]⟩ b:=by
  rintro b (⟨x,hx,_⟩|⟨y,hy,_⟩)
  ·simp [F4] at hx
  simp [F4] at hy
 have nb:∀x,x∉(F4 fn.ntmps ins).aw:=by simp [F4]
 have no:∀x,x∉(F4 fn.ntmps ins).own:=by simp [F4]
 refine ⟨rfl,by simp [F4],by simp [F4,hl],fun i x hx=>?_,fun x hx=>absurd hx (nb x),fun x hx=>absurd hx (nb x),by simp [F4],fun y hy=>absurd hy (no y),by simp [F4],fun y hy=>absurd hy (no y),fun x hx=>absurd hx (nb x),fun _ _=>rfl,
  ⟨rfl,rfl,rfl,Df _,fun _ _ _=>rfl⟩,fun b hb=>absurd hb (nav b)⟩
 simp only [F4] at hx
 by_cases hi:i<ins.length
 ·rw [F2 (by simpa using hi)] at hx
  simp only [E8,Ee] at hx;obtain ⟨y,hy,rfl⟩:=hx;have hr:=hv i y hy;have hiv:i<vs.length:=by omega
  have e:(vs.toArray++Array.replicate (fn.ntmps-vs.toArray.size) undef).getD i undef=vs.getD i undef:=by
   simp [Array.getD,List.getD,hiv,show i<vs.length+(fn.ntmps-vs.length) by omega]
  rw [e]
  cases y with
  |one c=>exact .c (hr.move (fun _ _ _=>rfl) (fun b _ hb=>absurd hb (nav b)))
  |agg cs=>
   obtain ⟨us,hu,hul,hur⟩:=hr;rw [hu];refine .agg us (by simp [hul]) (fun j x hj=>?_);simp only [E8,Ee] at hj;obtain ⟨c,hc,rfl⟩:=hj;exact .c ((hur j c hc).move (fun _ _ _=>rfl) (fun b _ hb=>absurd hb (nav b)))
  |ptr cs=>exact hr.den (fun b hb=>absurd hb (nav b))
  |fn f an=>
   obtain ⟨us,hu,hul,hur⟩:=hr;rw [hu];refine .fn us (by simp [hul]) (fun j x hj=>?_);simp only [E8,Ee] at hj;obtain ⟨c,hc,rfl⟩:=hj;have hr:=hur j c hc
   cases c with
   |one c=>exact .c (R2.move hr (fun _ _ _=>rfl) (fun b _ hb=>absurd hb (nav b)))
   |ptr cs=>exact Oz.den hr (fun b hb=>absurd hb (nav b))
 rw [F1 Qv] at hx
 obtain rfl:AV.any=x:=by
  have:=Gs hx
  simpa using (Te this).symm
 exact .any _
theorem Ga (hT:Bw P T)(wr:Bool){fn:Func}{c:Code}(hf:P.funcs[f]? =some fn)(hb:fn.body=some c)(hn:(fn.name== "runtime.NumGoroutine")=false)(h:∀W,H W→vcW P ⟨W,fun _=>False⟩ (bodyPost P fn fun e w'=>Jb W w' ax e) (Pq T wr 100000 [.code c] (F4 fn.ntmps ins))):Dy P H f ins ax:=
 C9l hf hb hn fun W hW=>(go hT wr (h W hW)).rec id
theorem To (hf:Dy P H f ins ax)(hst:A6c H)(hW:H W)(hx:Ix s xs=some ins)(h:GW P ⟨W,fun _=>False⟩ Q K ((Ho ax s).2.put dst (Ho ax s).1)):CW P ⟨W,fun _=>False⟩ Q q f xs dst K s:=⟨C28 hf hst hW hx (h.rec id)⟩
theorem Dt (hf:Dy P H f ins ax)(hst:A6c H)(hW:H W)(hx:Ix s xs=some ins)(h:GW P ⟨W,fun _=>False⟩ Q K (s.put dst (Pa ax))):CW P ⟨W,fun _=>False⟩ Q q f xs dst K s:=⟨C5u hf hst hW hx (h.rec id)⟩
end Go.Sx
set_option maxRecDepth 100000
namespace Go.Sx
open Go
def Iq (u:Nat):Nat→Nat
 | 0=>u
 |k+1=>Iq u k / 10
def A5d (u:Nat):Nat→List UInt8
 | 0=>[]
 |k+1=>UInt8.ofNat (48+Iq u k % 10)::A5d u k
theorem A14 (u k:Nat):(A5d u k).length=k:=by
 induction k with
 |zero=>rfl
 |succ k ih=>simp [A5d,ih]
theorem C1s (u k:Nat):Iq u k=u / 10 ^ k:=by
 induction k with
 |zero=>simp [Iq]
 |succ k ih=>rw [Iq,ih,Nat.div_div_eq_div_mul,Nat.pow_succ]
def C47 (u k:Nat):Prop:=(0<Iq u k∧Lib.decDigits u=Lib.decDigits (Iq u k)++A5d u k)∨(Iq u k=0∧Lib.decDigits u=A5d u k)
theorem B1e {u:Nat}(h:0<u):C47 u 0:= .inl ⟨h,by simp [Iq,A5d]⟩
theorem A2n {u k:Nat}(h:C47 u k)(hm:0<Iq u k):C47 u (k+1):=by
 rcases h with ⟨_,h⟩|⟨h,_⟩
 ·by_cases hs:Iq u k<10
  ·refine .inr ⟨by rw [Iq];omega,?_⟩
   rw [h,Lib.decDigits,dif_pos hs,A5d,A9q hs];rfl
  refine .inl ⟨by rw [Iq];omega,?_⟩;rw [h,Lib.decDigits,dif_neg hs,A5d,Iq];simp
 omega
theorem C1t (u k:Nat):Iq u k≤u:=by rw [C1s];exact Nat.div_le_self _ _
theorem C7g {u k:Nat}(hu:u≤9223372036854775808)(hm:0<Iq u k):k<19:=by
 rw [C1s] at hm
 by_cases h:k<19
 ·exact h
 exfalso
 have h1:10 ^ 19≤10 ^ k:=Nat.pow_le_pow_right Cw A7;have h2:u<10 ^ k:=Kc A7 h1;rw [Nat.div_eq_of_lt h2] at hm;omega
theorem D18 {σ:Int}(hσ:σ=1∨σ= -1)(m:Nat):(σ * (m:Int)).tdiv 10=σ * ((m / 10:Nat):Int):=by
 rcases hσ with rfl|rfl
 ·simp only [Int.one_mul];rw [Int.tdiv_eq_ediv_of_nonneg A7];omega
 rw [show (-1:Int) * (m:Int)= -(m:Int) by omega,Int.neg_tdiv,Int.tdiv_eq_ediv_of_nonneg A7];omega
theorem C8q {σ:Int}(hσ:σ=1∨σ= -1)(m:Nat):(σ * (m:Int)).tmod 10=σ * ((m % 10:Nat):Int):=by
 rcases hσ with rfl|rfl
 ·simp only [Int.one_mul];rw [Int.tmod_eq_emod_of_nonneg A7];omega
 rw [show (-1:Int) * (m:Int)= -(m:Int) by omega,Int.neg_tmod,Int.tmod_eq_emod_of_nonneg A7];omega
def Ia (n:Int):ByteArray:=⟨(Lib.itoa n).toArray⟩
end Go.Sx
set_option maxRecDepth 100000
namespace Go.Sx
open Go
open Go.RowKit (Below)
variable {P : Program}
variable {w : World}
theorem Xf {w':World}{x:Value}(hb:Below w.heap.size w w')(h:x.oneCell'=true):Jb w w' [.one (.val x)] (.returned x):=
 ⟨hb,[x],fun _=>[],rfl,rfl,fun i y hi=>by
  cases i with
  |zero=>simp only [Fq,Ei] at hi;subst hi;exact .val x h
  |succ i=>simp at hi,fun i hi=>⟨List.nodup_nil,fun b hb=>by cases hb⟩,fun i j hi hj hne b hb=>by cases hb⟩
theorem Ub {A:Nat→Prop}{x v:Value}(h:R2 w A (.val x) v):v=x:=by
 cases h;rfl
theorem B8s (w:World)(k:Nat)(os:Array Obj):Below w.heap.size w (Sort.grow (w.drewN k) os):=
 ⟨rfl,rfl,rfl,by rw [Sort.size_grow];exact Us _ _,fun i hi=>(Sort.heap_grow_old (w.drewN k) os hi)⟩
theorem Xw {n:String}{cs:Array Value}{w':World}(hb:Below w.heap.size w w')(h:w.var? P n=some cs):w'.var? P n=some cs:=by
 unfold World.var? at h ⊢
 cases hg:P.globalNamed n with
 |none=>rw [hg] at h;cases h
 |some g=>
  rw [hg] at h;simp only [Option.bind_some] at h ⊢
  have hlt:g<w.heap.size:=by
   by_cases hlt:g<w.heap.size
   ·exact hlt
   exfalso;rw [Array.getElem?_eq_none A7] at h;cases h
  rw [hb.block g hlt];exact h
theorem A6p {α:Type} [Inhabited α] {es:Nat}{e:α→List Ag}{x:α}{row:Nat→List Ag}(h0:row 0=e x):
  Ly (.sl 1 es row) (Mr es e [x]):=by
 refine ⟨rfl,rfl,fun i hi=>?_⟩
 match i,hi with
 | 0,_=>rw [h0];exact Ja.rfl' _
theorem bsz (a:Array UInt8):(ByteArray.mk a).size=a.size:=rfl
theorem Bq {n:Int}(h:Gt .i64 n):(Ia n).size≤21:=by
 rw [Ia,bsz,Nh];exact Lib.itoa_length_le n h.1 h.2
theorem A5o (b:UInt8)(l:List UInt8):(ByteArray.mk #[b])++(ByteArray.mk l.toArray)=ByteArray.mk (b::l).toArray:=by
 apply V8
 simp [A0n]
theorem G8 {n lo hi:Int}:Dv n lo hi=false↔¬ (lo≤n∧n≤hi):=by
 rw [←Ch];simp
end Go.Sx
set_option maxRecDepth 100000
namespace Go.Sx
open Go
open Go.RowKit (Below)
variable {P : Program} {T : List (TypeId × TI)}
variable {Q : Exit → Act → World → Prop}
theorem C9e (hT:Bw P T)(wr:Bool){J:Type}{B:Fa}{c:Code}{K:List KI}{s:AS}(fs:List Nat)(us:J→List (Nat×AV))(bs:J→List Bx)(os:J→List Ow)(φ:J→Prop)(h1:vcW P B Q (Pq T wr 100000 (.code c:: .loop (Inv B (fun j=>s.upd fs (us j) (bs j) (os j)) φ (fun _=>0) 1)::K) s))(h2:∀j,φ j→vcW P B Q (upK s.af 0 fs (us j) fun af=>Pq T wr 100000 K {s with af:=af,aw:=bs j,own:=os j})):GW P B Q (.code c::K) s:=by
 refine ⟨fun E a w hs=>?_⟩;have g1:G P B Q (.code c:: .loop (Inv B (fun j=>s.upd fs (us j) (bs j) (os j)) φ (fun _=>0) 1)::K) s:=(go hT wr h1).rec id;refine Code.wp_mono (fun e a' w' hq=>?_) (g1 E a w hs)
 cases e with
 |normal=>
  obtain ⟨j,hj,_,E',hE'⟩:=(hq:Inv B (fun j=>s.upd fs (us j) (bs j) (os j)) φ (fun _=>0) 1 a' w');have g2:G P B Q K (s.upd fs (us j) (bs j) (os j)):=(go hT wr (by have:=h2 j hj;rw [C8t] at this;exact this)).rec id;exact g2 E' a' w' hE'
 |exit id=>exact hq
 |goto l=>exact hq
 |ret=>exact hq
 |panic c=>exact hq
 |outgrown=>exact hq
theorem C6b (n:Nat)(hT:Bw P T)(wr:Bool){f:FuncId}{fn:Func}{c:Code}{ins ax:List Gl}(hf:P.funcs[f]? =some fn)(hb:fn.body=some c)(hn:(fn.name== "runtime.NumGoroutine")=false)
  (h:∀W,vcW P ⟨W,fun _=>False⟩ (bodyPost P fn fun e w'=>Jb W w' ax e) (Pq T wr n [.code c] (F4 fn.ntmps ins))):Px P f ins ax:=
 enter hf hb hn fun W=>C79 hT wr n _ _ (C0y _ (h W))
theorem goF (n:Nat)(hT:Bw P T)(wr:Bool){B:Fa}{K:List KI}{s:AS}(h:vcW P B Q (Pq T wr n K s)):GW P B Q K s:=
 ⟨C79 hT wr n _ _ (C0y _ h)⟩
theorem D0n {w:World}{A:Nat→Prop}{xs:List ByteArray}{v:Value}(h:R2 w A (Cj xs) v):
  (∃a c,v= .slice a 0 c∧xs=[])∨(∃b o c,v= .slice (some ⟨b,o,none⟩) xs.length c∧xs.length≤c∧∀(j:Nat) x,xs[j]? =some x→w.cell? ⟨b,o+j,none⟩=some (.string x)):=by
 change R2 w A (.sl xs.length 1 fun i=>[vs (xs.getD i default)]) v at h
 generalize hn:xs.length=n at h;generalize hrow:(fun i=>[vs (xs.getD i default)])=row at h
 cases h with
 |nil=>exact .inl ⟨none,0,rfl,Np hn⟩
 |emp=>exact .inl ⟨_,0,rfl,Np hn⟩
 |sl=>
  rename_i b off cap u hc hn' hA hu hr hl
  refine .inr ⟨b,off,cap,rfl,hn',fun j x hx=>?_⟩;have hj:j<xs.length:=(Cq.1 hx).1;have h1:=hu j 0 A7 A7;have h2:=hr j 0 (vs x) A7 (by rw [←hrow];simp [List.getD,hx]);rw [Nat.mul_one,Ru] at h1;rw [h1];exact A6 some (Ub h2)
def Cx (l:List ByteArray):ByteArray:=⟨(Lib.join (l.map (·.data.toList)) [32]).toArray⟩
theorem C3x (l:List (List UInt8))(t sep:List UInt8)(h:l≠[]):Lib.join (l++[t]) sep=Lib.join l sep++sep++t:=by
 match l,h with
 |x::r,_=>
  rw [Tb,Lib.join_cons,Lib.join_cons]
  simp [Lib.joinTail]
theorem B1v (t:ByteArray):Cx [t]=t:=by
 simp [Cx,Lib.join_one]
theorem Za (l:List ByteArray)(t:ByteArray)(h:l≠[]):Cx (l++[t])=Cx l++⟨#[32]⟩++t:=by
 apply V8
 simp only [Cx,Qs,Gz,Wz,A0n];rw [C3x _ _ _ (by simpa using h)]
 simp
end Go.Sx
set_option maxRecDepth 100000
namespace Go.Sx
open Go
open Go.RowKit (Below)
variable {P : Program} {T : List (TypeId × TI)}
def A57 (P:Program) (H:World→Prop) (f:FuncId) (ins:List Gl) {ι:Type} (φ:ι→Prop) (ax:ι→List Gl):Prop:=
 Lk P f∧∀(w:World),H w→∀(vs:List Value),vs.length=ins.length→(∀i x,ins[i]? =some x→Lf w (fun _=>False) x (vs.getD i undef))→
  Calls P f vs.toArray w fun e w'=>∃i,φ i∧Jb w w' (ax i) e
theorem B8w {W:World}{H:World→Prop}{Q:Exit→Act→World→Prop}{q:Bool}{f:FuncId}{xs:List AV}{dst:Option Tmp}{K:List KI}{s:AS}{ins:List Gl}{ι:Type}{φ:ι→Prop}{ax:ι→List Gl}
  (hf:A57 P H f ins φ ax)(hst:A6c H)(hW:H W)(hx:Ix s xs=some ins)
  (h:∀i,φ i→GW P ⟨W,fun _=>False⟩ Q K (s.put dst (Pa (ax i)))):CW P ⟨W,fun _=>False⟩ Q q f xs dst K s:=by
 refine ⟨⟨hf.1,fun E a w hs vs hl hv=>?_⟩⟩;obtain ⟨h1,h2⟩:=Ji hx;refine (hf.2 w (hst W w (Pg hs.base) hW) vs A7 (fun i x hi=>?_)).mono (fun e w' ⟨k,hk,hg⟩=>?_)
 ·obtain ⟨y,hy,hc⟩:=h2 i x hi
  exact Ku hs hc (hv i y hy)
 ·
  have hone:Dy P (fun _=>True) f ins (ax k)→True:=fun _=>trivial
  obtain ⟨hb,rs,fps,rfl,hrl,hro,hfr,hdis⟩:=hg;have hI:=(hs.call hb).is
  have hno:∀i,i<(ax k).length→∀b∈fps i,¬ s.ag E b:=fun i hi b hb' hav=>by
   have:=hs.avoid_lt hav
   have:=(hfr i hi).2 b hb'
   omega
  have hone:∀i y,(ax k)[i]? =some y→Cm E w' (s.ag E) s.next (La y) (rs.getD i undef):=by
   intro i y hy;have hi:i<(ax k).length:=(Cq.1 hy).1;have ho:=hro i y hy
   cases y with
   |one c=>exact .c (Bp.rep ho (hno i hi))
   |agg cs=>
    obtain ⟨us,gps,hu,hul,hur,hfp⟩:=ho;rw [hu];refine .agg us (by simp [hul]) (fun j x hj=>?_);simp only [E8,Ee] at hj;obtain ⟨c,hc,rfl⟩:=hj;have hj:j<cs.length:=(Cq.1 hc).1;exact .c ((hur j c hc).rep (fun b hb'=>hno i hi b (by rw [hfp];exact Du hj hb')))
   |ptr cs=>exact ho.elim
   |fn f an=>exact ho.elim
  have hres:Cm E w' (s.ag E) s.next (Pa (ax k)) (Ir rs):=by
   have:=Gp (E:=E) (A:=s.ag E) (N:=s.next) (w:=w') (ax k) ((ax k).map La) rs hrl Bi (fun i x hi=>by
    simp only [E8,Ee] at hi;obtain ⟨y,hy,rfl⟩:=hi
    exact hone i y hy)
   match (ax k),this with
   | [],this=>exact this
   | [o],this=>exact this
   |o1::o2::r,this=>exact this
  exact ⟨_,rfl,fun _=> .of_below hb,(h k hk).rec fun g=>g E _ w' (hI.put dst hres)⟩
theorem A2r {w w':World}{x y:Value}(hb:Below w.heap.size w w')(hx:x.oneCell'=true)(hy:y.oneCell'=true):Jb w w' [.one (.val x),.one (.val y)] (.returned (.tuple #[x,y])):=
 ⟨hb,[x,y],fun _=>[],rfl,rfl,fun i z hi=>by
  match i,hi with
  | 0,hi=>simp only [Fq,Ei] at hi;subst hi;exact .val x hx
  | 1,hi=>simp only [B43,Fq,Ei] at hi;subst hi;exact .val y hy
  |i+2,hi=>simp at hi,fun i hi=>⟨List.nodup_nil,fun b hb=>by cases hb⟩,fun i j hi hj hne b hb=>by cases hb⟩
end Go.Sx
set_option maxRecDepth 100000
namespace Go.Sx
open Go
variable {P : Program} {T : List (TypeId × TI)}
variable {t : TypeId}
theorem C0c (ht:P.underlying t=some .string){b:ByteArray}{lo hi':Option Value}{l h:Int}(hl:C46 lo l 0)(hh:C46 hi' h b.size)(h0:0≤l)(h1:l≤h)(h2:h≤b.size)(w:World):
  (Instr.sliceAt t (.string b) lo hi' none).run P w= .ok (.string (b.extract l.toNat h.toNat)) w:=by
 rw [run_sliceAt_string w t _ _ _ _ ht]
 rcases hl with ⟨rfl,rfl⟩|⟨k1,rfl⟩<;>rcases hh with ⟨rfl,rfl⟩|⟨k2,rfl⟩
 ·rw [run_slice_string_all w t b ht];simp
 ·rw [run_slice_string_h w t b ht k2 h h1 h2];simp
 ·rw [run_slice_string_l w t b ht k1 l h0 A7];simp
 rw [run_slice_string w t b k1 k2 l h ht h0 h1 h2]
variable {Q : Exit → Act → World → Prop} {all : Array Oper} {rest : List Oper}
theorem A50 (hT:Bw P T){B:Fa}{q:Bool}{o:Oper}{K:List KI}{s:AS}{x:Operand}{lo hi:Option Operand}{i:TI}(hg:o.guard=none)(ho:o.op= .slice t x lo hi none)(hi':find T t=some i)(hstr:i.str=true){b:ByteArray}(hx:s.ev x= .c (vs b)){l h:Int}(hl:bnd s lo 0=some l)(hh:bnd s hi b.size=some h)(hb:0≤l∧l≤h∧h≤b.size)(hgo:GW P B Q (.ops q all rest::K) (s.put o.dst (.c (vs (b.extract l.toNat h.toNat))))):GW P B Q (.ops q all (o::rest)::K) s:=by
 refine ⟨Fo hg (fun E a w hs=>?_)⟩;have hd:=hs.ev x;rw [hx] at hd;have e:=B4 hd;have h1:=Kv hs hl;have h2:=Kv hs hh;have hden:∀{E:Fm} {w:World} {A:Nat→Prop} {N:Nat} (v:Value),v.oneCell'=true→Cm E w A N (.c (.val v)) v:=fun v hv=> .c (.val v hv);refine ⟨_,fun w' _=>?_,hgo.rec fun hg=>hg _ _ _ (hs.put o.dst (hden _ rfl))⟩;have hrun:=C0c (Ql (hT t i hi') hstr) h1 h2 hb.1 hb.2.1 hb.2.2 w';obtain ⟨dst,op',ty,pos,after,guard⟩:=o
 simp only at ho
 subst ho
 simp [execOp,e,hrun]
theorem D2l {B:Fa}{q:Bool}{o:Oper}{K:List KI}{s:AS}{u:TypeId}{x:Operand}{v:Value}(hg:o.guard=none)(ho:o.op= .binOp .neq t x (.const .nilIface) u)(hu:P.underlying t=some (.interface (P.methodsAt t)))(hx:s.ev x= .c (.val v)){r:Bool}(hv:(v= .nilIface∧r=false)∨(∃y z,v= .iface y z∧r=true))(hgo:GW P B Q (.ops q all rest::K) (s.put o.dst (.c (vb r)))):GW P B Q (.ops q all (o::rest)::K) s:=by
 refine ⟨Fo hg (fun E a w hs=>?_)⟩;have hd:=hs.ev x;rw [hx] at hd;have e:=B4 hd;have hden:∀{E:Fm} {w:World} {A:Nat→Prop} {N:Nat} (v:Value),v.oneCell'=true→Cm E w A N (.c (.val v)) v:=fun v hv=> .c (.val v hv);refine ⟨.bool r,fun w' _=>?_,hgo.rec fun hg=>hg _ _ _ (hs.put o.dst (hden _ rfl))⟩;obtain ⟨dst,op',ty,pos,after,guard⟩:=o
 simp only at ho
 subst ho;have ec:a.eval (.const .nilIface)= .nilIface:=rfl
 rcases hv with ⟨rfl,rfl⟩|⟨y,z,rfl,rfl⟩
 ·simp [execOp,e,eqGuard,run_neq_nil_nil w' t hu,ec]
 simp [execOp,e,eqGuard,run_neq_held_nil w' t y z hu,ec]
end Go.Sx
set_option maxRecDepth 100000
namespace Go.Sx
open Go
def isD (b:UInt8):Prop:=48≤b.toNat∧b.toNat≤57
instance (b:UInt8):Decidable (isD b):=by unfold isD;infer_instance
def C59 (n:Nat) (b:UInt8):Nat:=10 * n+(b.toNat-48)
def My (acc:Nat) (l:List UInt8):Nat:=l.foldl C59 acc
theorem Xc (acc:Nat)(x:UInt8)(l:List UInt8):My acc (x::l)=My (10 * acc+(x.toNat-48)) l:=by
 simp only [My,A0g,C59]
theorem A33 (acc:Nat)(l:List UInt8)(b:UInt8):My acc (l++[b])=10 * My acc l+(b.toNat-48):=by
 simp only [My,A3r,A0g,List.foldl_nil,C59]
theorem C9h (acc:Nat)(l:List UInt8):acc≤My acc l:=by
 induction l generalizing acc with
 |nil=>exact Df _
 |cons x l ih=>
  have:=ih (10 * acc+(x.toNat-48))
  rw [Xc];omega
theorem C9i (l:List UInt8)(h:∀b∈l,isD b):My 0 l<10 ^ l.length:=by
 suffices hh:∀(l:List UInt8) (acc:Nat),(∀b∈l,isD b)→My acc l<(acc+1) * 10 ^ l.length by simpa using hh l 0 h
 intro l
 induction l with
 |nil=>intro acc _;show acc<(acc+1) * 10 ^ 0;omega
 |cons x l ih=>
  intro acc h;have h1:=ih (10 * acc+(x.toNat-48)) (fun b hb=>h b (Da _ hb));have hx:=h x Lc;unfold isD at hx;rw [Xc,Gi,Nat.pow_succ];refine Kc h1 ?_;rw [Qp (10 ^ l.length) 10,←Nat.mul_assoc];exact Kd _ A7
theorem R8 {d:Nat}(h:d<10):(UInt8.ofNat (48+d)).toNat=48+d:=by
 rw [UInt8.toNat_ofNat'];omega
theorem S2 (u:Nat):∀b∈Lib.decDigits u,isD b:=by
 induction u using Nat.strongRecOn with
 |_ u ih=>
  rw [Lib.decDigits]
  split
  ·rename_i h
   intro b hb;rw [Ke.1 hb,isD,R8 h];omega
  rename_i h
  intro b hb
  rcases Ng.1 hb with hb|hb
  ·exact ih _ A7 b hb
  rw [Ke.1 hb,isD,R8 A7];omega
theorem Vn (u:Nat):My 0 (Lib.decDigits u)=u:=by
 induction u using Nat.strongRecOn with
 |_ u ih=>
  rw [Lib.decDigits]
  split
  ·rename_i h
   rw [Xc,R8 h];simp only [My,List.foldl_nil];omega
  rename_i h
  rw [A33,ih _ A7,R8 A7];omega
theorem B21 (u:Nat):Lib.decDigits u≠[]:=by
 rw [Lib.decDigits];split<;>simp
theorem A93 (k:Nat):∀u,u<10 ^ (k+1)→(Lib.decDigits u).length≤k+1:=by
 induction k with
 |zero=>
  intro u h;rw [Lib.decDigits,dif_pos (show u<10 from h)]
  exact Df _
 |succ k ih=>
  intro u h;rw [Lib.decDigits]
  split
  ·exact Nat.succ_le_succ (Fk _)
  rw [D7];have h':u<10 ^ (k+1) * 10:=h
  have:=ih (u / 10) A7
  exact Nat.succ_le_succ this
theorem A8j:∀(l:List UInt8) (acc:Nat),(∀b∈l,isD b)→My acc l≤1000000000000000000→Lib.parseUint10 acc l= .ok (My acc l)
 | [],_,_,_=>rfl
 |c::r,acc,h,hd=>by
  have hc:48≤c.toNat∧c.toNat≤57:=h c Lc;have hd':My (10 * acc+(c.toNat-48)) r≤1000000000000000000:=by rw [←Xc];exact hd
  have hge:=C9h (10 * acc+(c.toNat-48)) r;have e:acc * 10+(c.toNat-48)=10 * acc+(c.toNat-48):=by omega
  rw [Lib.parseUint10,Ak hc,Ab A7,e,Ab A7];exact A8j r _ (fun b hb=>h b (Da _ hb)) hd'
theorem A0z (n:Nat):(Ia n).data.toList=Lib.decDigits n:=by
 rw [Ia,Lib.itoa,Ab A7];simp
theorem C5l (n:Nat)(h:n≤1000000000):Lib.atoiAll (Ia n).data.toList= .ok (n:Int):=by
 rw [A0z];have hD:=S2 n;have hv:=Vn n;have hp:=A8j (Lib.decDigits n) 0 hD A7;rw [hv] at hp;generalize hl:Lib.decDigits n=l at *
 match l,B21 n with
 | [],hne=>exact absurd hl hne
 |c::r,_=>
  have hc:48≤c.toNat∧c.toNat≤57:=hD c Lc;simp only [Lib.atoiAll];rw [Ab A7,Lib.parseMag,Ab Bi,hp]
  simp only
  rw [Ab A7,Ab A7,Ab A7]
def rd (s:ByteArray):Option Nat:=if My 0 s.data.toList≤1000000000∧Ia (My 0 s.data.toList:Nat)=s then some (My 0 s.data.toList) else none
variable {s : ByteArray} {n : Nat}
theorem U8:rd s=some n↔n≤1000000000∧Ia n=s:=by
 unfold rd
 constructor
 ·intro h
  split at h
  ·rename_i hc
   obtain rfl:=D3 h;exact hc
  cases h
 rintro ⟨h1,rfl⟩
 have e:My 0 (Ia n).data.toList=n:=by rw [A0z,Vn]
 rw [e,Ak ⟨h1,rfl⟩]
theorem D1c (h:rd s=some n):n≤1000000000:=(U8.1 h).1
theorem D0k (h:rd s=some n):s.size≤10:=by
 obtain ⟨h1,rfl⟩:=U8.1 h
 have:(Ia n).size=(Ia n).data.toList.length:=(Nq).symm
 rw [this,A0z];exact A93 9 n A7
theorem D10 (h:rd s=some n):∀b∈s.data.toList,isD b:=by
 obtain ⟨h1,rfl⟩:=U8.1 h;rw [A0z];exact S2 n
theorem C15 (h:rd s=some n):Lib.atoiAll s.data.toList= .ok (n:Int):=by
 obtain ⟨h1,rfl⟩:=U8.1 h;exact C5l n h1
def Sd (s:ByteArray):Int:=((rd s).getD 0:Nat)
def U7 (s:ByteArray):Bool:=(rd s).isSome
theorem Ij (h:rd s=none):Sd s=0∧U7 s=false:=by simp [Sd,U7,h]
theorem B2e (h:rd s=some n):Sd s=n∧U7 s=true:=by simp [Sd,U7,h]
theorem B2c (s:ByteArray):0≤Sd s∧Sd s≤1000000000:=by
 cases h:rd s with
 |none=>rw [(Ij h).1];omega
 |some n=>rw [(B2e h).1];have:=D1c h;omega
theorem C5m {l:List UInt8}{v:Int}(h:Lib.atoiAll l= .ok v):Gt .i64 v:=by
 unfold Lib.atoiAll at h
 split at h
 ·cases h
 rename_i c r
 simp only at h
 split at h
 ·cases h
 ·cases h
 rename_i u hu
 split at h
 ·cases h
 split at h
 ·cases h
 injection h with h
 subst h
 show _∧_
 split<;>omega
end Go.Sx
set_option maxRecDepth 100000
namespace Go.Sx
open Go
def C1 (s:ByteArray) (i:Nat):UInt8:=s.data.getD i 0
def Rr (s:ByteArray):Nat→List ByteArray×Nat
 | 0=>([],0)
 |i+1=>if i<s.size∧C1 s i≠32 then Rr s i else (if (Rr s i).2<i then (Rr s i).1++[s.extract (Rr s i).2 i] else (Rr s i).1,i+1)
def okB (s:ByteArray):Prop:=∀b∈s.data.toList,32≤b.toNat∧b.toNat≤126
instance (s:ByteArray):Decidable (okB s):=by unfold okB;infer_instance
def Gk (s:ByteArray):List ByteArray:=(Lib.fields s.data.toList).map fun l=>⟨l.toArray⟩
variable {s : ByteArray}
theorem C8f {k:Nat}(h:k<s.size)(hx:C1 s k≠32):Rr s (k+1)=Rr s k:=by
 rw [Rr,Ak ⟨h,hx⟩]
theorem C2g {k:Nat}(h:¬ (k<s.size∧C1 s k≠32))(hb:(Rr s k).2<k):Rr s (k+1)=((Rr s k).1++[s.extract (Rr s k).2 k],k+1):=by
 rw [Rr,Ab h,Ak hb]
theorem B73 {k:Nat}(h:¬ (k<s.size∧C1 s k≠32))(hb:¬ (Rr s k).2<k):Rr s (k+1)=((Rr s k).1,k+1):=by
 rw [Rr,Ab h,Ab hb]
theorem C0o (s:ByteArray)(i:Nat):(Rr s i).2≤i:=by
 induction i with
 |zero=>exact Df _
 |succ i ih=>
  rw [Rr]
  split
  ·omega
  exact Df _
theorem C2i (s:ByteArray)(i:Nat):(Rr s i).1.length≤i:=by
 induction i with
 |zero=>exact Df _
 |succ i ih=>
  rw [Rr]
  split
  ·omega
  simp only
  split
  ·rw [D7];exact Nat.succ_le_succ ih
  omega
theorem Tn {i:Nat}(h:i<s.size):s.data.toList.drop i=C1 s i::s.data.toList.drop (i+1):=by
 have h':i<s.data.toList.length:=by rw [Nq];exact h
 rw [A3q h']
 congr 1
 unfold C1;rw [A3p,Yx (show i<s.data.size from h)]
 simp
theorem Z1 {i:Nat}(h:i<s.size):C1 s i∈s.data.toList:=by
 have:=Tn h
 exact A3s (by rw [this];exact Lc)
theorem A8z {b i:Nat}(h:i<s.size)(hb:b≤i):(s.data.toList.take (i+1)).drop b=(s.data.toList.take i).drop b++[C1 s i]:=by
 have h':i<s.data.toList.length:=by rw [Nq];exact h
 have e:s.data.toList.take (i+1)=s.data.toList.take i++[C1 s i]:=by
  rw [A9t,Cl h'];unfold C1;rw [A3p,Yx (show i<s.data.size from h)]
  simp
 rw [e,List.drop_append_of_le_length (by rw [Eo];omega)]
theorem Kw (s:ByteArray)(b i:Nat)(h:i≤s.size):(s.extract b i).data.toList=(s.data.toList.take i).drop b:=by
 rw [ByteArray.data_extract,Array.toList_extract,List.extract_eq_take_drop,List.drop_take]
theorem C9u {x:UInt8}(h:32≤x.toNat∧x.toNat≤126):Lib.isSp x=decide (x=32):=by
 have hne:∀k:UInt8,k.toNat<32→x≠k:=fun k hk e=>by rw [e] at h;omega
 rw [Th,J7];simp only [Lib.isSp,Yw,Qr]
 constructor
 ·rintro (((((h1|h1)|h1)|h1)|h1)|h1)
  ·exact absurd h1 (hne _ Cw)
  ·exact absurd h1 (hne _ Cw)
  ·exact absurd h1 (hne _ Cw)
  ·exact absurd h1 (hne _ Cw)
  ·exact absurd h1 (hne _ Cw)
  exact h1
 exact fun h1=> .inr h1
theorem O4 (cur:List UInt8)(b:UInt8)(l:List UInt8):Lib.fieldsGo cur (b::l)=if Lib.isSp b then (if cur.isEmpty then Lib.fieldsGo [] l else cur::Lib.fieldsGo [] l) else Lib.fieldsGo (cur++[b]) l:=by
 cases cur<;>rfl
theorem Pi (cur:List UInt8):Lib.fieldsGo cur []=if cur.isEmpty then [] else [cur]:=by
 cases cur<;>rfl
theorem D0y (s:ByteArray)(hok:okB s)(i:Nat)(hi:i≤s.size):Lib.fields s.data.toList=(Rr s i).1.map (·.data.toList)++Lib.fieldsGo ((s.data.toList.take i).drop (Rr s i).2) (s.data.toList.drop i):=by
 induction i with
 |zero=>simp [Rr,Lib.fields]
 |succ i ih=>
  have h:i<s.size:=by omega
  have hle:=C0o s i;rw [ih A7,Tn h,O4,C9u (hok _ (Z1 h)),Rr]
  by_cases hx:C1 s i=32
  ·rw [Ak (show decide (C1 s i=32)=true by simpa using hx),Ab (show ¬ (i<s.size∧C1 s i≠32) from fun c=>c.2 hx)]
   simp only
   have hnil:(s.data.toList.take (i+1)).drop (i+1)=[]:=List.drop_eq_nil_of_le (Lv _ _);rw [hnil]
   by_cases hb:(Rr s i).2<i
   ·have hne:((s.data.toList.take i).drop (Rr s i).2).isEmpty=false:=by
     rw [List.isEmpty_eq_false_iff,←List.length_pos_iff,G4,Eo,Nq]
     have:i<s.data.size:=h
     omega
    rw [Ab (by rw [hne];decide),Ak hb,Qs,Gz,Wz,Kw s _ _ A7]
    simp
   have hne:((s.data.toList.take i).drop (Rr s i).2).isEmpty=true:=by
    rw [List.isEmpty_iff,List.drop_eq_nil_iff,Eo];omega
   rw [Ak hne,Ab hb]
  rw [Ab (show ¬ decide (C1 s i=32)=true by simpa using hx),Ak (show i<s.size∧C1 s i≠32 from ⟨h,hx⟩),A8z h hle]
theorem C2h (s:ByteArray)(hok:okB s):(Rr s (s.size+1)).1=Gk s:=by
 have h:=D0y s hok s.size (Df _);have hle:=C0o s s.size;have hsz:s.data.toList.length=s.size:=Nq;rw [K0 (Nat.le_of_eq hsz),List.drop_eq_nil_of_le (Nat.le_of_eq hsz),Pi] at h;rw [Gk,h,Rr,Ab (by intro c;omega)]
 simp only
 have hmap:∀l:List ByteArray,(l.map (·.data.toList)).map (fun l=>(⟨l.toArray⟩:ByteArray))=l:=fun l=>by
  rw [List.map_map]
  conv=>rhs;rw [←List.map_id l]
  refine List.map_congr_left fun x _=>?_
  simp
 by_cases hb:(Rr s s.size).2<s.size
 ·have hne:(s.data.toList.drop (Rr s s.size).2).isEmpty=false:=by
   rw [List.isEmpty_eq_false_iff,←List.length_pos_iff,G4];omega
  rw [Ak hb,hne];simp only [Qq,Rw,Qs,hmap,Gz,Wz]
  congr 2
  apply V8
  apply A0o.1
  rw [Kw s _ _ (Df _),K0 A7]
 have hne:(s.data.toList.drop (Rr s s.size).2).isEmpty=true:=by
  rw [List.isEmpty_iff,List.drop_eq_nil_iff];omega
 rw [Ab hb,hne];simp only [Lt,Hw,hmap]
def Gm (s:ByteArray):Prop:=s.size≤600∧okB s∧(Gk s).length≤12
instance (s:ByteArray):Decidable (Gm s):=by unfold Gm;infer_instance
def Gc (s:ByteArray):Bool:=decide (Gm s)
def A5 (s:ByteArray):List ByteArray:=if Gm s then Gk s else []
theorem H2 (s:ByteArray):(A5 s).length≤12:=by
 unfold A5
 split
 ·rename_i h;exact h.2.2
 exact Fk _
end Go.Sx
set_option maxRecDepth 100000
namespace Go.Sx
open Go
theorem D07:∀{x y r r':List UInt8},32∉x→32∉y→x++32::r=y++32::r'→x=y∧r=r'
 | [],[],_,_,_,_,h=>⟨rfl,by simpa using h⟩
 | [],b::y,_,_,_,hy,h=>by
  simp only [Ut,Tb,Nf] at h;exact absurd (by rw [←h.1];exact Lc) hy
 |a::x,[],_,_,hx,_,h=>by
  simp only [Ut,Tb,Nf] at h;exact absurd (by rw [h.1];exact Lc) hx
 |a::x,b::y,_,_,hx,hy,h=>by
  simp only [Tb,Nf] at h;obtain ⟨h1,h2⟩:=D07 (fun hm=>hx (Da _ hm)) (fun hm=>hy (Da _ hm)) h.2;exact ⟨by rw [h.1,h1],h2⟩
theorem A4c (x y:List UInt8)(r:List (List UInt8)):Lib.join (x::y::r) [32]=x++32::Lib.join (y::r) [32]:=by
 rw [Lib.join_cons,Lib.join_cons]
 simp [Lib.joinTail]
theorem B6g:∀(p q:List (List UInt8)),p≠[]→q≠[]→(∀x∈p,32∉x)→(∀x∈q,32∉x)→Lib.join p [32]=Lib.join q [32]→p=q
 | [],_,h,_,_,_,_=>absurd rfl h
 |_::_,[],_,h,_,_,_=>absurd rfl h
 | [x],[y],_,_,_,_,h=>by rw [Lib.join_one,Lib.join_one] at h;rw [h]
 | [x],y::y'::r,_,_,hp,_,h=>by
  rw [Lib.join_one,A4c] at h;exact absurd (by rw [h];simp) (hp x Lc)
 |x::x'::r,[y],_,_,_,hq,h=>by
  rw [Lib.join_one,A4c] at h;exact absurd (by rw [←h];simp) (hq y Lc)
 |x::x'::r,y::y'::r',_,_,hp,hq,h=>by
  rw [A4c,A4c] at h;obtain ⟨h1,h2⟩:=D07 (hp x Lc) (hq y Lc) h
  have:=B6g (x'::r) (y'::r') Bi Bi (fun z hz=>hp z (Da _ hz)) (fun z hz=>hq z (Da _ hz)) h2
  rw [h1,this]
theorem Rc:∀(l cur:List UInt8),32∉cur→∀x∈Lib.fieldsGo cur l,32∉x
 | [],cur,hc,x,hx=>by
  rw [Pi] at hx
  split at hx
  ·cases hx
  rw [Ke.1 hx];exact hc
 |b::l,cur,hc,x,hx=>by
  rw [O4] at hx;have hn:(32:UInt8)∉([]:List UInt8):=by simp
  split at hx
  ·split at hx
   ·exact Rc l [] hn x hx
   rcases Ca.1 hx with rfl|hx
   ·exact hc
   exact Rc l [] hn x hx
  rename_i hb
  refine Rc l (cur++[b]) (fun hm=>?_) x hx
  rcases Ng.1 hm with hm|hm
  ·exact hc hm
  have e:=Ke.1 hm;subst e;exact hb Cw
def noB (s:ByteArray):Prop:=(32:UInt8)∉s.data.toList
theorem B9a (s:ByteArray):∀x∈Gk s,noB x:=fun x hx=>by
 obtain ⟨l,hl,rfl⟩:=Fu.1 hx
 have:=Rc s.data.toList [] Bi l hl
 simpa [noB] using this
theorem T0 (s:ByteArray):∀x∈A5 s,noB x:=fun x hx=>by
 unfold A5 at hx
 split at hx
 ·exact B9a s x hx
 cases hx
theorem Sy {p q:List ByteArray}(hp:p≠[])(hq:q≠[])(h1:∀x∈p,noB x)(h2:∀x∈q,noB x)(h:Cx p=Cx q):p=q:=by
 have h':Lib.join (p.map (·.data.toList)) [32]=Lib.join (q.map (·.data.toList)) [32]:=by
  have:=A6 (fun b:ByteArray=>b.data.toList) h
  simpa [Cx] using this
 have e:=B6g _ _ (by simpa using hp) (by simpa using hq) (fun x hx=>by obtain ⟨y,hy,rfl⟩:=Fu.1 hx;exact h1 y hy) (fun x hx=>by obtain ⟨y,hy,rfl⟩:=Fu.1 hx;exact h2 y hy) h'
 have hinj:∀(a b:List ByteArray),a.map (·.data.toList)=b.map (·.data.toList)→a=b:=by
  intro a
  induction a with
  |nil=>intro b hb;cases b with|nil=>rfl|cons _ _=>simp at hb
  |cons x a ih=>
   intro b hb
   cases b with
   |nil=>simp at hb
   |cons y b=>
    simp only [Gz,Nf] at hb;rw [ih b hb.2,V8 (A0o.1 hb.1)]
 exact hinj p q e
theorem D1t {l:List UInt8}(h:∀b∈l,isD b):(32:UInt8)∉l:=fun hm=>absurd (h _ hm) Cw
theorem D1m (n:Nat):noB (Ia n):=by
 rw [noB,A0z];exact D1t (S2 n)
theorem D1z (n:Nat)(h:n≤1000000000):rd (Ia n)=some n:=U8.2 ⟨h,rfl⟩
end Go.Sx
set_option maxRecDepth 100000
namespace Go.Sx
open Go
def En (p:List ByteArray) (i:Nat):Int:=if i<p.length then Sd (p.getD i default) else 0
theorem Cf (p:List ByteArray)(i:Nat):0≤En p i∧En p i≤1000000000:=by
 unfold En
 split
 ·exact B2c _
 omega
def Qf (p:List ByteArray) (w:Nat):Bool:=(p.drop w).all U7
def Gh (p:List ByteArray) (w:Nat):List Int:=(p.drop w).map Sd
theorem Hj (p:List ByteArray)(w:Nat):(Gh p w).length=p.length-w:=by simp [Gh]
theorem D0i (n:Nat)(h:n≤1000000000):U7 (Ia n)=true∧Sd (Ia n)=n:=by
 have:=B2e (D1z n h)
 exact ⟨this.2,this.1⟩
variable {s : ByteArray} {k : Nat}
theorem B95 (h:k<s.size)(hx:¬ isD (C1 s k)):rd s=none:=by
 cases hr:rd s with
 |none=>rfl
 |some n=>exact absurd (D10 hr _ (Z1 h)) hx
theorem D0j (h:10<s.size):rd s=none:=by
 cases hr:rd s with
 |none=>rfl
 |some n=>have:=D0k hr;omega
theorem B2o (h:k<s.size):s.data.toList.take (k+1)=s.data.toList.take k++[C1 s k]:=by
 have:=A8z (b:=0) h (Fk _)
 simpa using this
theorem C3l (h:k<s.size):My 0 (s.data.toList.take (k+1))=10 * My 0 (s.data.toList.take k)+((C1 s k).toNat-48):=by
 rw [B2o h,A33]
theorem A6w (hs:s.size≤10)(hd:∀b∈s.data.toList.take k,isD b):My 0 (s.data.toList.take k)<10000000000:=by
 have h:=C9i _ hd
 have hl:(s.data.toList.take k).length≤10:=by
  rw [Eo,Nq]
  have:s.data.size≤10:=hs
  omega
 exact Kc h (Nat.pow_le_pow_right Cw hl)
theorem C73 (s:ByteArray):rd s=if My 0 s.data.toList≤1000000000∧Ia (My 0 s.data.toList:Nat)=s then some (My 0 s.data.toList) else none:=rfl
def B04 (s:ByteArray) (k:Nat):Prop:=∀i,i<k→i<s.size→32≤(C1 s i).toNat∧(C1 s i).toNat≤126
theorem A9k (s:ByteArray):B04 s 0:=fun _ h=>absurd h (Kt _)
theorem O2 (h:B04 s k)(hk:k<s.size→32≤(C1 s k).toNat∧(C1 s k).toNat≤126):B04 s (k+1):=fun i hi hs=>by
 by_cases e:i=k
 ·subst e;exact hk hs
 exact h i A7 hs
theorem C7l (h:B04 s k)(hk:s.size≤k):okB s:=fun b hb=>by
 obtain ⟨i,hi,e⟩:=Ry hb;have hi':i<s.size:=by rw [Nq] at hi;exact hi
 have h1:=h i A7 hi'
 have e2:C1 s i=b:=by
  unfold C1;rw [A3p,Yx (show i<s.data.size from hi'),←e]
  simp
 rw [e2] at h1;exact h1
theorem A78 (h:k<s.size)(hx:¬ (32≤(C1 s k).toNat∧(C1 s k).toNat≤126)):¬ Gm s:=fun c=>hx (c.2.1 _ (Z1 h))
theorem M9 (h:¬ Gm s):A5 s=[]:=Ab h
theorem M8 (h:¬ Gm s):Gc s=false:=Cb h
theorem B18 (h:Gm s):A5 s=Gk s:=Ak h
theorem Me (h:Gm s):Gc s=true:=Dg h
end Go.Sx
set_option maxRecDepth 100000
namespace Go.Sx
open Go
open Go.RowKit (Below)
variable {P : Program} {T : List (TypeId × TI)}
variable {B : Fa} {Q : Exit → Act → World → Prop}
theorem RW.mono {Q':Exit→Act→World→Prop}{s:AS}(h:∀a w,Q .ret a w→Q' .ret a w)(hr:RW B Q s):RW B Q' s:=
 ⟨fun E a w hs=>h a w (hr.rec (fun g=>g E a w hs))⟩
variable {H : World → Prop} {ι : Type} {fn : Func}
theorem C9k {φ:ι→Prop}{f:FuncId}{c:Code}{ins:List Gl}{ax:ι→List Gl}(hf:P.funcs[f]? =some fn)(hb:fn.body=some c)(hn:(fn.name== "runtime.NumGoroutine")=false)(h:∀W,H W→G P ⟨W,fun _=>False⟩ (bodyPost P fn fun e w'=>∃i,φ i∧Jb W w' (ax i) e) [.code c] (F4 fn.ntmps ins)):A57 P H f ins φ ax:=by
 refine ⟨⟨fn,hf,hn,by simp [hb]⟩,fun w hH vs hl hv=>calls_of_wp hf hb ?_⟩
 refine h w hH ⟨fun _=> .slice none 0 0,fun _=>[]⟩ _ w ?_
 have nav:∀b,¬ (F4 fn.ntmps ins).ag ⟨fun _=> .slice none 0 0,fun _=>[]⟩ b:=by
  rintro b (⟨x,hx,_⟩|⟨y,hy,_⟩)
  ·simp [F4] at hx
  simp [F4] at hy
 have nb:∀x,x∉(F4 fn.ntmps ins).aw:=by simp [F4]
 have no:∀x,x∉(F4 fn.ntmps ins).own:=by simp [F4]
 refine ⟨rfl,by simp [F4],by simp [F4,hl],fun i x hx=>?_,fun x hx=>absurd hx (nb x),fun x hx=>absurd hx (nb x),by simp [F4],fun y hy=>absurd hy (no y),by simp [F4],fun y hy=>absurd hy (no y),fun x hx=>absurd hx (nb x),fun _ _=>rfl,
  ⟨rfl,rfl,rfl,Df _,fun _ _ _=>rfl⟩,fun b hb=>absurd hb (nav b)⟩
 simp only [F4] at hx
 by_cases hi:i<ins.length
 ·rw [F2 (by simpa using hi)] at hx
  simp only [E8,Ee] at hx;obtain ⟨y,hy,rfl⟩:=hx;have hr:=hv i y hy;have hiv:i<vs.length:=by omega
  have e:(vs.toArray++Array.replicate (fn.ntmps-vs.toArray.size) undef).getD i undef=vs.getD i undef:=by
   simp [Array.getD,List.getD,hiv,show i<vs.length+(fn.ntmps-vs.length) by omega]
  rw [e]
  cases y with
  |one c=>exact .c (hr.move (fun _ _ _=>rfl) (fun b _ hb=>absurd hb (nav b)))
  |agg cs=>
   obtain ⟨us,hu,hul,hur⟩:=hr;rw [hu];refine .agg us (by simp [hul]) (fun j x hj=>?_);simp only [E8,Ee] at hj;obtain ⟨c,hc,rfl⟩:=hj;exact .c ((hur j c hc).move (fun _ _ _=>rfl) (fun b _ hb=>absurd hb (nav b)))
  |ptr cs=>exact hr.den (fun b hb=>absurd hb (nav b))
  |fn f an=>
   obtain ⟨us,hu,hul,hur⟩:=hr;rw [hu];refine .fn us (by simp [hul]) (fun j x hj=>?_);simp only [E8,Ee] at hj;obtain ⟨c,hc,rfl⟩:=hj;have hr:=hur j c hc
   cases c with
   |one c=>exact .c (R2.move hr (fun _ _ _=>rfl) (fun b _ hb=>absurd hb (nav b)))
   |ptr cs=>exact Oz.den hr (fun b hb=>absurd hb (nav b))
 rw [F1 Qv] at hx
 obtain rfl:AV.any=x:=by
  have:=Gs hx
  simpa using (Te this).symm
 exact .any _
theorem D1o (hT:Bw P T)(wr:Bool){φ:ι→Prop}{f:FuncId}{c:Code}{ins:List Gl}{ax:ι→List Gl}(hf:P.funcs[f]? =some fn)(hb:fn.body=some c)(hn:(fn.name== "runtime.NumGoroutine")=false)(h:∀W,H W→vcW P ⟨W,fun _=>False⟩ (bodyPost P fn fun e w'=>∃i,φ i∧Jb W w' (ax i) e) (Pq T wr 100000 [.code c] (F4 fn.ntmps ins))):A57 P H f ins φ ax:=
 C9k hf hb hn fun W hW=>(go hT wr (h W hW)).rec id
theorem D0q {W:World}{φ:ι→Prop}{ax:ι→List Gl}{s:AS}(i:ι)(hi:φ i)(h:RW B (bodyPost P fn fun e w'=>Jb W w' (ax i) e) s):RW B (bodyPost P fn fun e w'=>∃i,φ i∧Jb W w' (ax i) e) s:=
 RW.mono (fun _ _ ⟨h1,v,h2,h3⟩=>⟨h1,v,h2,i,hi,h3⟩) h
variable {row : Nat → List Ag}
theorem R2.isSlice {w:World}{A:Nat→Prop}{n es:Nat}{v:Value}(h:R2 w A (.sl n es row) v):∃a m c,v= .slice a m c:=by
 cases h with
 |nil=>exact ⟨_,_,_,rfl⟩
 |emp=>exact ⟨_,_,_,rfl⟩
 |sl=>exact ⟨_,_,_,rfl⟩
theorem D3k {s:AS}(i:Nat){n es:Nat}(hi:I7 s.af i= .c (.sl n es row))(h:∀a m c,RW B Q {s with af:=C4 s.af i (.c (.val (.slice a m c)))}):RW B Q s:=by
 refine ⟨fun E a w hs=>?_⟩
 by_cases hl:i<s.af.length
 ·have hd:=hs.af i (.c (.sl n es row)) (by rw [C7,Cl hl] at hi;rw [Cl hl];simpa using hi)
  have hv:∃b m c,a.tmps.getD i undef= .slice b m c:=by
   generalize hu:a.tmps.getD i undef=u at hd
   cases hd with
   |c hr=>exact hr.isSlice
  obtain ⟨b,m,c,hv⟩:=hv;obtain ⟨g⟩:=h b m c;refine g E a w ⟨hs.defers,hs.ay,by rw [hs.size];exact (Bm _ _ _).symm,fun m' z hz=>?_,hs.aw,hs.boxes2,hs.keys,hs.own,hs.ownkeys,hs.sep,hs.sepB,hs.one,hs.base,hs.fresh⟩
  simp only at hz
  rw [Ck] at hz
  split at hz
  ·rename_i hm
   obtain ⟨rfl,hm⟩:=hm;obtain rfl:=D3 hz;rw [hv];exact .c (.val _ rfl)
  exact hs.af m' z hz
 exfalso
 rw [C7,T9 A7] at hi
 simp at hi
end Go.Sx
