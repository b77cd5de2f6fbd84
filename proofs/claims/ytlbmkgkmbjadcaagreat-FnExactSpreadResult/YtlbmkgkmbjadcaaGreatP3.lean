/- Part 3 of the proof that each of the laws FnExactRunScriptOf, FnExactSpreadResult returns true for every input. No conditions. -/
import Derived.Test.YtlbmkgkmbjadcaaGreatP2
import Derived.Laws.BytesArg
import Derived.Lib.ItoaNum
import Derived.Sort.Grow
import Derived.Deep.Draws
import Derived.Lib.ItoaLen
import Derived.Lib.Join
import Derived.WideLaws
import Derived.Laws.Strings2
import Derived.Lib.AtoiAll
import Derived.Lib.Fields

set_option linter.unusedSimpArgs false
set_option linter.unusedVariables false
namespace Go.Sx
open Go.RowKit (Below)
variable {P : Program} {T : List (TypeId × TI)}
theorem GW.out {B:B5}{Q:Exit→Act→World→Prop}{K:List KI}{s:AS}(h:GW P B Q K s):G P B Q K s:=h.rec fun h=>h
def A08 (links:List (Nat×Value)) (l:Nat→Value) (ks:List Nat):Prop:=
 match ks with
 | []=>True
 |k::r=>De links k=some (l k)∧A08 links l r
theorem A3i {links:List (Nat×Value)}{l:Nat→Value}{ks:List Nat}(h:A08 links l ks){k:Nat}(hk:k∈ks):(k,l k)∈links:=by
 induction ks with
 |nil=>simp at hk
 |cons j r ih=>
  rcases List.mem_cons.1 hk with rfl|hk
  ·exact F4 h.1
  ·exact ih h.2 hk
def A3r (xs:List AV) (us:List Value):Prop:=
 match xs,us with
 | [],[]=>True
 |x::xs,u::us=>x= .v u∧A3r xs us
 |_,_=>False
theorem A9w {xs:List AV}{us:List Value}(h:A3r xs us):xs=us.map AV.v:=by
 induction xs generalizing us with
 |nil=>cases us<;>simp_all [A3r]
 |cons x xs ih=>
  cases us with
  |nil=>simp [A3r] at h
  |cons u us=>
   obtain ⟨rfl,h⟩:=h
   rw [ih h];rfl
def X8 (x:AV):Bool:=
 match x with
 | .own _=>true
 | .c (.val u)=>Fz [u]
 |_=>false
def A53 (x:AV):Bool:=
 match x with
 | .agg xs=>Y8 X8 xs
 |x=>X8 x
theorem A0l {E:D8}{w:World}{A:Nat→Prop}{N:Nat}{l:Nat→Value}{x:AV}(hp:X8 x=true)(hk:∀k∈Gh x,k<N∧E.ov k=l k):Cu E w A N x (B0j l x):=by
 unfold X8 at hp
 split at hp
 ·rename_i k
  obtain ⟨h1,h2⟩:=hk k (by simp [Gh])
  have:Cu E w A N (.own k) (E.ov k):= .own h1
  rw [h2] at this
  exact this
 ·rename_i u
  exact .c (.val u (Ft hp u C7))
 ·simp at hp
theorem B4a {E:D8}{w:World}{A:Nat→Prop}{N:Nat}{l:Nat→Value}{x:AV}(hp:A53 x=true)(hk:∀k∈Cv x,k<N∧E.ov k=l k):Cu E w A N x (A18 l x):=by
 cases x with
 |agg xs=>
  refine .agg _ C7 (fun i z hz=>?_)
  simp only [List.getD,List.getElem?_map,hz,Option.map_some,Option.getD_some]
  exact A0l (J4 hp (List.mem_of_getElem? hz)) (fun k hk'=>hk k (List.mem_flatMap.2 ⟨z,List.mem_of_getElem? hz,hk'⟩))
 |own k=>exact A0l hp hk
 |c z=>exact A0l hp hk
 |_=>simp [A53,X8] at hp
theorem Sf (hT:Ci P T){W:World}{may:Nat→Prop}{fn:Func}{x0:AV}{l:Nat→Value}{y:F9}{outs:List Value}{s:AS}{xs:List AV}(hx:Oe T fn.results.toList s=some xs)(hv:A3r xs outs)
  (hp:A53 x0=true)(hk:Fo (Cv x0)=true)(ho:A5z s.own x0 y)(hl:A08 s.links l (Cv x0)):RW ⟨W,may⟩ (bodyPost P fn fun e w'=>A0c W may (A18 l x0) y outs w' e) s:=by
 refine ⟨fun E a w h=>?_⟩
 obtain ⟨vs,h1,h2,h3,h4⟩:=Pi hT h fn.results.toList xs hx
 obtain rfl:=A9w hv
 have hvs:vs=outs:=by
  apply List.ext_getElem?
  intro i
  by_cases hi:i<outs.length
  ·have hi':i<vs.length:=by rw [h2];simpa using hi
   have:=Bq (h4 i (.v outs[i]) (by simp [hi]))
   simp only [List.getD,List.getElem?_eq_getElem hi',Option.getD_some] at this
   rw [List.getElem?_eq_getElem hi,List.getElem?_eq_getElem hi',this]
  ·rw [List.getElem?_eq_none (by rw [h2];simp;omega),List.getElem?_eq_none Ad]
 subst hvs
 have hD:Cu E w (s.avoid E) s.next x0 (A18 l x0):=B4a hp (fun k hk'=>h.links _ (A3i hl hk'))
 obtain ⟨o1,o2⟩:=Hg h ho hD
 refine ⟨h.defers,Hm vs,?_,rfl,⟨_,o1,Lk h (Ds hk) o2,fun b hb=>?_⟩,?_⟩
 ·rw [Ls,Array.mapM_eq_mapM_toList]
  simp only [map_eq_pure_bind,Sem.run_bind,h1,Result.andThen_ok,Sem.run_pure]
  exact congrArg (fun v=>Result.ok v w) (N2 vs)
 ·obtain ⟨k,hk',hb⟩:=List.mem_flatMap.1 hb
  obtain ⟨z,hz,rfl⟩:=o2 k hk'
  exact (h.fresh b (.inr ⟨z,hz,hb⟩)).symm
 ·have hB:=h.base
  exact ⟨hB.os,hB.tape,hB.output,hB.size,fun k hk hm=>hB.block k hk hm⟩
theorem X4 {w:World}{n es:Nat}{row:Nat→List Ab}{b off cap:Nat}{ty:TypeId}{cells:Array Value}{fps:Nat→List Nat}(hn:n≤cap)(hc:cap≤maxLen)
  (hb:w.heap[b]? =some (.cells cells ty (0,0)))(hs:(off+cap) * es≤cells.size)(hl:∀i,i<n→(row i).length=es)
  (hr:∀i j c,i<n→(row i)[j]? =some c→Ch w c (cells.getD ((off+i) * es+j) undef) (fps (i * es+j)))
  (hnd:(b::(List.range (n * es)).flatMap fps).Nodup)
  {j o:Nat}(hj:j<n)(ho:o<es){c:Ab}{g:List Nat}(hg:Ch w c (cells.getD ((off+j) * es+o) undef) g)(hgn:g.Nodup)
  (hgd:∀x∈g,x≠b∧∀k,k<n * es→k≠j * es+o→x∉fps k){c':Ab}(hu:Mt n es row j o [c] c'):
  Ch w c' (.slice (some ⟨b,off * es,none⟩) n cap) (b::(List.range (n * es)).flatMap (fun k=>if k=j * es+o then g else fps k))∧
   (b::(List.range (n * es)).flatMap (fun k=>if k=j * es+o then g else fps k)).Nodup:=by
 obtain ⟨row',rfl,hu1,hu2⟩:=hu
 obtain ⟨hb0,hnd1⟩:=List.nodup_cons.1 hnd
 constructor
 ·refine .sl n es row' b off cap ty cells _ hn hc hb hs (fun i hi=>?_) (fun i m d hi hd=>?_)
  ·by_cases e:i=j
   ·subst e
    rw [hu2]
    simp [Dk,hl i hi]
    omega
   ·rw [hu1 i hi e];exact hl i hi
  ·by_cases e:i=j
   ·subst e
    rw [hu2] at hd
    have hl1:(List.take o (row i)).length=o:=by simp [hl i hi];omega
    simp only [Dk] at hd
    by_cases h1:m=o
    ·subst h1
     rw [if_pos rfl]
     rw [List.append_assoc,List.getElem?_append_right Ad,hl1,Nat.sub_self] at hd
     simp only [List.cons_append,List.getElem?_cons_zero,Option.some.injEq] at hd
     subst hd
     exact hg
    ·rw [if_neg Ad]
     refine hr i m d hi ?_
     by_cases h2:m<o
     ·rw [List.append_assoc,List.getElem?_append_left Ad,List.getElem?_take,if_pos h2] at hd
      exact hd
     ·rw [List.getElem?_append_right (by simp [hl i hi];omega)] at hd
      simp only [List.length_append,hl1,List.getElem?_drop,List.length_singleton] at hd
      rwa [show o+1+(m-(o+1))=m by omega] at hd
   ·rw [hu1 i hi e] at hd
    have hml:m<es:=by have:=(List.getElem?_eq_some_iff.1 hd).1;rw [hl i hi] at this;exact this
    have hne:i * es+m≠j * es+o:=by
     intro h
     rcases Nat.lt_or_gt_of_ne e with h'|h'
     ·have:(i+1) * es≤j * es:=Nat.mul_le_mul_right _ h'
      rw [Nat.add_mul] at this
      omega
     ·have:(j+1) * es≤i * es:=Nat.mul_le_mul_right _ h'
      rw [Nat.add_mul] at this
      omega
    rw [if_neg hne]
    exact hr i m d hi hd
 ·obtain ⟨f1,f2⟩:=Cf.1 hnd1
  refine List.nodup_cons.2 ⟨fun h=>?_,Cf.2 ⟨fun k hk=>?_,?_⟩⟩
  ·obtain ⟨k,hk,hx⟩:=List.mem_flatMap.1 h
   split at hx
   ·exact (hgd b hx).1 rfl
   ·exact hb0 (Dz (List.mem_range.1 hk) hx)
  ·split
   ·exact hgn
   ·exact f1 k hk
  ·refine List.Pairwise.imp_of_mem ?_ ((List.nodup_range (n:=n * es)).and f2)
   intro p q hp hq ⟨hne,hpq⟩ z hz hz'
   split at hz
   ·split at hz'
    ·omega
    ·exact (hgd z hz).2 q (List.mem_range.1 hq) (by assumption) hz'
   ·split at hz'
    ·exact (hgd z hz').2 p (List.mem_range.1 hp) (by assumption) hz
    ·exact hpq z hz hz'
def Ml (c:Ab):Bool:=
 match c with
 | .sl _ _ _=>true
 |_=>false
theorem B10 (hT:Ci P T){B:B5}{Q:Exit→Act→World→Prop}{q:Bool}{all:Array Oper}{o:Oper}{rest:List Oper}{K:List KI}{s:AS}{x:Operand}{t:TypeId}{i:TI}
  (hg:o.guard=none)(ho:o.op= .load t x)(hi:find T t=some i)(hag:i.agg=false){k es off n:Nat}{j:Int}{row:Nat→List Ab}
  (hx:s.ev x= .oel k es j off)(hk:C2 s.own k=some (.sl n es row)){c:Ab}(hc:(row j.toNat)[off]? =some c)
  (h:∀v,GW P B Q (.ops q all rest::K) (({s with own:=⟨s.next,c⟩::⟨k,.sl n es fun i=>if i=j.toNat then Dk (row i) off [.val v] else row i⟩::Br [k] s.own,next:=s.next+1,links:=(s.next,v)::s.links}:AS).put o.dst (.own s.next))):
  GW P B Q (.ops q all (o::rest)::K) s:=by
 refine ⟨Fl hg (fun E a w hs=>?_)⟩
 have hm:=Ce hk
 obtain ⟨hklt,o2,o3⟩:=hs.own _ hm
 simp only at o2 o3 hklt
 have hev:=hs.ev x
 rw [hx] at hev
 generalize hv:a.eval x=v at hev
 cases hev with
 |oel _ b o' n' cap hkl hov h0 hj=>
  rw [hov] at o2
  generalize hfp:E.fp k=fp at o2 o3
  obtain ⟨jn,rfl⟩:=Int.eq_ofNat_of_zero_le h0
  simp only [Int.toNat_natCast,Int.ofNat_lt] at *
  cases o2 with
  |emp=>exact absurd hj (Nat.not_lt_zero _)
  |sl _ _ _ _ offb _ ty cells fps hn hcp hb hcs hl hr=>
   have hoff:off<es:=by have:=(List.getElem?_eq_some_iff.1 hc).1;rwa [hl jn hj] at this
   have hin:=hr jn off c hj hc
   obtain ⟨hb0,hnd1⟩:=List.nodup_cons.1 o3
   obtain ⟨f1,f2⟩:=Cf.1 hnd1
   have hpos:jn * es+off<n * es:=Fd hj hoff
   have hcl:(offb+jn) * es+off<cells.size:=by
    have:=Fd (show offb+jn<offb+cap by omega) hoff
    omega
   generalize hu:cells.getD ((offb+jn) * es+off) undef=u at hin
   have hdis:∀z∈fps (jn * es+off),z≠b∧∀k,k<n * es→k≠jn * es+off→z∉fps k:=by
    intro z hz
    refine ⟨fun e=>hb0 (e▸Dz hpos hz),fun k hk hne hz'=>?_⟩
    have hp:=List.pairwise_iff_getElem.1 f2
    rcases Nat.lt_or_gt_of_ne hne with h'|h'
    ·have:=hp k (jn * es+off) (by simpa using hk) (by simpa using hpos) h' z
     simp only [List.getElem_range] at this
     exact this hz' hz
    ·have:=hp (jn * es+off) k (by simpa using hpos) (by simpa using hk) h' z
     simp only [List.getElem_range] at this
     exact this hz hz'
   have hone:u.oneCell'=true:=hin.one
   obtain ⟨s1,s2⟩:=X4 hn hcp hb hcs hl hr o3 hj hoff (c:= .val u) (g:=[]) (by rw [hu];exact .val u hone) C7 C7
    (c':= .sl n es fun i=>if i=jn then Dk (row i) off [.val u] else row i) ⟨_,rfl,fun i _ hne=>by simp [hne],by simp⟩
   have hI:=hs.drop [k]
   have key:∀z,z∈b::(List.range (n * es)).flatMap fps→s.avoid E z∧¬ ({s with own:=Br [k] s.own}:AS).avoid E z∧B.fresh z:=by
    intro z hz
    have hzk:z∈E.fp k:=by rw [hfp];exact hz
    have hav:s.avoid E z:= .inr ⟨_,hm,hzk⟩
    refine ⟨hav,?_,hs.fresh z hav⟩
    rintro (⟨r,hr',rfl⟩|⟨r,hr',hz'⟩)
    ·exact hs.sepB r hr' _ hm hzk
    ·obtain ⟨q1,q2⟩:=Ca.1 hr'
     exact hs.sep _ hm r q1 (fun e=>q2 (by simp at e;simp [e])) z hzk hz'
   have sub1:∀z,z∈b::(List.range (n * es)).flatMap (fun k=>if k=jn * es+off then [] else fps k)→z∈b::(List.range (n * es)).flatMap fps:=by
    intro z hz
    rcases List.mem_cons.1 hz with rfl|hz
    ·simp
    ·obtain ⟨p,hp,hz⟩:=List.mem_flatMap.1 hz
     split at hz
     ·simp at hz
     ·exact List.mem_cons_of_mem _ (List.mem_flatMap.2 ⟨p,hp,hz⟩)
   have hI3:=hI.addAt (k:=k) hklt (fun y' hy=>fun e=>(Ca.1 hy).2 (by rw [e];simp)) (by rw [hov];exact s1) s2 (fun z hz=>key z (sub1 z hz))
   have hav3:∀z,z∈fps (jn * es+off)→¬ ({s with own:=⟨k,.sl n es fun i=>if i=jn then Dk (row i) off [.val u] else row i⟩::Br [k] s.own}:AS).avoid (E.setFp k (b::(List.range (n * es)).flatMap (fun k=>if k=jn * es+off then [] else fps k))) z:=by
    intro z hz
    have hzin:z∈b::(List.range (n * es)).flatMap fps:=List.mem_cons_of_mem _ (Dz hpos hz)
    rintro (⟨r,hr',rfl⟩|⟨r,hr',hz'⟩)
    ·exact (key _ hzin).2.1 (.inl ⟨r,hr',rfl⟩)
    ·rcases List.mem_cons.1 hr' with rfl|hr'
     ·simp only [D8.setFp,if_true] at hz'
      rcases List.mem_cons.1 hz' with rfl|hz'
      ·exact (hdis _ hz).1 rfl
      ·obtain ⟨p,hp,hz'⟩:=List.mem_flatMap.1 hz'
       split at hz'
       ·simp at hz'
       ·exact (hdis z hz).2 p (List.mem_range.1 hp) (by assumption) hz'
     ·have hne:r.key≠k:=fun e=>(Ca.1 hr').2 (by rw [e];simp)
      simp only [D8.setFp,hne,if_false] at hz'
      exact (key z hzin).2.1 (.inr ⟨r,hr',hz'⟩)
   obtain ⟨k1,k2⟩:=hI3.addOwn hin (f1 _ (List.mem_range.2 hpos)) (fun z hz=>⟨(key z (List.mem_cons_of_mem _ (Dz hpos hz))).1,hav3 z hz,(key z (List.mem_cons_of_mem _ (Dz hpos hz))).2.2⟩)
   have k3:({s with own:=⟨s.next,c⟩::⟨k,.sl n es fun i=>if i=jn then Dk (row i) off [.val u] else row i⟩::Br [k] s.own,next:=s.next+1,links:=(s.next,u)::s.links}:AS).isA B
     ((E.setFp k (b::(List.range (n * es)).flatMap (fun k=>if k=jn * es+off then [] else fps k))).withOwn s.next u (fps (jn * es+off))) (s.avoid E) a w:=by
    refine ⟨k1.defers,fun p hp=>?_,k1.size,k1.slots,k1.boxes,k1.boxes2,k1.keys,k1.own,k1.ownkeys,k1.sep,k1.sepB,k1.one,k1.base,k1.fresh,k1.sub⟩
    rcases List.mem_cons.1 hp with rfl|hp
    ·exact ⟨Nat.lt_succ_self _,by simp [D8.withOwn]⟩
    ·exact k1.links p hp
   refine ⟨u,fun w' hkw=>?_,(h u).out _ _ w ((k3.put o.dst k2).is)⟩
   obtain ⟨dst,op',ty',pos,after,guard⟩:=o
   simp only at ho
   subst ho
   obtain ⟨f,d,z,S⟩:=TI.of_spec (hT t i hi)
   have hd:Hk d=false:=by rw [←S.agg];exact hag
   have h1:=S.one hd
   have hrun:=Gu (hT t i hi) w' b (offb * es+jn * es+off) ((List.range i.size).map fun _=>u) C7 (fun p hp=>by
    obtain rfl:p=0:=by omega
    refine hkw.cell ?_
    rw [show offb * es+jn * es+off+0=(offb+jn) * es+off by rw [Nat.add_mul];omega,cell_of_row w b _ cells ty (0,0) hb]
    simp only [h1,List.range_one,List.map_cons,List.map_nil,List.getD_cons_zero]
    rw [←hu,Array.getD_eq_getD_getElem?]
    simp [hcl])
   simp only [execOp,hv,Instr.loadAt,Instr.sureAddr,Sem.run_bind,Sem.run_pure,Result.andThen_ok,hrun,hag,h1]
   rfl
theorem A4r {B:B5}{Q:Exit→Act→World→Prop}{K:List KI}{s:AS}(k k2:Nat){n es:Nat}{row:Nat→List Ab}{j off:Nat}{v:Value}{c:Ab}(hk:C2 s.own k=some (.sl n es row))
  (hj:j<n)(hc:(row j)[off]? =some (.val v))(h2:C2 s.own k2=some c)(hl:De s.links k2=some v)(hne:Nat.beq k k2=false)(c':Ab)(hu:Mt n es row j off [c] c')
  (h:GW P B Q K {s with own:=⟨k,c'⟩::Br [k,k2] s.own}):GW P B Q K s:=by
 refine ⟨fun E a w hs=>?_⟩
 have hm:=Ce hk
 have hm2:=Ce h2
 have hkk:k≠k2:=fun e=>by subst e;simp at hne
 obtain ⟨hklt,o2,o3⟩:=hs.own _ hm
 obtain ⟨hklt2,p2,p3⟩:=hs.own _ hm2
 simp only at o2 o3 hklt p2 p3 hklt2
 have hlv:=(hs.links _ (F4 hl)).2
 simp only at hlv
 have hI:=hs.drop [k,k2]
 have key:∀z,(z∈E.fp k∨z∈E.fp k2)→s.avoid E z∧¬ ({s with own:=Br [k,k2] s.own}:AS).avoid E z∧B.fresh z:=by
  intro z hz
  have:∃y∈s.own,y.key∈[k,k2]∧z∈E.fp y.key:=by
   rcases hz with hz|hz
   ·exact ⟨_,hm,by simp,hz⟩
   ·exact ⟨_,hm2,by simp,hz⟩
  obtain ⟨y,hy,hyk,hz⟩:=this
  have hav:s.avoid E z:= .inr ⟨_,hy,hz⟩
  refine ⟨hav,?_,hs.fresh z hav⟩
  rintro (⟨r,hr',rfl⟩|⟨r,hr',hz'⟩)
  ·exact hs.sepB r hr' _ hy hz
  ·obtain ⟨q1,q2⟩:=Ca.1 hr'
   exact hs.sep _ hy r q1 (fun e=>q2 (e▸hyk)) z hz hz'
 have hsep:=hs.sep _ hm _ hm2 hkk
 generalize hov:E.ov k=vv,hfp:E.fp k=fp at o2 o3
 cases o2 with
 |nil=>omega
 |emp=>omega
 |sl _ _ _ b offb cap ty cells fps hn hcp hb hcs hl' hr=>
  have hoff:off<es:=by have:=(List.getElem?_eq_some_iff.1 hc).1;rwa [hl' j hj] at this
  have hin:=hr j off _ hj hc
  generalize hu':cells.getD ((offb+j) * es+off) undef=u at hin
  have huv:u=v:=by
   revert hin
   generalize fps (j * es+off)=g
   intro hin
   cases hin;rfl
  obtain ⟨s1,s2⟩:=X4 hn hcp hb hcs hl' hr o3 hj hoff (c:=c) (g:=E.fp k2) (by rw [hu',huv,←hlv];exact p2) p3 (fun z hz=>by
   refine ⟨fun e=>?_,fun p hp _ hz'=>?_⟩
   ·subst e
    exact hsep z (by simp only [hfp];simp) hz
   ·exact hsep z (by simp only [hfp];exact List.mem_cons_of_mem _ (Dz hp hz')) hz) hu
  have hI3:=hI.addAt (k:=k) hklt (fun y' hy=>fun e=>(Ca.1 hy).2 (by rw [e];simp)) (by rw [hov];exact s1) s2 (fun z hz=>by
   rcases List.mem_cons.1 hz with rfl|hz
   ·exact key z (.inl (by rw [hfp];simp))
   ·obtain ⟨p,hp,hz⟩:=List.mem_flatMap.1 hz
    split at hz
    ·exact key z (.inr hz)
    ·exact key z (.inl (by rw [hfp];exact List.mem_cons_of_mem _ (List.mem_flatMap.2 ⟨p,hp,hz⟩))))
  exact h.out _ a w hI3.is
theorem Wv {B:B5}{Q:Exit→Act→World→Prop}{K:List KI}{s:AS}(i es:Nat)(row:Nat→List Ab)(hi:Cr s.slots i= .c (.val (.slice none 0 0)))
  (h:GW P B Q K {s with slots:=Co s.slots i (.own s.next),own:=⟨s.next,.sl 0 es row⟩::s.own,next:=s.next+1}):GW P B Q K s:=by
 refine ⟨fun E a w hs=>?_⟩
 have hI:s.isA B E (s.avoid E) a w:=⟨hs.defers,hs.links,hs.size,hs.slots,hs.boxes,hs.boxes2,hs.keys,hs.own,hs.ownkeys,hs.sep,hs.sepB,hs.one,hs.base,hs.fresh,fun _ h=>h⟩
 obtain ⟨k1,k2⟩:=hI.addOwn (.nil es row) C7 C7
 have k3:=k1.is
 refine h.out (E.withOwn s.next (.slice none 0 0) []) a w ⟨k3.defers,k3.links,by rw [k3.size];exact (Cg _ _ _).symm,fun m z hz=>?_,k3.boxes,k3.boxes2,k3.keys,k3.own,k3.ownkeys,k3.sep,k3.sepB,k3.one,k3.base,k3.fresh⟩
 simp only at hz
 rw [Dh] at hz
 split at hz
 ·rename_i hm
  obtain ⟨rfl,hm⟩:=hm
  obtain rfl:=Option.some.inj hz
  have hd:=hs.slots i (.c (.val (.slice none 0 0))) (by rw [Cy,List.getElem?_eq_getElem hm] at hi;rw [List.getElem?_eq_getElem hm];simpa using hi)
  rw [Bq hd]
  have:Cu (E.withOwn s.next (.slice none 0 0) []) w _ _ (.own s.next) (.slice none 0 0):=k2
  exact this.move (Nat.le_refl _) (fun _ _=>⟨rfl,rfl⟩) (fun _ _ _=>rfl) (fun b _ hb=>k1.sub b hb)
 ·exact k3.slots m z hz
end Go.Sx
namespace Go.Sx
abbrev Eu (xs:List Int):Ab:=Cb 1 (fun n=>[vi n]) xs
abbrev Cx (xs:List Bool):Ab:=Cb 1 (fun b=>[vb b]) xs
structure Dq where
 epoch:Int
 turn:Int
 deriving Inhabited,DecidableEq
def Dq.c (x:Dq):List Ab:=[vi x.epoch,vi x.turn]
structure Ig where
 stamp:Dq
 n:Int
 deriving Inhabited,DecidableEq
def Ig.c (x:Ig):List Ab:=[vi x.stamp.epoch,vi x.stamp.turn,vi x.n]
structure A3 where
 op:Int
 stamp:Dq
 key:Int
 val:Int
 deriving Inhabited,DecidableEq
def A3.c (x:A3):List Ab:=[vi x.op,vi x.stamp.epoch,vi x.stamp.turn,vi x.key,vi x.val]
abbrev A9 (xs:List A3):Ab:=Cb 5 A3.c xs
structure As where
 cap:Int
 queue:List A3
 credits:Int
 back:Int
 sent:Int
 got:Int
 deriving Inhabited,DecidableEq
def As.c (x:As):List Ab:=[vi x.cap,A9 x.queue,vi x.credits,vi x.back,vi x.sent,vi x.got]
abbrev Bu (xs:List As):Ab:=Cb 6 As.c xs
structure Au where
 kind:Int
 a:Int
 b:Int
 outs:List Int
 deriving Inhabited,DecidableEq
def Au.c (x:Au):List Ab:=[vi x.kind,vi x.a,vi x.b,Eu x.outs]
abbrev Bb (xs:List Au):Ab:=Cb 4 Au.c xs
structure Ar where
 nodes:List Au
 workers:Int
 cap:Int
 deriving Inhabited,DecidableEq
def Ar.c (x:Ar):List Ab:=[Bb x.nodes,vi x.workers,vi x.cap]
structure Aa where
 op:Int
 epoch:Int
 key:Int
 val:Int
 deriving Inhabited,DecidableEq
def Aa.c (x:Aa):List Ab:=[vi x.op,vi x.epoch,vi x.key,vi x.val]
abbrev Ao (xs:List Aa):Ab:=Cb 4 Aa.c xs
structure Bp where
 epoch:Int
 capped:Bool
 deriving Inhabited,DecidableEq
def Bp.c (x:Bp):List Ab:=[vi x.epoch,vb x.capped]
abbrev Er (xs:List Bp):Ab:=Cb 2 Bp.c xs
structure A6 where
 queue:List A3
 staged:List A3
 inputs:List A3
 cells:List Aa
 sums:List Int
 black:List Bool
 caps:List Bool
 dones:List Bp
 deriving Inhabited,DecidableEq
def A6.c (x:A6):List Ab:=[A9 x.queue,A9 x.staged,A9 x.inputs,Ao x.cells,Eu x.sums,Cx x.black,Cx x.caps,Er x.dones]
abbrev Ap (xs:List A6):Ab:=Cb 8 A6.c xs
structure Ay where
 going:Bool
 at_:Int
 sum:Int
 black:Bool
 capped:Bool
 deriving Inhabited,DecidableEq
def Ay.c (x:Ay):List Ab:=[vb x.going,vi x.at_,vi x.sum,vb x.black,vb x.capped]
abbrev Be (xs:List Ay):Ab:=Cb 5 Ay.c xs
structure B7 where
 to_:Int
 epoch:Int
 capped:Bool
 deriving Inhabited,DecidableEq
def B7.c (x:B7):List Ab:=[vi x.to_,vi x.epoch,vb x.capped]
abbrev C3 (xs:List B7):Ab:=Cb 3 B7.c xs
structure A4 where
 graph:Ar
 workers:List A6
 links:List As
 tokens:List Ay
 news:List B7
 deriving Inhabited,DecidableEq
def A4.c (x:A4):List Ab:=[Bb x.graph.nodes,vi x.graph.workers,vi x.graph.cap,Ap x.workers,Bu x.links,Be x.tokens,C3 x.news]
structure Bo where
 kind:Int
 a:Int
 b:Int
 deriving Inhabited,DecidableEq
def Bo.c (x:Bo):List Ab:=[vi x.kind,vi x.a,vi x.b]
abbrev D5 (xs:List Bo):Ab:=Cb 3 Bo.c xs
structure D9 where
 graph:Ar
 inputs:List A3
 picks:List Bo
 rounds:Int
 deriving Inhabited,DecidableEq
def D9.c (x:D9):List Ab:=[Bb x.graph.nodes,vi x.graph.workers,vi x.graph.cap,A9 x.inputs,D5 x.picks,vi x.rounds]
def wS {α:Type} (w:α→Nat) (xs:List α):Nat:=xs.length+(xs.map w).sum
def Dq.ok (x:Dq):Prop:=G8 .i64 x.epoch∧G8 .i64 x.turn
def Ig.ok (x:Ig):Prop:=x.stamp.ok∧G8 .i64 x.n
def A3.ok (x:A3):Prop:=G8 .i64 x.op∧x.stamp.ok∧G8 .i64 x.key∧G8 .i64 x.val
def As.w (x:As):Nat:=x.queue.length
def As.ok (x:As):Prop:=G8 .i64 x.cap∧(x.queue.length≤maxLen∧∀y∈x.queue,y.ok)∧G8 .i64 x.credits∧G8 .i64 x.back∧G8 .i64 x.sent∧G8 .i64 x.got
def Au.w (x:Au):Nat:=x.outs.length
def Au.ok (x:Au):Prop:=G8 .i64 x.kind∧G8 .i64 x.a∧G8 .i64 x.b∧(x.outs.length≤maxLen∧∀y∈x.outs,G8 .i64 y)
def Ar.w (x:Ar):Nat:=wS Au.w x.nodes
def Ar.ok (x:Ar):Prop:=(x.nodes.length≤maxLen∧∀y∈x.nodes,y.ok)∧G8 .i64 x.workers∧G8 .i64 x.cap
def Aa.ok (x:Aa):Prop:=G8 .i64 x.op∧G8 .i64 x.epoch∧G8 .i64 x.key∧G8 .i64 x.val
def Bp.ok (x:Bp):Prop:=G8 .i64 x.epoch
def A6.w (x:A6):Nat:=x.queue.length+x.staged.length+x.inputs.length+x.cells.length+x.sums.length+x.black.length+x.caps.length+x.dones.length
def A6.ok (x:A6):Prop:=(x.queue.length≤maxLen∧∀y∈x.queue,y.ok)∧(x.staged.length≤maxLen∧∀y∈x.staged,y.ok)∧(x.inputs.length≤maxLen∧∀y∈x.inputs,y.ok)∧(x.cells.length≤maxLen∧∀y∈x.cells,y.ok)∧(x.sums.length≤maxLen∧∀y∈x.sums,G8 .i64 y)∧x.black.length≤maxLen∧x.caps.length≤maxLen∧(x.dones.length≤maxLen∧∀y∈x.dones,y.ok)
def Ay.ok (x:Ay):Prop:=G8 .i64 x.at_∧G8 .i64 x.sum
def B7.ok (x:B7):Prop:=G8 .i64 x.to_∧G8 .i64 x.epoch
def A4.w (x:A4):Nat:=x.graph.w+wS A6.w x.workers+wS As.w x.links+x.tokens.length+x.news.length
def A4.ok (x:A4):Prop:=x.graph.ok∧(x.workers.length≤maxLen∧∀y∈x.workers,y.ok)∧(x.links.length≤maxLen∧∀y∈x.links,y.ok)∧(x.tokens.length≤maxLen∧∀y∈x.tokens,y.ok)∧(x.news.length≤maxLen∧∀y∈x.news,y.ok)
def Bo.ok (x:Bo):Prop:=G8 .i64 x.kind∧G8 .i64 x.a∧G8 .i64 x.b
def D9.w (x:D9):Nat:=x.graph.w+x.inputs.length+x.picks.length
def D9.ok (x:D9):Prop:=x.graph.ok∧(x.inputs.length≤maxLen∧∀y∈x.inputs,y.ok)∧(x.picks.length≤maxLen∧∀y∈x.picks,y.ok)∧G8 .i64 x.rounds
theorem F0 {α:Type} [Inhabited α] (w:α→Nat)(xs:List α)(k:Nat)(hk:k<xs.length):((xs.take (k+1)).map w).sum=((xs.take k).map w).sum+w (xs.getD k default):=by
 rw [List.take_add_one,List.map_append,List.sum_append,List.getElem?_eq_getElem hk]
 simp [List.getD,hk]
theorem Bz {α:Type} [Inhabited α] (w:α→Nat)(xs:List α)(k:Nat)(hk:k<xs.length):((xs.take k).map w).sum+w (xs.getD k default)≤(xs.map w).sum:=by
 rw [←F0 w xs k hk]
 conv=>rhs;rw [←List.take_append_drop (k+1) xs,List.map_append,List.sum_append]
 omega
theorem B6p {α:Type}(w:α→Nat)(xs:List α)(k:Nat)(hk:¬ k<xs.length):((xs.take k).map w).sum=(xs.map w).sum:=by
 rw [List.take_of_length_le Ad]
def szR (w:Nat) (left:Int):Int:=if (w:Int)≤left then left-w else-1
theorem Ga {w:Nat}{left:Int}(h:(w:Int)≤left):szR w left=left-w:=by simp only [szR];rw [if_pos h]
theorem Jh {w:Nat}{left:Int}(h:¬ (w:Int)≤left):szR w left= -1:=by simp only [szR];rw [if_neg h]
theorem Tq {w:Nat}{left:Int}(h:szR w left<0)(_h0:0≤left):¬ (w:Int)≤left:=by
 intro h'
 rw [Ga h'] at h
 omega
theorem O7 {w:Nat}{left:Int}(h:¬ szR w left<0):(w:Int)≤left:=by
 refine Decidable.byContradiction fun h'=>?_
 rw [Jh h'] at h
 omega
theorem A8f {α:Type}(w:α→Nat)(xs:List α):wS w xs=xs.length+(xs.map w).sum:=rfl
end Go.Sx
namespace Go.Sx
open Go.RowKit (Below)
variable {P : Program} {T : List (TypeId × TI)}
def Tt (c c':Ab):Prop:=c'=c∨(c= .val (.slice none 0 0)∧∃es row,c'= .sl 0 es row)
def Gi (cs cs':List Ab):Prop:=
 match cs,cs' with
 | [],[]=>True
 |c::cs,c'::cs'=>Tt c c'∧Gi cs cs'
 |_,_=>False
theorem Gi.get {cs cs':List Ab}(h:Gi cs cs'):cs'.length=cs.length∧∀(i:Nat) (c':Ab),cs'[i]? =some c'→∃c,cs[i]? =some c∧Tt c c':=by
 induction cs generalizing cs' with
 |nil=>cases cs'<;>simp_all [Gi]
 |cons c cs ih=>
  cases cs' with
  |nil=>simp [Gi] at h
  |cons c' cs'=>
   obtain ⟨h1,h2⟩:=h
   obtain ⟨g1,g2⟩:=ih h2
   refine ⟨by simp [g1],fun i d hd=>?_⟩
   cases i with
   |zero=>simp only [List.getElem?_cons_zero,Option.some.injEq] at hd;subst hd;exact ⟨c,by simp,h1⟩
   |succ i=>simpa using g2 i d (by simpa using hd)
theorem Tt.own {w:World}{c c':Ab}{v:Value}{fp:List Nat}(h:Tt c c')(ho:Ch w c v fp):Ch w c' v fp:=by
 rcases h with rfl|⟨rfl,es,row,rfl⟩
 ·exact ho
 ·cases ho;exact .nil es row
theorem Tt.refl (c:Ab):Tt c c:= .inl rfl
theorem Tt.nil (es:Nat)(row:Nat→List Ab):Tt (.val (.slice none 0 0)) (.sl 0 es row):= .inr ⟨rfl,es,row,rfl⟩
def Ie (c c':Ab):Prop:=
 match c,c' with
 | .sl n es row,.sl n' es' row'=>n'=n∧es'=es∧∀i,i<n→Gi (row i) (row' i)
 |_,_=>False
theorem Ie.own {w:World}{c c':Ab}{v:Value}{fp:List Nat}(h:Ie c c')(ho:Ch w c v fp):Ch w c' v fp:=by
 cases ho with
 |val x hx=>cases c'<;>exact h.elim
 |nil es row=>
  cases c' with
  |val=>exact h.elim
  |sl n' es' row'=>
   obtain ⟨rfl,rfl,_⟩:=h
   exact .nil _ row'
 |emp es row b0 o0=>
  cases c' with
  |val=>exact h.elim
  |sl n' es' row'=>
   obtain ⟨rfl,rfl,_⟩:=h
   exact .emp _ row' b0 o0
 |sl n es row b off cap ty cells fps hn hc hb hs hl hr=>
  cases c' with
  |val=>exact h.elim
  |sl n' es' row'=>
   obtain ⟨rfl,rfl,h⟩:=h
   refine .sl _ _ row' b off cap ty cells fps hn hc hb hs (fun i hi=>?_) (fun i j d hi hd=>?_)
   ·rw [(h i hi).get.1];exact hl i hi
   ·obtain ⟨c,h1,h2⟩:=(h i hi).get.2 j d hd
    exact h2.own (hr i j c hi h1)
def Gz (l:List Ow) (k:Nat) (c:Ab):List Ow:=
 match l with
 | []=>[]
 |y::r=>match Nat.beq y.key k with
  |true=>⟨k,c⟩::Gz r k c
  |false=>y::Gz r k c
theorem Q2 {l:List Ow}{k:Nat}{c:Ab}{y:Ow}(h:y∈Gz l k c):(y.key=k∧y.cell=c∧∃z∈l,z.key=k)∨(y∈l∧y.key≠k):=by
 induction l with
 |nil=>simp [Gz] at h
 |cons x r ih=>
  unfold Gz at h
  split at h
  ·rename_i e
   have e:=Nat.eq_of_beq_eq_true e
   rcases List.mem_cons.1 h with rfl|h
   ·exact .inl ⟨rfl,rfl,x,by simp,e⟩
   ·rcases ih h with ⟨h1,h2,z,hz,h3⟩|⟨h1,h2⟩
    ·exact .inl ⟨h1,h2,z,List.mem_cons_of_mem _ hz,h3⟩
    ·exact .inr ⟨List.mem_cons_of_mem _ h1,h2⟩
  ·rename_i e
   rcases List.mem_cons.1 h with rfl|h
   ·exact .inr ⟨by simp,fun e'=>by rw [e',Nat.beq_refl] at e;cases e⟩
   ·rcases ih h with ⟨h1,h2,z,hz,h3⟩|⟨h1,h2⟩
    ·exact .inl ⟨h1,h2,z,List.mem_cons_of_mem _ hz,h3⟩
    ·exact .inr ⟨List.mem_cons_of_mem _ h1,h2⟩
theorem Rb (l:List Ow)(k:Nat)(c:Ab):(Gz l k c).map (·.key)=l.map (·.key):=by
 induction l with
 |nil=>rfl
 |cons x r ih=>
  unfold Gz
  split
  ·rename_i e
   have e:=Nat.eq_of_beq_eq_true e
   simp [ih,e]
  ·simp [ih]
theorem G6 {l:List Ow}{k:Nat}{c:Ab}{y:Ow}(h:y∈Gz l k c):∃z∈l,z.key=y.key:=by
 rcases Q2 h with ⟨h1,_,z,hz,h3⟩|⟨h1,_⟩
 ·exact ⟨z,hz,h3.trans h1.symm⟩
 ·exact ⟨y,h1,rfl⟩
theorem Gk {B:B5}{Q:Exit→Act→World→Prop}{K:List KI}{s:AS}(k:Nat)(c':Ab){c:Ab}(hk:C2 s.own k=some c)(hc:Ie c c')
  (h:GW P B Q K {s with own:=Gz s.own k c'}):GW P B Q K s:=by
 refine ⟨fun E a w hs=>?_⟩
 have hm:=Ce hk
 have av:∀b,({s with own:=Gz s.own k c'}:AS).avoid E b→s.avoid E b:=by
  rintro b (hb|⟨y,hy,hb⟩)
  ·exact .inl hb
  ·obtain ⟨z,hz,e⟩:=G6 hy
   exact .inr ⟨z,hz,by rw [e];exact hb⟩
 have mv:∀x v,Cu E w (s.avoid E) s.next x v→Cu E w (({s with own:=Gz s.own k c'}:AS).avoid E) s.next x v:=fun x v hx=>
  hx.move (Nat.le_refl _) (fun _ _=>⟨rfl,rfl⟩) (fun _ _ _=>rfl) (fun b _ hb=>av b hb)
 refine h.out E a w ⟨hs.defers,hs.links,hs.size,fun i x hx=>mv _ _ (hs.slots i x hx),fun x hx=>?_,hs.boxes2,hs.keys,fun y hy=>?_,by rw [Rb];exact hs.ownkeys,fun y hy z hz hne=>?_,fun x hx y hy=>?_,hs.one,hs.base,fun b hb=>hs.fresh b (av b hb)⟩
 ·obtain ⟨h1,vs,ty,h2,h3,h4⟩:=hs.boxes x hx
  exact ⟨h1,vs,ty,h2,h3,fun i y hy=>mv _ _ (h4 i y hy)⟩
 ·rcases Q2 hy with ⟨h1,h2,_⟩|⟨h1,_⟩
  ·obtain ⟨g1,g2,g3⟩:=hs.own _ hm
   rw [h1,h2]
   exact ⟨g1,hc.own g2,g3⟩
  ·exact hs.own y h1
 ·obtain ⟨y',hy',e1⟩:=G6 hy
  obtain ⟨z',hz',e2⟩:=G6 hz
  rw [←e1,←e2]
  exact hs.sep y' hy' z' hz' (by rw [e1,e2];exact hne)
 ·obtain ⟨y',hy',e1⟩:=G6 hy
  rw [←e1]
  exact hs.sepB x hx y' hy'
theorem B09 {α:Type} [Inhabited α] {es:Nat}{e:α→List Ab}{row:Nat→List Ab}{xs:List α}(h:∀i,i<xs.length→Gi (row i) (e (xs.getD i default))):Ie (.sl xs.length es row) (Cb es e xs):=
 ⟨rfl,rfl,h⟩
theorem Pt {α:Type} [Inhabited α] {es:Nat}{e:α→List Ab}{z:List Ab}(n:Nat)(h:Gi z (e default)):Ie (.sl n es fun _=>z) (Cb es e (List.replicate n default)):=
 ⟨List.length_replicate,rfl,fun i hi=>by
  have:(List.replicate n (default:α)).getD i default=default:=by simp [List.getD,hi]
  show Gi z (e ((List.replicate n default).getD i default))
  rw [this];exact h⟩
theorem Q1 {α:Type} [Inhabited α] {es:Nat}{e:α→List Ab}(xs:List α):Cb es e (List.replicate xs.length default)=Cb es e (xs.take 0++List.replicate (xs.length-0) default):=by simp
end Go.Sx
namespace Go.Sx
open Go.RowKit (Below)
variable {P : Program} {T : List (TypeId × TI)}
def Wk (cs cs':List Ab):Prop:=cs'.length=cs.length∧∀(i:Nat) (c':Ab),cs'[i]? =some c'→∃c,cs[i]? =some c∧∀w A v,Og w A c v→Og w A c' v
theorem Wk.refl (cs:List Ab):Wk cs cs:=⟨rfl,fun _ c h=>⟨c,h,fun _ _ _ h=>h⟩⟩
theorem Wk.append {a a' b b':List Ab}(h:Wk a a')(k:Wk b b'):Wk (a++b) (a'++b'):=by
 refine ⟨by simp [h.1,k.1],fun i c hc=>?_⟩
 by_cases hi:i<a'.length
 ·rw [List.getElem?_append_left hi] at hc
  rw [List.getElem?_append_left (by rw [←h.1];exact hi)]
  exact h.2 i c hc
 ·rw [List.getElem?_append_right Ad] at hc
  rw [List.getElem?_append_right (by rw [←h.1];omega),←h.1]
  exact k.2 _ c hc
theorem Y1 {α:Type} [Inhabited α] {es n:Nat}{row:Nat→List Ab}{e:α→List Ab}{ok:α→Prop}(h:∀i,i<n→∃x,ok x∧Wk (row i) (e x)):
  ∃xs:List α,xs.length=n∧(∀y∈xs,ok y)∧Wk [.sl n es row] [Cb es e xs]:=by
 have hex:∀i,∃x,i<n→ok x∧Wk (row i) (e x):=fun i=>by
  by_cases hi:i<n
  ·obtain ⟨x,hx⟩:=h i hi;exact ⟨x,fun _=>hx⟩
  ·exact ⟨default,fun h=>absurd h hi⟩
 let g:=fun i=>Classical.choose (hex i)
 have hg:∀i,i<n→ok (g i)∧Wk (row i) (e (g i)):=fun i=>Classical.choose_spec (hex i)
 have hget:∀i,i<n→((List.range n).map g).getD i default=g i:=fun i hi=>by simp [List.getD,hi]
 refine ⟨(List.range n).map g,by simp,fun y hy=>?_,rfl,fun i c hc=>?_⟩
 ·obtain ⟨i,hi,rfl⟩:=List.mem_map.1 hy
  exact (hg i (List.mem_range.1 hi)).1
 ·cases i with
  |succ i=>simp at hc
  |zero=>
   simp only [List.getElem?_cons_zero,Option.some.injEq] at hc
   subst hc
   refine ⟨_,rfl,fun w A v hr=>?_⟩
   have hlen:((List.range n).map g).length=n:=by simp
   unfold Cb
   rw [hlen]
   cases hr with
   |nil=>exact .nil _ _
   |emp _ _ a=>exact .emp _ _ a
   |sl _ _ _ b off cap u hA hn hc hl hu hr=>
    refine .sl n es _ b off cap u hA hn hc (fun i hi=>?_) hu (fun i j c hi hc=>?_)
    ·rw [hget i hi,(hg i hi).2.1];exact hl i hi
    ·rw [hget i hi] at hc
     obtain ⟨c0,h1,h2⟩:=(hg i hi).2.2 j c hc
     exact h2 _ _ _ (hr i j c0 hi h1)
theorem Wk.repL {w:World}{xs ys:List Ab}{cs:List Value}(h:Wk xs ys)(hr:Om w xs cs):Om w ys cs:=by
 refine ⟨h.1.trans hr.1,fun i c hc=>?_⟩
 obtain ⟨c0,h1,h2⟩:=h.2 i c hc
 exact h2 _ _ _ (hr.2 i c0 h1)
theorem Om.arg1 {w:World}{c:Ab}{v:Value}(h:Om w [c] [v]):I4 w (fun _=>False) (.one c) v:=h.2 0 c rfl
theorem Om.aggs {w:World}{cs:List Ab}{vs:Array Value}(h:Om w cs vs.toList):I4 w (fun _=>False) (.agg cs) (.agg vs):=
 ⟨vs.toList,by simp,h.1.symm,h.2⟩
end Go.Sx
namespace Go.Sx
def B0 {α:Type} (f:α→Int→α) (c:α→Nat) (l:List α) (k:Int):List α:=
 match l with
 | []=>[]
 |x::r=>f x k::B0 f c r (k+c x)
theorem Dy {α:Type}(f:α→Int→α)(c:α→Nat)(l:List α)(k:Int):(B0 f c l k).length=l.length:=by
 induction l generalizing k with
 |nil=>rfl
 |cons x r ih=>simp [B0,ih]
theorem Gc {α:Type}(f:α→Int→α)(c:α→Nat)(l:List α)(k:Int)(j:Nat)(d:α)(h:j<l.length):(B0 f c l k).getD j d=f (l.getD j d) (k+(((l.take j).map c).sum:Nat)):=by
 induction l generalizing k j with
 |nil=>simp at h
 |cons x r ih=>
  cases j with
  |zero=>simp [B0]
  |succ j=>
   have:=ih (k+c x) j (by simpa using h)
   simp only [B0,List.getD_cons_succ,this,List.take_succ_cons,List.map_cons,List.sum_cons]
   congr 1
   omega
theorem S4 {α:Type}(f:α→Int→α)(c:α→Nat)(l m:List α)(k:Int):B0 f c (l++m) k=B0 f c l k++B0 f c m (k+((l.map c).sum:Nat)):=by
 induction l generalizing k with
 |nil=>simp [B0]
 |cons x r ih=>
  simp only [List.cons_append,B0,ih,List.map_cons,List.sum_cons]
  rw [show k+(c x:Int)+((r.map c).sum:Nat)=k+((c x+(r.map c).sum:Nat):Int) by omega]
def Cq {α:Type} (f:α→Int→α) (c:α→Nat) (l:List α) (k:Int) (j:Nat):List α:=B0 f c (l.take j) k++l.drop j
theorem Eb {α:Type}(f:α→Int→α)(c:α→Nat)(l:List α)(k:Int)(j:Nat):(Cq f c l k j).length=l.length:=by
 simp only [Cq,List.length_append,Dy,List.length_take,List.length_drop]
 omega
theorem Gr {α:Type}(f:α→Int→α)(c:α→Nat)(l:List α)(k:Int)(j:Nat)(h:¬ j<l.length):Cq f c l k j=B0 f c l k:=by
 simp only [Cq]
 rw [List.take_of_length_le Ad,List.drop_of_length_le Ad,List.append_nil]
theorem Gs {α:Type}(f:α→Int→α)(c:α→Nat)(l:List α)(k:Int)(j:Nat)(d:α)(h:j<l.length):(Cq f c l k j).getD j d=l.getD j d:=by
 have hl:(B0 f c (l.take j) k).length=j:=by rw [Dy,List.length_take];omega
 simp [Cq,List.getD,List.getElem?_append_right,hl]
theorem A3n {α:Type} [Inhabited α] (f:α→Int→α)(c:α→Nat)(l:List α)(k:Int)(j i:Nat)(h:j<l.length)(hi:i≠j):(Cq f c l k (j+1)).getD i default=(Cq f c l k j).getD i default:=by
 have e:l.take (j+1)=l.take j++[l.getD j default]:=by rw [List.take_add_one];simp [List.getD,h]
 have hl:(B0 f c (l.take j) k).length=j:=by rw [Dy,List.length_take];omega
 have hd:l.drop j=l.getD j default::l.drop (j+1):=by rw [List.drop_eq_getElem_cons h];simp [List.getD,h]
 simp only [Cq,e,S4,List.append_assoc,hd]
 simp only [List.getD]
 rcases Nat.lt_or_gt_of_ne hi with hi|hi
 ·rw [List.getElem?_append_left Ad,List.getElem?_append_left Ad]
 ·obtain ⟨m,hm⟩:∃m,i-j=m+1:=⟨i-j-1,by omega⟩
  conv=>lhs;rw [List.getElem?_append_right Ad,hl,hm]
  conv=>rhs;rw [List.getElem?_append_right Ad,hl,hm]
  simp [B0]
theorem A5s {α:Type} [Inhabited α] (f:α→Int→α)(c:α→Nat)(l:List α)(k:Int)(j:Nat)(h:j<l.length):(Cq f c l k (j+1)).getD j default=f (l.getD j default) (k+(((l.take j).map c).sum:Nat)):=by
 have e:l.take (j+1)=l.take j++[l.getD j default]:=by rw [List.take_add_one];simp [List.getD,h]
 have hl:(B0 f c (l.take j) k).length=j:=by rw [Dy,List.length_take];omega
 simp only [Cq,e,S4]
 simp [List.getD,hl,B0]
def Fg (row:Nat→List Ab) (j:Nat) (r:List Ab):Nat→List Ab:=fun i=>if i=j then r else row i
theorem Ct (row:Nat→List Ab)(j:Nat)(r:List Ab):Fg row j r j=r:=by simp [Fg]
theorem Jy (row:Nat→List Ab)(j i:Nat)(r:List Ab)(h:i≠j):Fg row j r i=row i:=by simp [Fg,h]
theorem Gi.refl (cs:List Ab):Gi cs cs:=by
 induction cs with
 |nil=>trivial
 |cons c cs ih=>exact ⟨.refl c,ih⟩
theorem A6u {n es:Nat}{row:Nat→List Ab}{j off:Nat}{cs r r':List Ab}(h:Dk r off cs=r'):Mt n es (Fg row j r) j off cs (.sl n es (Fg row j r')):=
 ⟨_,rfl,fun _ _ hi=>by rw [Jy _ _ _ _ hi,Jy _ _ _ _ hi],by rw [Ct,Ct,h]⟩
theorem A7i (row:Nat→List Ab)(j off:Nat)(v:Value){r:List Ab}(hr:row j=r):(fun i=>if i=j then Dk (row i) off [.val v] else row i)=Fg row j (Dk r off [.val v]):=by
 funext i
 unfold Fg
 by_cases h:i=j
 ·subst h;rw [if_pos rfl,if_pos rfl,hr]
 ·rw [if_neg h,if_neg h]
open Go.RowKit (Below) in
theorem Mj {P:Program}{T:List (TypeId×TI)}(hT:Ci P T){B:B5}{Q:Exit→Act→World→Prop}{q:Bool}{all:Array Oper}{o:Oper}{rest:List Oper}{K:List KI}{s:AS}{x:Operand}{t:TypeId}{i:TI}
  (hg:o.guard=none)(ho:o.op= .load t x)(hi:find T t=some i)(hag:i.agg=false){k es off n j:Nat}{row:Nat→List Ab}
  (hx:s.ev x= .oel k es (j:Int) off)(hk:C2 s.own k=some (.sl n es row)){r:List Ab}(hr:row j=r){c:Ab}(hc:r[off]? =some c)
  (h:∀v,GW P B Q (.ops q all rest::K) (({s with own:=⟨s.next,c⟩::⟨k,.sl n es (Fg row j (Dk r off [.val v]))⟩::Br [k] s.own,next:=s.next+1,links:=(s.next,v)::s.links}:AS).put o.dst (.own s.next))):
  GW P B Q (.ops q all (o::rest)::K) s:=
 B10 hT hg ho hi hag hx hk (c:=c) (by rw [Int.toNat_natCast,hr];exact hc) fun v=>by
  have:=h v
  rw [←A7i row j off v hr] at this
  rw [Int.toNat_natCast]
  exact this
theorem B3u {P:Program}{B:B5}{Q:Exit→Act→World→Prop}{K:List KI}{s:AS}(k k2:Nat){n es:Nat}{row:Nat→List Ab}{j:Nat}(off:Nat){r:List Ab}{v:Value}{c:Ab}(hk:C2 s.own k=some (.sl n es (Fg row j r)))
  (hj:j<n)(hc:r[off]? =some (.val v))(h2:C2 s.own k2=some c)(hl:De s.links k2=some v)(hne:Nat.beq k k2=false){r':List Ab}(hr:Dk r off [c]=r')
  (h:GW P B Q K {s with own:=⟨k,.sl n es (Fg row j r')⟩::Br [k,k2] s.own}):GW P B Q K s:=
 A4r k k2 hk hj (off:=off) (by rw [Ct];exact hc) h2 hl hne _ (A6u hr) h
theorem getD_set_self {α:Type}(l:List α)(j:Nat)(x d:α)(h:j<l.length):(l.set j x).getD j d=x:=by simp [List.getD,h]
theorem getD_set_ne {α:Type}(l:List α)(i j:Nat)(x d:α)(h:i≠j):(l.set j x).getD i d=l.getD i d:=by simp [List.getD,List.getElem?_set_ne (Ne.symm h)]
theorem I9 {α:Type} [Inhabited α] {es:Nat}{e:α→List Ab}{xs:List α}{j off:Nat}{y x:α}{cs:List Ab}(hj:j<xs.length)(hy:xs.getD j default=y)(h:Dk (e y) off cs=e x):
  Mt xs.length es (fun i=>e (xs.getD i default)) j off cs (Cb es e (xs.set j x)):=Cz hj (by rw [hy];exact h)
theorem D4 {α:Type} [Inhabited α] {es:Nat}{e:α→List Ab}{xs:List α}{j off:Nat}{x1 x2:α}{cs:List Ab}(hj:j<xs.length)(h:Dk (e x1) off cs=e x2):
  Mt (xs.set j x1).length es (fun i=>e ((xs.set j x1).getD i default)) j off cs (Cb es e (xs.set j x2)):=by
 refine ⟨_,by rw [Cb,List.length_set,List.length_set],fun i _ hne=>?_,?_⟩
 ·simp only [getD_set_ne _ _ _ _ _ hne]
 ·simp only [getD_set_self _ _ _ _ hj,h]
theorem Fj {α:Type} [Inhabited α] {es:Nat}{e:α→List Ab}{xs:List α}{j off:Nat}{x2:α}{r cs:List Ab}(hj:j<xs.length)(h:Dk r off cs=e x2):
  Mt xs.length es (Fg (fun i=>e (xs.getD i default)) j r) j off cs (Cb es e (xs.set j x2)):=by
 refine ⟨_,by rw [Cb,List.length_set],fun i _ hne=>?_,?_⟩
 ·simp only [getD_set_ne _ _ _ _ _ hne,Jy _ _ _ _ hne]
 ·simp only [getD_set_self _ _ _ _ hj,Ct,h]
theorem Hx {α:Type} [Inhabited α] {es:Nat}{e:α→List Ab}{xs:List α}{j off:Nat}{x1 x2:α}{r cs:List Ab}(hj:j<xs.length)(h:Dk r off cs=e x2):
  Mt (xs.set j x1).length es (Fg (fun i=>e ((xs.set j x1).getD i default)) j r) j off cs (Cb es e (xs.set j x2)):=by
 refine ⟨_,by rw [Cb,List.length_set,List.length_set],fun i _ hne=>?_,?_⟩
 ·simp only [getD_set_ne _ _ _ _ _ hne,Jy _ _ _ _ hne]
 ·simp only [getD_set_self _ _ _ _ hj,Ct,h]
theorem Gt {α:Type} [Inhabited α] (f:α→Int→α)(c:α→Nat)(l:List α)(k:Int)(j:Nat)(h:j<l.length):
  (Cq f c l k j).set j (f (l.getD j default) (k+(((l.take j).map c).sum:Nat)))=Cq f c l k (j+1):=by
 apply List.ext_getElem?
 intro i
 have hl:=Eb f c l k j
 have hl':=Eb f c l k (j+1)
 by_cases hi:i=j
 ·subst hi
  have:=A5s f c l k i h
  rw [List.getElem?_set_self Ad,←this]
  simp [List.getD,List.getElem?_eq_getElem (show i<(Cq f c l k (i+1)).length by omega)]
 ·rw [List.getElem?_set_ne Ad]
  have:=A3n f c l k j i h hi
  by_cases hb:i<l.length
  ·simp only [List.getD,List.getElem?_eq_getElem (show i<(Cq f c l k (j+1)).length by omega),List.getElem?_eq_getElem (show i<(Cq f c l k j).length by omega),Option.getD_some] at this
   rw [List.getElem?_eq_getElem Ad,List.getElem?_eq_getElem Ad,this]
  ·rw [List.getElem?_eq_none Ad,List.getElem?_eq_none Ad]
theorem Ia {P:Program}{B:B5}{Q:Exit→Act→World→Prop}{K:List KI}{s:AS}(k k2:Nat){n es:Nat}{row:Nat→List Ab}{j:Nat}(off:Nat){r:List Ab}{v:Value}{c:Ab}(hk:C2 s.own k=some (.sl n es (Fg row j r)))
  (hj:j<n)(hc:r[off]? =some (.val v))(h2:C2 s.own k2=some c)(hl:De s.links k2=some v)(hne:Nat.beq k k2=false){c':Ab}(hr:Mt n es (Fg row j r) j off [c] c')
  (h:GW P B Q K {s with own:=⟨k,c'⟩::Br [k,k2] s.own}):GW P B Q K s:=
 A4r k k2 hk hj (off:=off) (by rw [Ct];exact hc) h2 hl hne _ hr h
theorem Dr {α:Type}(c:α→Nat)(l:List α)(h:∀x,1≤c x):l.length≤(l.map c).sum:=by
 induction l with
 |nil=>simp
 |cons x r ih=>have:=h x;simp only [List.length_cons,List.map_cons,List.sum_cons];omega
end Go.Sx
namespace Go.Sx
def I2 (_:Int) (k:Int):Int:=k
def E6 (_:Int):Nat:=1
def Hz (_:Bool) (k:Int):Bool:=k.tmod 3==0
def Ed (_:Bool):Nat:=1
def Dq.mark (_:Dq) (k:Int):Dq:=⟨k,k+1⟩
def Dq.cnt (_:Dq):Nat:=1+1
def Ig.mark (_:Ig) (k:Int):Ig:=⟨⟨k,k+1⟩,k+1+1⟩
def Ig.cnt (_:Ig):Nat:=1+1+1
def A3.mark (_:A3) (k:Int):A3:=⟨k,⟨k+1,k+1+1⟩,k+1+1+1,k+1+1+1+1⟩
def A3.cnt (_:A3):Nat:=1+1+1+1+1
def As.mark (x:As) (k:Int):As:=⟨k,B0 A3.mark A3.cnt x.queue (k+1),k+1+((x.queue.map A3.cnt).sum:Nat),k+1+((x.queue.map A3.cnt).sum:Nat)+1,k+1+((x.queue.map A3.cnt).sum:Nat)+1+1,k+1+((x.queue.map A3.cnt).sum:Nat)+1+1+1⟩
def As.cnt (x:As):Nat:=1+(x.queue.map A3.cnt).sum+1+1+1+1
def Au.mark (x:Au) (k:Int):Au:=⟨k,k+1,k+1+1,B0 I2 E6 x.outs (k+1+1+1)⟩
def Au.cnt (x:Au):Nat:=1+1+1+(x.outs.map E6).sum
def Aa.mark (_:Aa) (k:Int):Aa:=⟨k,k+1,k+1+1,k+1+1+1⟩
def Aa.cnt (_:Aa):Nat:=1+1+1+1
def Bp.mark (_:Bp) (k:Int):Bp:=⟨k,(k+1).tmod 3==0⟩
def Bp.cnt (_:Bp):Nat:=1+1
def A6.mark (x:A6) (k:Int):A6:=⟨B0 A3.mark A3.cnt x.queue (k),B0 A3.mark A3.cnt x.staged (k+((x.queue.map A3.cnt).sum:Nat)),B0 A3.mark A3.cnt x.inputs (k+((x.queue.map A3.cnt).sum:Nat)+((x.staged.map A3.cnt).sum:Nat)),B0 Aa.mark Aa.cnt x.cells (k+((x.queue.map A3.cnt).sum:Nat)+((x.staged.map A3.cnt).sum:Nat)+((x.inputs.map A3.cnt).sum:Nat)),B0 I2 E6 x.sums (k+((x.queue.map A3.cnt).sum:Nat)+((x.staged.map A3.cnt).sum:Nat)+((x.inputs.map A3.cnt).sum:Nat)+((x.cells.map Aa.cnt).sum:Nat)),B0 Hz Ed x.black (k+((x.queue.map A3.cnt).sum:Nat)+((x.staged.map A3.cnt).sum:Nat)+((x.inputs.map A3.cnt).sum:Nat)+((x.cells.map Aa.cnt).sum:Nat)+((x.sums.map E6).sum:Nat)),B0 Hz Ed x.caps (k+((x.queue.map A3.cnt).sum:Nat)+((x.staged.map A3.cnt).sum:Nat)+((x.inputs.map A3.cnt).sum:Nat)+((x.cells.map Aa.cnt).sum:Nat)+((x.sums.map E6).sum:Nat)+((x.black.map Ed).sum:Nat)),B0 Bp.mark Bp.cnt x.dones (k+((x.queue.map A3.cnt).sum:Nat)+((x.staged.map A3.cnt).sum:Nat)+((x.inputs.map A3.cnt).sum:Nat)+((x.cells.map Aa.cnt).sum:Nat)+((x.sums.map E6).sum:Nat)+((x.black.map Ed).sum:Nat)+((x.caps.map Ed).sum:Nat))⟩
def A6.cnt (x:A6):Nat:=(x.queue.map A3.cnt).sum+(x.staged.map A3.cnt).sum+(x.inputs.map A3.cnt).sum+(x.cells.map Aa.cnt).sum+(x.sums.map E6).sum+(x.black.map Ed).sum+(x.caps.map Ed).sum+(x.dones.map Bp.cnt).sum
def Ay.mark (_:Ay) (k:Int):Ay:=⟨(k).tmod 3==0,k+1,k+1+1,(k+1+1+1).tmod 3==0,(k+1+1+1+1).tmod 3==0⟩
def Ay.cnt (_:Ay):Nat:=1+1+1+1+1
def B7.mark (_:B7) (k:Int):B7:=⟨k,k+1,(k+1+1).tmod 3==0⟩
def B7.cnt (_:B7):Nat:=1+1+1
def Bo.mark (_:Bo) (k:Int):Bo:=⟨k,k+1,k+1+1⟩
def Bo.cnt (_:Bo):Nat:=1+1+1
def As.markV (x:As) (k:Int):As:=⟨x.cap,B0 A3.mark A3.cnt x.queue (k),x.credits,x.back,x.sent,x.got⟩
def As.cntV (x:As):Nat:=(x.queue.map A3.cnt).sum
def Au.markV (x:Au) (k:Int):Au:=⟨x.kind,x.a,x.b,B0 I2 E6 x.outs (k)⟩
def Au.cntV (x:Au):Nat:=(x.outs.map E6).sum
def Ar.markV (x:Ar) (k:Int):Ar:=⟨B0 Au.mark Au.cnt x.nodes (k),x.workers,x.cap⟩
def Ar.cntV (x:Ar):Nat:=(x.nodes.map Au.cnt).sum
def A6.markV (x:A6) (k:Int):A6:=⟨B0 A3.mark A3.cnt x.queue (k),B0 A3.mark A3.cnt x.staged (k+((x.queue.map A3.cnt).sum:Nat)),B0 A3.mark A3.cnt x.inputs (k+((x.queue.map A3.cnt).sum:Nat)+((x.staged.map A3.cnt).sum:Nat)),B0 Aa.mark Aa.cnt x.cells (k+((x.queue.map A3.cnt).sum:Nat)+((x.staged.map A3.cnt).sum:Nat)+((x.inputs.map A3.cnt).sum:Nat)),B0 I2 E6 x.sums (k+((x.queue.map A3.cnt).sum:Nat)+((x.staged.map A3.cnt).sum:Nat)+((x.inputs.map A3.cnt).sum:Nat)+((x.cells.map Aa.cnt).sum:Nat)),B0 Hz Ed x.black (k+((x.queue.map A3.cnt).sum:Nat)+((x.staged.map A3.cnt).sum:Nat)+((x.inputs.map A3.cnt).sum:Nat)+((x.cells.map Aa.cnt).sum:Nat)+((x.sums.map E6).sum:Nat)),B0 Hz Ed x.caps (k+((x.queue.map A3.cnt).sum:Nat)+((x.staged.map A3.cnt).sum:Nat)+((x.inputs.map A3.cnt).sum:Nat)+((x.cells.map Aa.cnt).sum:Nat)+((x.sums.map E6).sum:Nat)+((x.black.map Ed).sum:Nat)),B0 Bp.mark Bp.cnt x.dones (k+((x.queue.map A3.cnt).sum:Nat)+((x.staged.map A3.cnt).sum:Nat)+((x.inputs.map A3.cnt).sum:Nat)+((x.cells.map Aa.cnt).sum:Nat)+((x.sums.map E6).sum:Nat)+((x.black.map Ed).sum:Nat)+((x.caps.map Ed).sum:Nat))⟩
def A6.cntV (x:A6):Nat:=(x.queue.map A3.cnt).sum+(x.staged.map A3.cnt).sum+(x.inputs.map A3.cnt).sum+(x.cells.map Aa.cnt).sum+(x.sums.map E6).sum+(x.black.map Ed).sum+(x.caps.map Ed).sum+(x.dones.map Bp.cnt).sum
def A4.markV (x:A4) (k:Int):A4:=⟨x.graph.markV (k),B0 A6.mark A6.cnt x.workers (k+(x.graph.cntV:Nat)),B0 As.mark As.cnt x.links (k+(x.graph.cntV:Nat)+((x.workers.map A6.cnt).sum:Nat)),B0 Ay.mark Ay.cnt x.tokens (k+(x.graph.cntV:Nat)+((x.workers.map A6.cnt).sum:Nat)+((x.links.map As.cnt).sum:Nat)),B0 B7.mark B7.cnt x.news (k+(x.graph.cntV:Nat)+((x.workers.map A6.cnt).sum:Nat)+((x.links.map As.cnt).sum:Nat)+((x.tokens.map Ay.cnt).sum:Nat))⟩
def A4.cntV (x:A4):Nat:=x.graph.cntV+(x.workers.map A6.cnt).sum+(x.links.map As.cnt).sum+(x.tokens.map Ay.cnt).sum+(x.news.map B7.cnt).sum
def D9.markV (x:D9) (k:Int):D9:=⟨x.graph.markV (k),B0 A3.mark A3.cnt x.inputs (k+(x.graph.cntV:Nat)),B0 Bo.mark Bo.cnt x.picks (k+(x.graph.cntV:Nat)+((x.inputs.map A3.cnt).sum:Nat)),x.rounds⟩
def D9.cntV (x:D9):Nat:=x.graph.cntV+(x.inputs.map A3.cnt).sum+(x.picks.map Bo.cnt).sum
theorem Tp {α:Type}(c w:α→Nat)(l:List α)(h:∀x,c x≤5+5 * w x):(l.map c).sum≤5 * (l.length+(l.map w).sum):=by
 induction l with
 |nil=>simp
 |cons x r ih=>have:=h x;simp only [List.map_cons,List.sum_cons,List.length_cons];omega
theorem Fu {α:Type}(c:α→Nat)(l:List α)(h:∀x,c x≤5):(l.map c).sum≤5 * l.length:=by
 induction l with
 |nil=>simp
 |cons x r ih=>have:=h x;simp only [List.map_cons,List.sum_cons,List.length_cons];omega
theorem Uz (l:List Int):(l.map E6).sum≤5 * l.length:=Fu _ _ fun _=>by simp only [E6];omega
theorem Rk (l:List Bool):(l.map Ed).sum≤5 * l.length:=Fu _ _ fun _=>by simp only [Ed];omega
theorem Dq.sum_le (l:List Dq):(l.map Dq.cnt).sum≤5 * l.length:=Fu _ _ fun _=>by simp only [Dq.cnt];omega
theorem Ig.sum_le (l:List Ig):(l.map Ig.cnt).sum≤5 * l.length:=Fu _ _ fun _=>by simp only [Ig.cnt];omega
theorem A3.sum_le (l:List A3):(l.map A3.cnt).sum≤5 * l.length:=Fu _ _ fun _=>by simp only [A3.cnt];omega
theorem As.sum_le (l:List As):(l.map As.cnt).sum≤5 * wS As.w l:=Tp _ _ _ fun x=>by
 have h0:=A3.sum_le x.queue
 simp only [As.cnt,As.w];omega
theorem As.cntV_le (x:As):x.cntV≤5 * x.w:=by
 have h1:=A3.sum_le x.queue
 simp only [As.cntV,As.w];omega
theorem Au.sum_le (l:List Au):(l.map Au.cnt).sum≤5 * wS Au.w l:=Tp _ _ _ fun x=>by
 have h0:=Uz x.outs
 simp only [Au.cnt,Au.w];omega
theorem Au.cntV_le (x:Au):x.cntV≤5 * x.w:=by
 have h3:=Uz x.outs
 simp only [Au.cntV,Au.w];omega
theorem Ar.cntV_le (x:Ar):x.cntV≤5 * x.w:=by
 have h0:=Au.sum_le x.nodes
 simp only [Ar.cntV,Ar.w];omega
theorem Aa.sum_le (l:List Aa):(l.map Aa.cnt).sum≤5 * l.length:=Fu _ _ fun _=>by simp only [Aa.cnt];omega
theorem Bp.sum_le (l:List Bp):(l.map Bp.cnt).sum≤5 * l.length:=Fu _ _ fun _=>by simp only [Bp.cnt];omega
theorem A6.sum_le (l:List A6):(l.map A6.cnt).sum≤5 * wS A6.w l:=Tp _ _ _ fun x=>by
 have h0:=A3.sum_le x.queue
 have h1:=A3.sum_le x.staged
 have h2:=A3.sum_le x.inputs
 have h3:=Aa.sum_le x.cells
 have h4:=Uz x.sums
 have h5:=Rk x.black
 have h6:=Rk x.caps
 have h7:=Bp.sum_le x.dones
 simp only [A6.cnt,A6.w];omega
theorem A6.cntV_le (x:A6):x.cntV≤5 * x.w:=by
 have h0:=A3.sum_le x.queue
 have h1:=A3.sum_le x.staged
 have h2:=A3.sum_le x.inputs
 have h3:=Aa.sum_le x.cells
 have h4:=Uz x.sums
 have h5:=Rk x.black
 have h6:=Rk x.caps
 have h7:=Bp.sum_le x.dones
 simp only [A6.cntV,A6.w];omega
theorem Ay.sum_le (l:List Ay):(l.map Ay.cnt).sum≤5 * l.length:=Fu _ _ fun _=>by simp only [Ay.cnt];omega
theorem B7.sum_le (l:List B7):(l.map B7.cnt).sum≤5 * l.length:=Fu _ _ fun _=>by simp only [B7.cnt];omega
theorem A4.cntV_le (x:A4):x.cntV≤5 * x.w:=by
 have h0:=x.graph.cntV_le
 have h1:=A6.sum_le x.workers
 have h2:=As.sum_le x.links
 have h3:=Ay.sum_le x.tokens
 have h4:=B7.sum_le x.news
 simp only [A4.cntV,A4.w];omega
theorem Bo.sum_le (l:List Bo):(l.map Bo.cnt).sum≤5 * l.length:=Fu _ _ fun _=>by simp only [Bo.cnt];omega
theorem D9.cntV_le (x:D9):x.cntV≤5 * x.w:=by
 have h0:=x.graph.cntV_le
 have h1:=A3.sum_le x.inputs
 have h2:=Bo.sum_le x.picks
 simp only [D9.cntV,D9.w];omega
end Go.Sx
namespace Go.Sx
theorem Gw {α:Type} [Inhabited α] (xs:List α)(k:Nat)(h:k<xs.length):xs.take (k+1)=xs.take k++[xs.getD k default]:=by
 rw [List.take_add_one];simp [List.getD,h]
theorem Dv {α:Type} [Inhabited α] (p:α→Bool)(xs:List α)(k:Nat)(h:k<xs.length):
  (xs.take (k+1)).filter p=(xs.take k).filter p++(if p (xs.getD k default)=true then [xs.getD k default] else []):=by
 rw [Gw xs k h,List.filter_append]
 congr 1
 by_cases hp:p (xs.getD k default)=true
 ·rw [if_pos hp,List.filter_cons_of_pos hp,List.filter_nil]
 ·rw [if_neg hp,List.filter_cons_of_neg hp,List.filter_nil]
theorem Dn {α:Type}(p:α→Bool)(xs:List α)(k:Nat):((xs.take k).filter p).length≤xs.length:=by
 have h1:=List.length_filter_le p (xs.take k)
 have h2:=List.length_take_le k xs
 have h3:=List.length_take_le' k xs
 omega
theorem B00 {α:Type} [Inhabited α] (p:α→Bool)(xs:List α)(k:Nat)(h:k<xs.length):
  (xs.take (k+1)).any p=((xs.take k).any p||p (xs.getD k default)):=by
 rw [Gw xs k h,List.any_append];simp
theorem Vk {α:Type} [Inhabited α] (p:α→Bool)(xs:List α)(k:Nat)(h:k<xs.length):
  (xs.take (k+1)).all p=((xs.take k).all p&&p (xs.getD k default)):=by
 rw [Gw xs k h,List.all_append];simp
theorem B2 {α:Type}{d:α}{xs:List α}{k:Nat}(h:k<xs.length):xs.getD k d∈xs:=by
 rw [List.getD,List.getElem?_eq_getElem h];exact List.getElem_mem h
theorem K7 {α:Type} [Inhabited α] {p:α→Bool}{xs:List α}{k:Nat}(h:k<xs.length)(hp:p (xs.getD k default)=true):xs.any p=true:=
 List.any_eq_true.2 ⟨_,B2 h,hp⟩
theorem Ee {α:Type}(xs:List α)(k:Nat)(h:¬ k<xs.length):xs.take k=xs:=List.take_of_length_le Ad
theorem Do {α:Type} [Inhabited α] {es:Nat}{e:α→List Ab}{row:Nat→List Ab}:Ie (.sl 0 es row) (Cb es e ([]:List α)):=⟨rfl,rfl,fun _ h=>nomatch h⟩
theorem Fs {b:Bool}{p q:Prop}(hb:b=true)(h:p):(b=true→p)∧(b=false→q):=⟨fun _=>h,fun e=>by rw [hb] at e;cases e⟩
theorem F7 {b:Bool}{p q:Prop}(hb:b=false)(h:q):(b=true→p)∧(b=false→q):=⟨fun e=>(by rw [hb] at e;cases e),fun _=>h⟩
theorem Jn {p q:Prop}(hq:q)(hp:p:=by first|omega|(show _∧_;omega)|((repeat (first|rw [ByteArray.size_append]|rw [bsz]|rw [List.size_toArray]|rw [List.length_cons]|rw [List.length_nil]))<;>omega)|((repeat rw [Int.toNat_natCast])<;>first|omega|(show _∧_;omega))|(simp only [ByteArray.size_append,bsz,List.size_toArray,List.length_cons,List.length_nil];omega)|(simp only [Int.toNat_natCast];first|omega|(show _∧_;omega))|decide):p∧q:=⟨hp,hq⟩
theorem Fe {p q:Prop}(hq:q)(hp:p:=by first|omega|(show _∧_;omega)|((repeat (first|rw [ByteArray.size_append]|rw [bsz]|rw [List.size_toArray]|rw [List.length_cons]|rw [List.length_nil]))<;>omega)|((repeat rw [Int.toNat_natCast])<;>first|omega|(show _∧_;omega))|(simp only [ByteArray.size_append,bsz,List.size_toArray,List.length_cons,List.length_nil];omega)|(simp only [Int.toNat_natCast];first|omega|(show _∧_;omega))|decide|(simp only [beq_iff_eq,beq_eq_false_iff_ne,bne_iff_ne,bne_eq_false_iff_eq,Bool.not_eq_true',Bool.not_eq_false',Go.Sx.Am,Go.Sx.Aw,decide_eq_true_eq,decide_eq_false_iff_not,ne_eq,Int.not_lt,Int.not_le,ge_iff_le,gt_iff_lt,Int.toNat_zero,Int.toNat_one,Int.toNat_natCast] at * <;>first|omega|(show _∧_;omega))):p∧q:=⟨hp,hq⟩
theorem skf {b:Bool}{p q:Prop}(h:q)(hb:b=false:=by first|with_reducible rfl|assumption|(simp;done)|fail):(b=true→p)∧(b=false→q):=F7 hb h
theorem skt {b:Bool}{p q:Prop}(h:p)(hb:b=true:=by first|with_reducible rfl|assumption|(simp;done)|fail):(b=true→p)∧(b=false→q):=Fs hb h
theorem Ki {b:Bool}{p q:Prop}(h:q)(hb:b=false:=by first|with_reducible rfl|assumption):(b=true→p)∧(b=false→q):=F7 hb h
theorem Kj {b:Bool}{p q:Prop}(h:p)(hb:b=true:=by first|with_reducible rfl|assumption):(b=true→p)∧(b=false→q):=Fs hb h
end Go.Sx
namespace Go.Sx
open Go.RowKit (Below)
variable {P : Program} {T : List (TypeId × TI)}
theorem A44 (hT:Ci P T){B:B5}{Q:Exit→Act→World→Prop}{q:Bool}{all:Array Oper}{o:Oper}{rest:List Oper}{K:List KI}{s:AS}{t e:TypeId}{len:Nat}{parts:Array (Nat×Operand)}{i j:TI}
  (hg:o.guard=none)(ho:o.op= .buildSlice t len parts)(hi:find T t=some i)(hie:i.elem=some e)(hj:find T e=some j)(hsm:(Nat.ble (len * j.size) 10000&&Nat.blt 0 j.size)=true)
  {l:List AV}(hcs:Ng T (Hb len 0 j.size e) s parts.toList (repL len (H5 j))=some l){cs:List Ab}{ks:List Nat}(hc:Od s.own l=some (cs,ks))(hkd:Fo ks=true)
  (h:G P B Q (.ops q all rest::K) (({s with own:=⟨s.next,.sl len j.size fun i=>(cs.drop (i * j.size)).take j.size⟩::Br ks s.own,next:=s.next+1}:AS).put o.dst (.own s.next))):G P B Q (.ops q all (o::rest)::K) s:=by
 refine G3 hg (by rw [ho];simp [Dl]) (fun E a w hs=>?_)
 obtain ⟨f,d,z,S⟩:=TI.of_spec (hT e j hj)
 have hzs:z.cells.size=j.size:=by have:=S.zlen;rw [←S.cells] at this;simpa using this
 simp only [Bool.and_eq_true] at hsm
 have hpos:=G7 hsm.2
 have hsmall:=Nat.le_of_ble_eq_true hsm.1
 have hlen:len≤len * j.size:=Nat.le_mul_of_pos_right _ hpos
 have hz0:DL E w (s.avoid E) s.next (repL len (H5 j)) ((Array.range (len * j.size)).map (z.cells[· % z.cells.size]!)):=by
  refine ⟨by simp [Is,H5,S.zlen],fun k y hy=>?_⟩
  have hzl:(H5 j).length=j.size:=by simp [H5,S.zlen]
  have hk:k<len * j.size:=by have:=(List.getElem?_eq_some_iff.1 hy).1;rwa [Is,hzl] at this
  rw [A32 _ _ _ (by rw [hzl];exact hk),hzl] at hy
  have:=(V7 (hT e j hj) S.cells E w (s.avoid E) s.next).2 _ _ hy
  have hm:k % j.size<z.cells.size:=by rw [hzs];exact Nat.mod_lt _ (Nat.pos_of_ne_zero (fun h=>by rw [h] at hk;simp at hk))
  have e1:((Array.range (len * j.size)).map (z.cells[· % z.cells.size]!)).getD k undef=z.cells.getD (k % j.size) undef:=by
   have:=Lm z.cells (len * j.size) k hk
   rw [show (Array.range (len * j.size)).map (z.cells[· % z.cells.size]!)=madeCells z.cells (len * j.size) from rfl,this,hzs]
   rw [getElem!_pos z.cells _ hm]
   simp only [Array.getD,hm,dif_pos]
   rfl
  rw [e1]
  exact this
 obtain ⟨cs',hfill,hDL⟩:=A0o hT hs (Hb len 0 j.size e) (fun k=>some (k * j.size,j.size)) (fun k o u hk j' hj'=>by
  obtain ⟨rfl,rfl⟩:=Qo _ _ _ _ _ _ _ hk
  rw [hj] at hj'
  obtain rfl:=Option.some.inj hj'
  simp) parts.toList _ _ l hcs hz0
 have hll:l.length=len * j.size:=by
  have:=Q8 hcs
  rw [this,Is]
  simp [H5,S.zlen]
 have hcsl:cs'.size=len * j.size:=by have:=hDL.1;omega
 have hrun:(Instr.buildSlice t len (parts.map fun p=>(p.1,a.eval p.2))).run P w= .ok (.slice (some ⟨w.heap.size,0,none⟩) len len) (w.alloc (.cells cs' e)):=by
  have hnot:¬ (16777216<len * j.size):=by omega
  have hfill':Instr.fill (fun k=>some (k * j.size,j.size)) ((Array.range (len * j.size)).map (z.cells[· % z.cells.size]!)) (parts.map fun p=>(p.1,a.eval p.2)).toList=some cs':=by
   rw [Array.toList_map];exact hfill
  by_cases h0:len * j.size=0
  ·simp [Instr.buildSlice,run_underlying (Cd (hT t i hi) hie),Bw (hT e j hj),h0,newRow,Array.range_zero']
   simp [h0,Array.range_zero'] at hfill'
   rw [hfill']
   simp
  ·simp [Instr.buildSlice,run_underlying (Cd (hT t i hi) hie),Bw (hT e j hj),hnot,h0,newRow,zeroValue,typeInfo,S.hf,S.hz]
   simp at hfill'
   rw [hfill']
   simp
 have hnd:=Ds hkd
 obtain ⟨q1,q2,gps,q3,q4,q5⟩:=X3 hs hc hnd (vs:=cs'.toList) (by simp only [Array.length_toList];omega) (fun m z hz=>by rw [C5];exact hDL.2 m z hz)
 have hcl:cs.length=len * j.size:=by omega
 have hbel:=In w (.cells cs' e)
 have hlt:∀b∈(List.range cs.length).flatMap gps,b<w.heap.size:=by
  intro b hb
  obtain ⟨k,hk,hb1⟩:=List.mem_flatMap.1 (q5 b hb)
  obtain ⟨y,hy,rfl⟩:=q2 k hk
  exact (hs.own y hy).2.1.lt b hb1
 have hown:=Ch.sl (w:=w.alloc (.cells cs' e)) len j.size (fun i=>(cs.drop (i * j.size)).take j.size) w.heap.size 0 len e cs' gps
  (Nat.le_refl _) (by simp only [maxLen];omega) (heap_alloc_new w _) (by simp [hcsl]) (fun k hk=>by
   have h2:k * j.size+j.size≤len * j.size:=by rw [←Nat.succ_mul];exact Nat.mul_le_mul_right _ hk
   simp [hcl];omega) (fun k m c hk hc'=>by
   have hm:m<j.size:=by have:=(List.getElem?_eq_some_iff.1 hc').1;simp at this;omega
   rw [List.getElem?_take,if_pos hm,List.getElem?_drop] at hc'
   have ho:=q3 _ _ hc'
   rw [C5] at ho
   rw [show (0+k) * j.size+m=k * j.size+m by rw [Nat.zero_add]]
   refine ho.move (fun b hb=>?_)
   have hkl:k * j.size+m<cs.length:=(List.getElem?_eq_some_iff.1 hc').1
   exact Fr w _ _ (hlt b (List.mem_flatMap.2 ⟨_,List.mem_range.2 hkl,hb⟩)))
 rw [←hcl] at hown
 have hfp:(w.heap.size::(List.range cs.length).flatMap gps).Nodup:=List.nodup_cons.2 ⟨fun hm=>Nat.lt_irrefl _ (hlt _ hm),q4⟩
 have hI:=hs.drop ks
 have key:∀b,b∈(List.range cs.length).flatMap gps→s.avoid E b∧¬ ({s with own:=Br ks s.own}:AS).avoid E b:=by
  intro b hb
  obtain ⟨k,hk1,hb1⟩:=List.mem_flatMap.1 (q5 b hb)
  obtain ⟨y,hy,rfl⟩:=q2 k hk1
  refine ⟨.inr ⟨y,hy,hb1⟩,?_⟩
  rintro (⟨u,hu,rfl⟩|⟨u,hu,hb'⟩)
  ·exact hs.sepB u hu y hy hb1
  ·obtain ⟨hz1,hz2⟩:=Ca.1 hu
   exact hs.sep y hy u hz1 (fun e=>hz2 (e▸hk1)) b hb1 hb'
 have hkept:A2d (fun _=>False) w (w.alloc (.cells cs' e)):=⟨rfl,rfl,rfl,by simp,fun k hk _=>Fr w _ _ hk⟩
 have hI2:=hI.kept hkept (fun b hb=>hb.elim)
 obtain ⟨k1,k2⟩:=hI2.addOwn hown hfp (fun b hb=>by
  rcases List.mem_cons.1 hb with rfl|hb
  ·refine ⟨.inr (Nat.le_refl _),fun hav=>?_,.inl hs.base.size⟩
   have:=hs.avoid_lt (hI.sub _ hav)
   omega
  ·exact ⟨.inl (key b hb).1,(key b hb).2,hs.fresh b (key b hb).1⟩)
 have hput:=(k1.put o.dst k2).is
 refine ⟨_,_,.inl (by
  obtain ⟨dst,op',ty',pos,after,guard⟩:=o
  simp only at ho
  subst ho
  simp only [execOp,Sem.run_bind,hrun,Result.andThen_ok];rfl),fun hk=>(by
   exact ⟨by simp,fun k hk=>Fr w _ _ hk⟩),h _ _ _ (by simpa [AS.addOwn] using hput)⟩
theorem Mi (hT:Ci P T){B:B5}{Q:Exit→Act→World→Prop}{q:Bool}{all:Array Oper}{o:Oper}{rest:List Oper}{K:List KI}{s:AS}{t e:TypeId}{len:Nat}{parts:Array (Nat×Operand)}{i j:TI}
  (hg:o.guard=none)(ho:o.op= .buildSlice t len parts)(hi:find T t=some i)(hie:i.elem=some e)(hj:find T e=some j)(hsm:(Nat.ble (len * j.size) 10000&&Nat.blt 0 j.size)=true)
  {l:List AV}(hcs:Ng T (Hb len 0 j.size e) s parts.toList (repL len (H5 j))=some l){cs:List Ab}{ks:List Nat}(hc:Od s.own l=some (cs,ks))(hkd:Fo ks=true)
  (h:GW P B Q (.ops q all rest::K) (({s with own:=⟨s.next,.sl len j.size fun i=>(cs.drop (i * j.size)).take j.size⟩::Br ks s.own,next:=s.next+1}:AS).put o.dst (.own s.next))):GW P B Q (.ops q all (o::rest)::K) s:=
 ⟨A44 hT hg ho hi hie hj hsm hcs hc hkd (h.rec id)⟩
theorem AS.is.reBox {s:AS}{B:B5}{E:D8}{a:Act}{w:World}(h:s.is B E a w){k:Nat}{b:Bx}(hb:F3 s.boxes k=some b)(cells:List AV)
  (hd:∀vs:Array Value,vs.size=b.cells.length→(∀i y,b.cells[i]? =some y→Cu E w (s.avoid E) s.next y (vs.getD i undef))→vs.size=cells.length∧∀j y,cells[j]? =some y→Cu E w (s.avoid E) s.next y (vs.getD j undef)):
  ({s with boxes:=Ep s.boxes k cells}:AS).is B E a w:=by
 obtain ⟨hm,rfl⟩:=Ej hb
 have av:∀c,({s with boxes:=Ep s.boxes b.key cells}:AS).avoid E c↔s.avoid E c:=by
  intro c
  constructor
  ·rintro (⟨x,hx,rfl⟩|h)
   ·rcases Ek hx h.keys with ⟨h1,_,y,hy,h2⟩|⟨h1,_⟩
    ·exact .inl ⟨y,hy,by rw [h1,h2]⟩
    ·exact .inl ⟨x,h1,rfl⟩
   ·exact .inr h
  ·rintro (⟨x,hx,rfl⟩|h)
   ·obtain ⟨y,hy,e⟩:=Zw (k:=b.key) (cs:=cells) hx
    exact .inl ⟨y,hy,by rw [e]⟩
   ·exact .inr h
 have mv:∀x v,Cu E w (s.avoid E) s.next x v→Cu E w (({s with boxes:=Ep s.boxes b.key cells}:AS).avoid E) s.next x v:=
  fun x v hx=>hx.move (Nat.le_refl _) (fun _ _=>⟨rfl,rfl⟩) (fun _ _ _=>rfl) (fun c _ hc=>(av c).1 hc)
 refine ⟨h.defers,h.links,h.size,fun i x hx=>mv _ _ (h.slots i x hx),?_,?_,?_,h.own,h.ownkeys,h.sep,?_,h.one,h.base,fun c hc=>h.fresh c ((av c).1 hc)⟩
 ·intro x hx
  rcases Ek hx h.keys with ⟨h1,h2,_⟩|⟨h1,_⟩
  ·obtain ⟨g1,vs,ty,g2,g3,g4⟩:=h.boxes b hm
   obtain ⟨e1,e2⟩:=hd vs g3 g4
   exact ⟨h1▸g1,vs,ty,by rw [h1];exact g2,by rw [h2];exact e1,fun j y hj=>mv _ _ (e2 j y (by rw [←h2];exact hj))⟩
  ·obtain ⟨g1,vs,ty,g2,g3,g4⟩:=h.boxes x h1
   exact ⟨g1,vs,ty,g2,g3,fun j y hj=>mv _ _ (g4 j y hj)⟩
 ·intro x hx y hy he
  rcases Ek hx h.keys with ⟨h1,_⟩|⟨h1,_⟩<;>rcases Ek hy h.keys with ⟨g1,_⟩|⟨g1,_⟩
  ·rw [h1,g1]
  ·rw [h1] at he ⊢
   exact h.boxes2 b hm y g1 he
  ·rw [g1] at he ⊢
   exact h.boxes2 x h1 b hm he
  ·exact h.boxes2 x h1 y g1 he
 ·show ((Ep s.boxes b.key cells).map (·.key)).Nodup
  rw [Lu]
  exact h.keys
 ·intro x hx y hy
  rcases Ek hx h.keys with ⟨h1,_⟩|⟨h1,_⟩
  ·rw [h1];exact h.sepB b hm y hy
  ·exact h.sepB x h1 y hy
theorem A1c {B:B5}{Q:Exit→Act→World→Prop}{K:List KI}{s:AS}(k off es:Nat)(row:Nat→List Ab){b:Bx}(hb:F3 s.boxes k=some b)(hi:Cr b.cells off= .c (.val (.slice none 0 0)))
  (h:GW P B Q K {s with boxes:=Ep s.boxes k (Co b.cells off (.own s.next)),own:=⟨s.next,.sl 0 es row⟩::s.own,next:=s.next+1}):GW P B Q K s:=by
 refine ⟨fun E a w hs=>?_⟩
 have hI:s.isA B E (s.avoid E) a w:=⟨hs.defers,hs.links,hs.size,hs.slots,hs.boxes,hs.boxes2,hs.keys,hs.own,hs.ownkeys,hs.sep,hs.sepB,hs.one,hs.base,hs.fresh,fun _ h=>h⟩
 obtain ⟨k1,k2⟩:=hI.addOwn (.nil es row) C7 C7
 have k3:=k1.is
 have k4:=k3.reBox (k:=k) (b:=b) hb (Co b.cells off (.own s.next)) (fun vs h1 h2=>by
  refine ⟨by rw [Cg];exact h1,fun j y hj=>?_⟩
  rw [Dh] at hj
  split at hj
  ·rename_i hm
   obtain ⟨rfl,hm⟩:=hm
   obtain rfl:=Option.some.inj hj
   have hd:=h2 off (.c (.val (.slice none 0 0))) (by rw [Cy,List.getElem?_eq_getElem hm] at hi;rw [List.getElem?_eq_getElem hm];simpa using hi)
   rw [Bq hd]
   exact k2.move (Nat.le_refl _) (fun _ _=>⟨rfl,rfl⟩) (fun _ _ _=>rfl) (fun b _ hb=>k1.sub b hb)
  ·exact h2 j y hj)
 exact h.out _ _ _ k4
theorem Ak (id:Nat)(hm:P.follows .mixedOrders=true){B:B5}{Q:Exit→Act→World→Prop}{ops:Array Oper}{K:List KI}{s:AS}(ord:List Nat)(hB:B2q ops ord=true)
  (h:GW P B Q (.ops true ops (A09 ops ord)::K) s):GW P B Q (.code (.region id ops true)::K) s:=Ks hm ord hB h
theorem B1 {α:Type} [Inhabited α] {es:Nat}{e:α→List Ab}{row1:Nat→List Ab}{xs:List α}:Rf 0 xs.length es row1 (fun i=>e (xs.getD i default)) (Cb es e xs):=
 ⟨_,by rw [Cb,Nat.zero_add],fun i hi=>by omega,fun i hi=>by simp⟩
theorem Nl {α:Type} [Inhabited α] {e:α→List Ab}(xs:List α)(h:∀x,∀c∈e x,∃v,c= .val v):El xs.length (fun i=>e (xs.getD i default)):=fun _ _=>h _
theorem Mx (xs:List Int):El xs.length (fun i=>[vi (xs.getD i default)]):=Nl (e:=fun n=>[vi n]) xs fun _x _c hc=>⟨_,List.mem_singleton.1 hc⟩
theorem Nk (xs:List Bool):El xs.length (fun i=>[vb (xs.getD i default)]):=Nl (e:=fun n=>[vb n]) xs fun _x _c hc=>⟨_,List.mem_singleton.1 hc⟩
theorem Ba (xs:List A3):El xs.length (fun i=>A3.c (xs.getD i default)):=Nl xs fun x c hc=>by
 simp only [A3.c,List.mem_cons,List.not_mem_nil,or_false] at hc
 rcases hc with rfl|rfl|rfl|rfl|rfl<;>exact ⟨_,rfl⟩
theorem Fa (xs:List Aa):El xs.length (fun i=>Aa.c (xs.getD i default)):=Nl xs fun x c hc=>by
 simp only [Aa.c,List.mem_cons,List.not_mem_nil,or_false] at hc
 rcases hc with rfl|rfl|rfl|rfl<;>exact ⟨_,rfl⟩
theorem Fh (xs:List B7):El xs.length (fun i=>B7.c (xs.getD i default)):=Nl xs fun x c hc=>by
 simp only [B7.c,List.mem_cons,List.not_mem_nil,or_false] at hc
 rcases hc with rfl|rfl|rfl<;>exact ⟨_,rfl⟩
theorem W4 (xs:List Bp):El xs.length (fun i=>Bp.c (xs.getD i default)):=Nl xs fun x c hc=>by
 simp only [Bp.c,List.mem_cons,List.not_mem_nil,or_false] at hc
 rcases hc with rfl|rfl<;>exact ⟨_,rfl⟩
theorem Io (xs:List Ay):El xs.length (fun i=>Ay.c (xs.getD i default)):=Nl xs fun x c hc=>by
 simp only [Ay.c,List.mem_cons,List.not_mem_nil,or_false] at hc
 rcases hc with rfl|rfl|rfl|rfl|rfl<;>exact ⟨_,rfl⟩
end Go.Sx
namespace Go.Sx
def Eg (n lo hi:Int):Bool:=if n≥lo then decide (n≤hi) else false
def E7 (n lo hi:Int):Int:=if hi<lo∨n<lo then lo else if hi<n then hi else n
def E3 (key n:Int):Int:=if n<1 then 0 else if key.tmod n<0 then key.tmod n+n else key.tmod n
theorem Am {n lo hi:Int}:Eg n lo hi=true↔lo≤n∧n≤hi:=by
 unfold Eg
 split
 ·simp;omega
 ·simp;omega
theorem Ha (n lo hi:Int)(h:lo≤hi):lo≤E7 n lo hi∧E7 n lo hi≤hi:=by
 unfold E7
 split
 ·omega
 ·split<;>omega
theorem B0m (k:Nat)(h:k<4611686018427387904):IntKind.i64.wrap ((k:Int)+1)=((k+1:Nat):Int):=by
 rw [Hp (by show _∧_;omega)];omega
theorem A4.workers_le {x:A4}{n:Nat}(h:x.w≤n):x.workers.length≤n:=by simp only [A4.w,wS] at h;omega
theorem A4.news_le {x:A4}{n:Nat}(h:x.w≤n):x.news.length≤n:=by simp only [A4.w,wS] at h;omega
theorem A4.worker_le {x:A4}{n:Nat}(h:x.w≤n){k:Nat}(hk:k<x.workers.length):((x.workers.take k).map A6.w).sum+(x.workers.getD k default).w≤n:=by
 have:=Bz A6.w x.workers k hk
 simp only [A4.w,wS] at h;omega
theorem A4.link_le {x:A4}{n:Nat}(h:x.w≤n){k:Nat}(hk:k<x.links.length):((x.links.take k).map As.w).sum+(x.links.getD k default).w≤n:=by
 have:=Bz As.w x.links k hk
 simp only [A4.w,wS] at h;omega
theorem Dq.eqv (x y:Dq):(x.epoch==y.epoch&&(x.turn==y.turn&&true))=decide (x=y):=by
 obtain ⟨_,_⟩:=x
 obtain ⟨_,_⟩:=y
 rw [Bool.eq_iff_iff];simp [and_assoc]
theorem Ig.eqv (x y:Ig):(x.stamp.epoch==y.stamp.epoch&&(x.stamp.turn==y.stamp.turn&&(x.n==y.n&&true)))=decide (x=y):=by
 obtain ⟨⟨_,_⟩,_⟩:=x
 obtain ⟨⟨_,_⟩,_⟩:=y
 rw [Bool.eq_iff_iff];simp [and_assoc]
theorem A3.eqv (x y:A3):(x.op==y.op&&(x.stamp.epoch==y.stamp.epoch&&(x.stamp.turn==y.stamp.turn&&(x.key==y.key&&(x.val==y.val&&true)))))=decide (x=y):=by
 obtain ⟨_,⟨_,_⟩,_,_⟩:=x
 obtain ⟨_,⟨_,_⟩,_,_⟩:=y
 rw [Bool.eq_iff_iff];simp [and_assoc]
theorem Aa.eqv (x y:Aa):(x.op==y.op&&(x.epoch==y.epoch&&(x.key==y.key&&(x.val==y.val&&true))))=decide (x=y):=by
 obtain ⟨_,_,_,_⟩:=x
 obtain ⟨_,_,_,_⟩:=y
 rw [Bool.eq_iff_iff];simp [and_assoc]
theorem Bp.eqv (x y:Bp):(x.epoch==y.epoch&&(x.capped==y.capped&&true))=decide (x=y):=by
 obtain ⟨_,_⟩:=x
 obtain ⟨_,_⟩:=y
 rw [Bool.eq_iff_iff];simp [and_assoc]
theorem Ay.eqv (x y:Ay):(x.going==y.going&&(x.at_==y.at_&&(x.sum==y.sum&&(x.black==y.black&&(x.capped==y.capped&&true)))))=decide (x=y):=by
 obtain ⟨_,_,_,_,_⟩:=x
 obtain ⟨_,_,_,_,_⟩:=y
 rw [Bool.eq_iff_iff];simp [and_assoc]
theorem B7.eqv (x y:B7):(x.to_==y.to_&&(x.epoch==y.epoch&&(x.capped==y.capped&&true)))=decide (x=y):=by
 obtain ⟨_,_,_⟩:=x
 obtain ⟨_,_,_⟩:=y
 rw [Bool.eq_iff_iff];simp [and_assoc]
theorem Bo.eqv (x y:Bo):(x.kind==y.kind&&(x.a==y.a&&(x.b==y.b&&true)))=decide (x=y):=by
 obtain ⟨_,_,_⟩:=x
 obtain ⟨_,_,_⟩:=y
 rw [Bool.eq_iff_iff];simp [and_assoc]
theorem Au.eqv (x y:Au):decide (x=y)=(x.kind==y.kind&&(x.a==y.a&&(x.b==y.b&&decide (x.outs=y.outs)))):=by
 obtain ⟨_,_,_,_⟩:=x
 obtain ⟨_,_,_,_⟩:=y
 rw [Bool.eq_iff_iff];simp
theorem Ar.eqv (x y:Ar):decide (x=y)=(decide (x.nodes=y.nodes)&&(x.workers==y.workers&&x.cap==y.cap)):=by
 obtain ⟨_,_,_⟩:=x
 obtain ⟨_,_,_⟩:=y
 rw [Bool.eq_iff_iff];simp
theorem D9.eqv (x y:D9):decide (x=y)=(decide (x.graph=y.graph)&&(decide (x.inputs=y.inputs)&&(decide (x.picks=y.picks)&&x.rounds==y.rounds))):=by
 obtain ⟨_,_,_,_⟩:=x
 obtain ⟨_,_,_,_⟩:=y
 rw [Bool.eq_iff_iff];simp
def Ei (xs:List A3) (e:Int):List A3:=xs.filter fun r=>r.stamp.epoch==e
def A5y (w:A6) (e:Int):Bool:=w.inputs.any fun r=>decide (r.stamp.epoch≤e)
def Y2 (w:A6) (e:Int):Nat:=(Ei w.queue e).length+(Ei w.staged e).length
def Hv (w:A6) (e:Int):Bool:=if A5y w e then false else (Y2 w e:Int)==0
def Gp (w:A6) (e:Int):Bool:=w.dones.any fun d=>d.epoch==e
def Lt (c:A4) (e:Int):Bool:=if 0<c.workers.length then Gp (c.workers.getD 0 default) e else false
theorem Jv (xs:List A3)(e:Int):(Ei xs e).length≤xs.length:=List.length_filter_le _ _
def Fm {α:Type} (p:α→Bool):List α→Nat
 | []=>0
 |x::r=>if p x=true then 0 else Fm p r+1
def Kt {α:Type} (p:α→Bool) (xs:List α):Int:=if xs.any p=true then (Fm p xs:Int) else-1
theorem B1y {α:Type} [Inhabited α] (p:α→Bool)(xs:List α)(k:Nat)(h:(xs.take k).any p=false)(hk:k<xs.length)(hp:p (xs.getD k default)=true):Fm p xs=k:=by
 induction xs generalizing k with
 |nil=>simp at hk
 |cons x r ih=>
  cases k with
  |zero=>
   simp only [List.getD_cons_zero] at hp
   simp [Fm,hp]
  |succ k=>
   simp only [List.take_succ_cons,List.any_cons,Bool.or_eq_false_iff] at h
   have:=ih k h.2 (by simpa using hk) (by simpa using hp)
   simp [Fm,h.1,this]
theorem Mw {α:Type} [Inhabited α] (p:α→Bool)(xs:List α)(k:Nat)(h:(xs.take k).any p=false)(hk:k<xs.length)(hp:p (xs.getD k default)=true):Kt p xs=k:=by
 rw [Kt,if_pos (K7 hk hp),B1y p xs k h hk hp]
theorem Ii {α:Type}(p:α→Bool)(xs:List α)(h:xs.any p=false):Kt p xs= -1:=by rw [Kt,if_neg (by rw [h];decide)]
theorem T0 {α:Type}(p:α→Bool)(xs:List α):decide (Kt p xs≥0)=xs.any p:=by
 unfold Kt
 cases h:xs.any p with
 |true=>rw [if_pos rfl];exact decide_eq_true Ad
 |false=>rw [if_neg Bs];exact decide_eq_false Ad
theorem Fc {α:Type} [Inhabited α] {p:α→Bool}{xs:List α}{k:Nat}(h:(xs.take k).any p=false)(hk:k<xs.length)(hp:p (xs.getD k default)=false):(xs.take (k+1)).any p=false:=by
 rw [B00 p xs k hk,h,hp];rfl
end Go.Sx
namespace Go.Sx
open Go.RowKit (Below)
variable {P : Program} {T : List (TypeId × TI)}
end Go.Sx
namespace Go.Sx
variable {P : Program} {T : List (TypeId × TI)} {ops : Array Oper}
end Go.Sx
set_option maxRecDepth 100000
namespace Go.Sx
open Go
theorem Rl {B:B5}{Q:Exit→Act→World→Prop}{s:AS}(k:Nat)(c':Ab){c:Ab}(hk:C2 s.own k=some c)(hc:Ie c c')
  (h:RW B Q {s with own:=Gz s.own k c'}):RW B Q s:=by
 refine ⟨fun E a w hs=>?_⟩
 have hm:=Ce hk
 have av:∀b,({s with own:=Gz s.own k c'}:AS).avoid E b→s.avoid E b:=by
  rintro b (hb|⟨y,hy,hb⟩)
  ·exact .inl hb
  ·obtain ⟨z,hz,e⟩:=G6 hy
   exact .inr ⟨z,hz,by rw [e];exact hb⟩
 have mv:∀x v,Cu E w (s.avoid E) s.next x v→Cu E w (({s with own:=Gz s.own k c'}:AS).avoid E) s.next x v:=fun x v hx=>
  hx.move (Nat.le_refl _) (fun _ _=>⟨rfl,rfl⟩) (fun _ _ _=>rfl) (fun b _ hb=>av b hb)
 obtain ⟨h⟩:=h
 refine h E a w ⟨hs.defers,hs.links,hs.size,fun i x hx=>mv _ _ (hs.slots i x hx),fun x hx=>?_,hs.boxes2,hs.keys,fun y hy=>?_,by rw [Rb];exact hs.ownkeys,fun y hy z hz hne=>?_,fun x hx y hy=>?_,hs.one,hs.base,fun b hb=>hs.fresh b (av b hb)⟩
 ·obtain ⟨h1,vs,ty,h2,h3,h4⟩:=hs.boxes x hx
  exact ⟨h1,vs,ty,h2,h3,fun i y hy=>mv _ _ (h4 i y hy)⟩
 ·rcases Q2 hy with ⟨h1,h2,_⟩|⟨h1,_⟩
  ·obtain ⟨g1,g2,g3⟩:=hs.own _ hm
   rw [h1,h2]
   exact ⟨g1,hc.own g2,g3⟩
  ·exact hs.own y h1
 ·obtain ⟨y',hy',e1⟩:=G6 hy
  obtain ⟨z',hz',e2⟩:=G6 hz
  rw [←e1,←e2]
  exact hs.sep y' hy' z' hz' (by rw [e1,e2];exact hne)
 ·obtain ⟨y',hy',e1⟩:=G6 hy
  rw [←e1]
  exact hs.sepB x hx y' hy'
end Go.Sx
set_option maxRecDepth 100000
namespace Go.Sx
open Go
theorem A78 {α:Type} [Inhabited α] {es:Nat}{e:α→List Ab}{xs:List α}{x y:α}{row:Nat→List Ab}(h0:row 0=e x)(h1:row 1=e y):
  Rf xs.length 2 es (fun i=>e (xs.getD i default)) row (Cb es e (xs++[x,y])):=by
 obtain ⟨r,hr,ha,hb⟩:=V3 es e xs [x,y]
 refine ⟨r,hr,ha,fun i hi=>?_⟩
 rw [hb i hi]
 match i,hi with
 | 0,_=>exact h0.symm
 | 1,_=>exact h1.symm
theorem B3c {α:Type} [Inhabited α] {es:Nat}{e:α→List Ab}{xs:List α}{x y z u:α}{row:Nat→List Ab}(h0:row 0=e x)(h1:row 1=e y)(h2:row 2=e z)(h3:row 3=e u):
  Rf xs.length 4 es (fun i=>e (xs.getD i default)) row (Cb es e (xs++[x,y,z,u])):=by
 obtain ⟨r,hr,ha,hb⟩:=V3 es e xs [x,y,z,u]
 refine ⟨r,hr,ha,fun i hi=>?_⟩
 rw [hb i hi]
 match i,hi with
 | 0,_=>exact h0.symm
 | 1,_=>exact h1.symm
 | 2,_=>exact h2.symm
 | 3,_=>exact h3.symm
theorem Gi.rfl':∀l:List Ab,Gi l l
 | []=>trivial
 |_::l=>⟨.inl rfl,Gi.rfl' l⟩
theorem A8r {α:Type} [Inhabited α] {es:Nat}{e:α→List Ab}{x y z u:α}{row:Nat→List Ab}(h0:row 0=e x)(h1:row 1=e y)(h2:row 2=e z)(h3:row 3=e u):
  Ie (.sl 4 es row) (Cb es e [x,y,z,u]):=by
 refine ⟨rfl,rfl,fun i hi=>?_⟩
 match i,hi with
 | 0,_=>rw [h0];exact Gi.rfl' _
 | 1,_=>rw [h1];exact Gi.rfl' _
 | 2,_=>rw [h2];exact Gi.rfl' _
 | 3,_=>rw [h3];exact Gi.rfl' _
theorem Nj {α:Type}(f:Nat→List α)(k:Nat):(List.range (k+1)).flatMap f=(List.range k).flatMap f++f k:=by
 rw [List.range_succ,List.flatMap_append];simp
def pW (w:Nat):List Bo:=[⟨1,w,0⟩,⟨3,w,0⟩,⟨2,w,0⟩,⟨7,w,0⟩]
def pK (w k:Nat):List Bo:=if (w:Int)=k then [] else [⟨4,w,k⟩,⟨5,w,k⟩]
def pA (n:Nat):List Bo:=(List.range n).flatMap pW
def pB (w j:Nat):List Bo:=(List.range j).flatMap (pK w)
def pC (n m:Nat):List Bo:=(List.range m).flatMap fun w=>pB w n
def pE (e:Nat):List Bo:=(List.range e).map fun e=>⟨6,(e:Nat),0⟩
def Lx (n:Nat):List Bo:=pA n++pC n n++pE 4
theorem A1e (k:Nat):pA (k+1)=pA k++pW k:=Nj _ _
theorem A1f (w k:Nat):pB w (k+1)=pB w k++pK w k:=Nj _ _
theorem A1g (n k:Nat):pC n (k+1)=pC n k++pB k n:=Nj _ _
theorem A7x (k:Nat):pE (k+1)=pE k++[⟨6,(k:Nat),0⟩]:=by simp [pE,List.range_succ]
theorem X5 (k:Nat):(pA k).length=4 * k:=by
 induction k with
 |zero=>rfl
 |succ k ih=>rw [A1e,List.length_append,ih];rfl
theorem B6c (w k:Nat):(pK w k).length≤2:=by unfold pK;split<;>simp
theorem A51 (w k:Nat):(pB w k).length≤2 * k:=by
 induction k with
 |zero=>exact Nat.le_refl _
 |succ k ih=>rw [A1f,List.length_append];have:=B6c w k;omega
theorem X6 (n k:Nat)(hn:n≤4):(pC n k).length≤8 * k:=by
 induction k with
 |zero=>exact Nat.le_refl _
 |succ k ih=>rw [A1g,List.length_append];have:=A51 k n;omega
theorem A52 (k:Nat):(pE k).length=k:=by simp [pE]
theorem Rg (n:Nat)(hn:n≤4):(Lx n).length≤52:=by
 have:=X6 n n hn
 simp only [Lx,List.length_append,X5,A52];omega
theorem B44 (w k:Nat)(h:k<4):(pW w).take (k+1)=(pW w).take k++[⟨([1,3,2,7]:List Int).getD k default,w,0⟩]:=by
 match k,h with
 | 0,_=>rfl
 | 1,_=>rfl
 | 2,_=>rfl
 | 3,_=>rfl
end Go.Sx
set_option maxRecDepth 100000
namespace Go.Sx
open Go
variable {P : Program} {T : List (TypeId × TI)}
def bnd (s:AS) (x:Option Operand) (d:Int):Option Int:=
 match x with
 |none=>some d
 |some y=>match s.ev y with
  | .c (.val (.int _ v))=>some v
  |_=>none
def B5w (x:Option Value) (l d:Int):Prop:=(x=none∧l=d)∨∃k,x=some (.int k l)
theorem J5 {B:B5}{E:D8}{a:Act}{w:World}{s:AS}(hs:s.is B E a w){x:Option Operand}{d l:Int}(h:bnd s x d=some l):B5w (x.map a.eval) l d:=by
 cases x with
 |none=>exact .inl ⟨rfl,(Option.some.inj h).symm⟩
 |some y=>
  refine .inr ?_
  simp only [bnd] at h
  have hd:=hs.ev y
  generalize s.ev y=z at h hd
  split at h
  ·rename_i k v
   obtain rfl:=Option.some.inj h
   have e:=Bq hd
   exact ⟨k,by simp [e]⟩
  ·cases h
def Vd (n es:Nat) (row:Nat→List Ab) (l h:Int) (c:Ab):Prop:=∃row',c= .sl (h-l).toNat es row'∧∀i,i<(h-l).toNat→row' i=row (l.toNat+i)
theorem A1n {t e:TypeId}{i j:TI}(hi:TI.of P t=some i)(he:i.elem=some e)(hj:TI.of P e=some j){a:Option Addr}{len cap:Nat}{lo hi':Option Value}{l h:Int}
  (hl:B5w lo l 0)(hh:B5w hi' h len)(h0:0≤l)(h1:l≤h)(h2:h≤len)(h3:len≤cap)(w:World):
  (Instr.sliceAt t (.slice a len cap) lo hi' none).run P w= .ok (sliced a l.toNat h.toNat cap j.size) w:=by
 have hu:=Cd hi he
 have hel:P.elem t=e:=by simp [Program.elem,hu]
 have hu':P.underlying t=some (.slice (P.elem t)):=by rw [hel];exact hu
 have hz:∀w,(sizeOf (P.elem t)).run P w= .ok j.size w:=fun w=>by rw [hel];exact Bw hj w
 rw [run_sliceAt_slice w t _ _ _ _ hu']
 rcases hl with ⟨rfl,rfl⟩|⟨k1,rfl⟩<;>rcases hh with ⟨rfl,rfl⟩|⟨k2,rfl⟩
 ·rw [run_slice_all w t a len cap hu',hz];simp [Result.andThen]
 ·rw [run_slice_h w t a len cap hu' k2 h h1 Ad,hz];simp [Result.andThen]
 ·rw [run_slice_l w t a len cap hu' k1 l h0 Ad,hz];simp [Result.andThen]
 ·rw [run_slice_lh w t a len cap hu' k1 k2 l h h0 h1 Ad,hz];simp [Result.andThen]
theorem B47 {w:World}{A:Nat→Prop}{n es:Nat}{row:Nat→List Ab}{v:Value}(hr:Og w A (.sl n es row) v){l h:Int}(h0:0≤l)(h1:l≤h)(h2:h≤n){c:Ab}(hc:Vd n es row l h c):
  ∃a cap,v= .slice a n cap∧n≤cap∧Og w A c (sliced a l.toNat h.toNat cap es):=by
 obtain ⟨row',rfl,hrow⟩:=hc
 cases hr with
 |nil=>
  refine ⟨none,0,rfl,Nat.le_refl _,?_⟩
  have e1:l=0:=by omega
  have e2:h=0:=by omega
  subst e1;subst e2
  exact .nil _ _
 |emp _ _ a=>
  refine ⟨some a,0,rfl,Nat.le_refl _,?_⟩
  have e1:l=0:=by omega
  have e2:h=0:=by omega
  subst e1;subst e2
  exact .emp _ _ a
 |sl _ _ _ b off cap u hA hn hcap hl hu hrr=>
  refine ⟨_,cap,rfl,hn,?_⟩
  obtain ⟨p,rfl⟩:∃p:Nat,l=p:=⟨l.toNat,by omega⟩
  obtain ⟨q,rfl⟩:∃q:Nat,h=q:=⟨h.toNat,by omega⟩
  have e:((q:Int)-p).toNat=q-p:=by omega
  simp only [Int.toNat_natCast] at hrow ⊢
  rw [e] at hrow ⊢
  unfold sliced
  by_cases hcl:cap=p
  ·have e1:q-p=0:=by omega
   have e2:cap-p=0:=by omega
   rw [if_pos hcl,e1,e2]
   exact .emp _ _ _
  ·rw [if_neg hcl]
   have ea:(some (⟨b,off,none⟩:Addr)).map (fun x=>x.add (p * es))=some ⟨b,off+p * es,none⟩:=by
    simp only [Option.map_some,Addr.add]
    split
    ·rename_i h;rw [h];rfl
    ·rfl
   have eb:(some (⟨b,off,none⟩:Addr)).map (·.add (p * es))=some ⟨b,off+p * es,none⟩:=ea
   rw [eb]
   refine .sl (q-p) es row' b (off+p * es) (cap-p) (fun i j=>u (p+i) j) (fun h=>hA ?_) Ad Ad (fun i hi=>?_) (fun i j hi hj=>?_) (fun i j c hi hj=>?_)
   ·exact Nat.lt_of_lt_of_le h (Nat.mul_le_mul_right _ Ad)
   ·rw [hrow i hi];exact hl _ Ad
   ·have:=hu (p+i) j Ad hj
    rw [Nat.add_mul] at this
    rw [show off+p * es+i * es+j=off+(p * es+i * es)+j by omega]
    exact this
   ·rw [hrow i hi] at hj
    exact hrr (p+i) j c Ad hj
theorem O0 (hT:Ci P T){B:B5}{Q:Exit→Act→World→Prop}{q:Bool}{all:Array Oper}{o:Oper}{rest:List Oper}{K:List KI}{s:AS}{t e:TypeId}{x:Operand}{lo hi:Option Operand}{i j:TI}
  (hg:o.guard=none)(ho:o.op= .slice t x lo hi none)(hi':find T t=some i)(he:i.elem=some e)(hj:find T e=some j)
  {n es:Nat}{row:Nat→List Ab}(hx:s.ev x= .c (.sl n es row))(hes:es=j.size){l h:Int}(hl:bnd s lo 0=some l)(hh:bnd s hi n=some h)
  (hb:0≤l∧l≤h∧h≤n)(c:Ab)(hc:Vd n es row l h c)
  (hgo:GW P B Q (.ops q all rest::K) (s.put o.dst (.c c))):GW P B Q (.ops q all (o::rest)::K) s:=by
 subst hes
 refine ⟨Fl hg (fun E a w hs=>?_)⟩
 have hd:=hs.ev x
 rw [hx] at hd
 cases hd with
 |c hr=>
  obtain ⟨ad,cap,hv,hcap,hrep⟩:=B47 hr hb.1 hb.2.1 hb.2.2 hc
  have h1:=J5 hs hl
  have h2:=J5 hs hh
  refine ⟨_,fun w' _=>?_,hgo.rec fun hg=>hg _ _ _ (hs.put o.dst (.c hrep))⟩
  have hrun:=A1n (a:=ad) (hT t i hi') he (hT e j hj) h1 h2 hb.1 hb.2.1 hb.2.2 hcap w'
  obtain ⟨dst,op',ty,pos,after,guard⟩:=o
  simp only at ho
  subst ho
  simp [execOp,hv,hrun]
theorem A1s {α:Type} [Inhabited α] {es:Nat}{e:α→List Ab}{xs:List α}{l h:Int}(h0:0≤l)(h1:l≤h)(h2:h≤xs.length):
  Vd xs.length es (fun i=>e (xs.getD i default)) l h (Cb es e ((xs.drop l.toNat).take (h-l).toNat)):=by
 have hlen:((xs.drop l.toNat).take (h-l).toNat).length=(h-l).toNat:=by simp;omega
 refine ⟨_,by rw [Cb,hlen],fun i hi=>?_⟩
 simp [List.getD,hi]
end Go.Sx
set_option maxRecDepth 100000
namespace Go.Sx
open Go
open Go.RowKit (Below)
variable {P : Program} {T : List (TypeId × TI)}
def A41 (P:Program) (H:World→Prop) (f:FuncId) (ins outs:List F9):Prop:=
 Iz P f∧∀(w:World),H w→∀(vs:List Value),vs.length=ins.length→(∀i x,ins[i]? =some x→I4 w (fun _=>False) x (vs.getD i undef))→
  Calls P f vs.toArray w fun e w'=>Ms w w' outs e
theorem B4c {H:World→Prop}{f:FuncId}{fn:Func}{c:Code}{ins outs:List F9}(hf:P.funcs[f]? =some fn)(hb:fn.body=some c)(hn:(fn.name== "runtime.NumGoroutine")=false)
  (h:∀W,H W→G P ⟨W,fun _=>False⟩ (bodyPost P fn fun e w'=>Ms W w' outs e) [.code c] (G0 fn.ntmps ins)):A41 P H f ins outs:=by
 refine ⟨⟨fn,hf,hn,by simp [hb]⟩,fun w hH vs hl hv=>calls_of_wp hf hb ?_⟩
 refine h w hH ⟨fun _=> .slice none 0 0,fun _=>[]⟩ _ w ?_
 have nav:∀b,¬ (G0 fn.ntmps ins).avoid ⟨fun _=> .slice none 0 0,fun _=>[]⟩ b:=by
  rintro b (⟨x,hx,_⟩|⟨y,hy,_⟩)
  ·simp [G0] at hx
  ·simp [G0] at hy
 have nb:∀x,x∉(G0 fn.ntmps ins).boxes:=by simp [G0]
 have no:∀x,x∉(G0 fn.ntmps ins).own:=by simp [G0]
 refine ⟨rfl,by simp [G0],by simp [G0,hl],fun i x hx=>?_,fun x hx=>absurd hx (nb x),fun x hx=>absurd hx (nb x),by simp [G0],fun y hy=>absurd hy (no y),by simp [G0],fun y hy=>absurd hy (no y),fun x hx=>absurd hx (nb x),fun _ _=>rfl,
  ⟨rfl,rfl,rfl,Nat.le_refl _,fun _ _ _=>rfl⟩,fun b hb=>absurd hb (nav b)⟩
 simp only [G0] at hx
 by_cases hi:i<ins.length
 ·rw [List.getElem?_append_left (by simpa using hi)] at hx
  simp only [List.getElem?_map,Option.map_eq_some_iff] at hx
  obtain ⟨y,hy,rfl⟩:=hx
  have hr:=hv i y hy
  have hiv:i<vs.length:=by omega
  have e:(vs.toArray++Array.replicate (fn.ntmps-vs.toArray.size) undef).getD i undef=vs.getD i undef:=by
   simp [Array.getD,List.getD,hiv,show i<vs.length+(fn.ntmps-vs.length) by omega]
  rw [e]
  cases y with
  |one c=>exact .c (hr.move (fun _ _ _=>rfl) (fun b _ hb=>absurd hb (nav b)))
  |agg cs=>
   obtain ⟨us,hu,hul,hur⟩:=hr
   rw [hu]
   refine .agg us (by simp [hul]) (fun j x hj=>?_)
   simp only [List.getElem?_map,Option.map_eq_some_iff] at hj
   obtain ⟨c,hc,rfl⟩:=hj
   exact .c ((hur j c hc).move (fun _ _ _=>rfl) (fun b _ hb=>absurd hb (nav b)))
  |ptr cs=>exact hr.den (fun b hb=>absurd hb (nav b))
  |fn f caps=>
   obtain ⟨us,hu,hul,hur⟩:=hr
   rw [hu]
   refine .fn us (by simp [hul]) (fun j x hj=>?_)
   simp only [List.getElem?_map,Option.map_eq_some_iff] at hj
   obtain ⟨c,hc,rfl⟩:=hj
   have hr:=hur j c hc
   cases c with
   |one c=>exact .c (Og.move hr (fun _ _ _=>rfl) (fun b _ hb=>absurd hb (nav b)))
   |ptr cs=>exact Lb.den hr (fun b hb=>absurd hb (nav b))
 ·rw [List.getElem?_append_right Kw] at hx
  obtain rfl:AV.any=x:=by
   have:=List.mem_of_getElem? hx
   simpa using (List.eq_of_mem_replicate this).symm
  exact .any _
theorem B52 (hT:Ci P T)(wr:Bool){H:World→Prop}{f:FuncId}{fn:Func}{c:Code}{ins outs:List F9}(hf:P.funcs[f]? =some fn)(hb:fn.body=some c)(hn:(fn.name== "runtime.NumGoroutine")=false)
  (h:∀W,H W→Ys P ⟨W,fun _=>False⟩ (bodyPost P fn fun e w'=>Ms W w' outs e) (Ny T wr 100000 [.code c] (G0 fn.ntmps ins))):A41 P H f ins outs:=
 B4c hf hb hn fun W hW=>(go hT wr (h W hW)).rec id
end Go.Sx
set_option maxRecDepth 100000
namespace Go.Sx
open Go
def dec (n:Int):ByteArray:=⟨(Lib.itoa n).toArray⟩
end Go.Sx
set_option maxRecDepth 100000
namespace Go.Sx
open Go
open Go.RowKit (Below)
variable {P : Program}
theorem bsz (a:Array UInt8):(ByteArray.mk a).size=a.size:=rfl
theorem Aw {n lo hi:Int}:Eg n lo hi=false↔¬ (lo≤n∧n≤hi):=by
 rw [←Am];simp
end Go.Sx
set_option maxRecDepth 100000
namespace Go.Sx
open Go
open Go.RowKit (Below)
variable {P : Program} {T : List (TypeId × TI)}
theorem B38 (hT:Ci P T)(wr:Bool){J:Type}{B:B5}{Q:Exit→Act→World→Prop}{c:Code}{K:List KI}{s:AS}(fs:List Nat)(us:J→List (Nat×AV))(bs:J→List Bx)(os:J→List Ow)(φ:J→Prop)
  (h1:Ys P B Q (Ny T wr 100000 (.code c:: .loop (Inv B (fun j=>s.upd fs (us j) (bs j) (os j)) φ (fun _=>0) 1)::K) s))
  (h2:∀j,φ j→Ys P B Q (upK s.slots 0 fs (us j) fun slots=>Ny T wr 100000 K {s with slots:=slots,boxes:=bs j,own:=os j})):GW P B Q (.code c::K) s:=by
 refine ⟨fun E a w hs=>?_⟩
 have g1:G P B Q (.code c:: .loop (Inv B (fun j=>s.upd fs (us j) (bs j) (os j)) φ (fun _=>0) 1)::K) s:=(go hT wr h1).rec id
 refine Code.wp_mono (fun e a' w' hq=>?_) (g1 E a w hs)
 cases e with
 |normal=>
  obtain ⟨j,hj,_,E',hE'⟩:=(hq:Inv B (fun j=>s.upd fs (us j) (bs j) (os j)) φ (fun _=>0) 1 a' w')
  have g2:G P B Q K (s.upd fs (us j) (bs j) (os j)):=(go hT wr (by have:=h2 j hj;rw [B3v] at this;exact this)).rec id
  exact g2 E' a' w' hE'
 |exit id=>exact hq
 |goto l=>exact hq
 |ret=>exact hq
 |panic c=>exact hq
 |outgrown=>exact hq
theorem B1m (n:Nat)(hT:Ci P T)(wr:Bool){f:FuncId}{fn:Func}{c:Code}{ins outs:List F9}(hf:P.funcs[f]? =some fn)(hb:fn.body=some c)(hn:(fn.name== "runtime.NumGoroutine")=false)
  (h:∀W,Ys P ⟨W,fun _=>False⟩ (bodyPost P fn fun e w'=>Ms W w' outs e) (Ny T wr n [.code c] (G0 fn.ntmps ins))):Aq P f ins outs:=
 enter hf hb hn fun W=>B3e hT wr n _ _ (A6v _ (h W))
theorem goF (n:Nat)(hT:Ci P T)(wr:Bool){B:B5}{Q:Exit→Act→World→Prop}{K:List KI}{s:AS}(h:Ys P B Q (Ny T wr n K s)):GW P B Q K s:=
 ⟨B3e hT wr n _ _ (A6v _ h)⟩
end Go.Sx
set_option maxRecDepth 100000
namespace Go.Sx
open Go
open Go.RowKit (Below)
variable {P : Program} {T : List (TypeId × TI)}
end Go.Sx
set_option maxRecDepth 100000
namespace Go.Sx
open Go
variable {P : Program} {T : List (TypeId × TI)}
end Go.Sx
set_option maxRecDepth 100000
namespace Go.Sx
open Go
def isD (b:UInt8):Prop:=48≤b.toNat∧b.toNat≤57
instance (b:UInt8):Decidable (isD b):=by unfold isD;infer_instance
def B6x (n:Nat) (b:UInt8):Nat:=10 * n+(b.toNat-48)
def B5z (acc:Nat) (l:List UInt8):Nat:=l.foldl B6x acc
def rd (s:ByteArray):Option Nat:=if B5z 0 s.data.toList≤1000000000∧dec (B5z 0 s.data.toList:Nat)=s then some (B5z 0 s.data.toList) else none
end Go.Sx
set_option maxRecDepth 100000
namespace Go.Sx
open Go
def okB (s:ByteArray):Prop:=∀b∈s.data.toList,32≤b.toNat∧b.toNat≤126
instance (s:ByteArray):Decidable (okB s):=by unfold okB;infer_instance
def B4l (s:ByteArray):List ByteArray:=(Lib.fields s.data.toList).map fun l=>⟨l.toArray⟩
def B0r (s:ByteArray):Prop:=s.size≤600∧okB s∧(B4l s).length≤12
instance (s:ByteArray):Decidable (B0r s):=by unfold B0r;infer_instance
end Go.Sx
set_option maxRecDepth 100000
namespace Go.Sx
open Go
end Go.Sx
set_option maxRecDepth 100000
namespace Go.Sx
open Go
end Go.Sx
set_option maxRecDepth 100000
namespace Go.Sx
open Go
open Go.RowKit (Below)
variable {P : Program} {T : List (TypeId × TI)}
theorem RW.mono {B:B5}{Q Q':Exit→Act→World→Prop}{s:AS}(h:∀a w,Q .ret a w→Q' .ret a w)(hr:RW B Q s):RW B Q' s:=
 ⟨fun E a w hs=>h a w (hr.rec (fun g=>g E a w hs))⟩
end Go.Sx
