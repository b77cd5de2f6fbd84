/- Part 3 of the proof that each of the laws FnStalls returns true for every input. No conditions. -/
import Derived.Test.YtonodkjaoalfjaaGreatP2
import Derived.Laws.BytesArg
import Derived.Lib.ItoaNum
import Derived.Sort.Grow
import Derived.Deep.Draws
import Derived.Lib.ItoaLen
import Derived.Lib.Join
import Derived.WideLaws
import Derived.Laws.Strings2
import Derived.Lib.AtoiAll
import Derived.Lib.Fields

set_option linter.unusedSimpArgs false
set_option linter.unusedVariables false
namespace Go.Sx
open Go.RowKit (Below)
variable {P : Program} {T : List (TypeId × TI)}
theorem GW.out {B:Au}{Q:Exit→Act→World→Prop}{K:List KI}{s:AS}(h:GW P B Q K s):G P B Q K s:=h.rec fun h=>h
theorem Wy {w:World}{n es:Nat}{row:Nat→List A8}{b off cap:Nat}{ty:TypeId}{cells:Array Value}{fps:Nat→List Nat}(hn:n≤cap)(hc:cap≤maxLen)
  (hb:w.heap[b]? =some (.cells cells ty (0,0)))(hs:(off+cap) * es≤cells.size)(hl:∀i,i<n→(row i).length=es)
  (hr:∀i j c,i<n→(row i)[j]? =some c→C3 w c (cells.getD ((off+i) * es+j) undef) (fps (i * es+j)))
  (hnd:(b::(List.range (n * es)).flatMap fps).Nodup)
  {j o:Nat}(hj:j<n)(ho:o<es){c:A8}{g:List Nat}(hg:C3 w c (cells.getD ((off+j) * es+o) undef) g)(hgn:g.Nodup)
  (hgd:∀x∈g,x≠b∧∀k,k<n * es→k≠j * es+o→x∉fps k){c':A8}(hu:Of n es row j o [c] c'):
  C3 w c' (.slice (some ⟨b,off * es,none⟩) n cap) (b::(List.range (n * es)).flatMap (fun k=>if k=j * es+o then g else fps k))∧
   (b::(List.range (n * es)).flatMap (fun k=>if k=j * es+o then g else fps k)).Nodup:=by
 obtain ⟨row',rfl,hu1,hu2⟩:=hu
 obtain ⟨hb0,hnd1⟩:=List.nodup_cons.1 hnd
 constructor
 ·refine .sl n es row' b off cap ty cells _ hn hc hb hs (fun i hi=>?_) (fun i m d hi hd=>?_)
  ·by_cases e:i=j
   ·subst e
    rw [hu2]
    simp [Dj,hl i hi]
    omega
   ·rw [hu1 i hi e];exact hl i hi
  ·by_cases e:i=j
   ·subst e
    rw [hu2] at hd
    have hl1:(List.take o (row i)).length=o:=by simp [hl i hi];omega
    simp only [Dj] at hd
    by_cases h1:m=o
    ·subst h1
     rw [if_pos rfl]
     rw [List.append_assoc,List.getElem?_append_right Ac,hl1,Nat.sub_self] at hd
     simp only [List.cons_append,List.getElem?_cons_zero,Option.some.injEq] at hd
     subst hd
     exact hg
    ·rw [if_neg Ac]
     refine hr i m d hi ?_
     by_cases h2:m<o
     ·rw [List.append_assoc,List.getElem?_append_left Ac,List.getElem?_take,if_pos h2] at hd
      exact hd
     ·rw [List.getElem?_append_right (by simp [hl i hi];omega)] at hd
      simp only [List.length_append,hl1,List.getElem?_drop,List.length_singleton] at hd
      rwa [show o+1+(m-(o+1))=m by omega] at hd
   ·rw [hu1 i hi e] at hd
    have hml:m<es:=by have:=(List.getElem?_eq_some_iff.1 hd).1;rw [hl i hi] at this;exact this
    have hne:i * es+m≠j * es+o:=by
     intro h
     rcases Nat.lt_or_gt_of_ne e with h'|h'
     ·have:(i+1) * es≤j * es:=Nat.mul_le_mul_right _ h'
      rw [Nat.add_mul] at this
      omega
     ·have:(j+1) * es≤i * es:=Nat.mul_le_mul_right _ h'
      rw [Nat.add_mul] at this
      omega
    rw [if_neg hne]
    exact hr i m d hi hd
 ·obtain ⟨f1,f2⟩:=Bz.1 hnd1
  refine List.nodup_cons.2 ⟨fun h=>?_,Bz.2 ⟨fun k hk=>?_,?_⟩⟩
  ·obtain ⟨k,hk,hx⟩:=List.mem_flatMap.1 h
   split at hx
   ·exact (hgd b hx).1 rfl
   ·exact hb0 (Ds (List.mem_range.1 hk) hx)
  ·split
   ·exact hgn
   ·exact f1 k hk
  ·refine List.Pairwise.imp_of_mem ?_ ((List.nodup_range (n:=n * es)).and f2)
   intro p q hp hq ⟨hne,hpq⟩ z hz hz'
   split at hz
   ·split at hz'
    ·omega
    ·exact (hgd z hz).2 q (List.mem_range.1 hq) (by assumption) hz'
   ·split at hz'
    ·exact (hgd z hz').2 p (List.mem_range.1 hp) (by assumption) hz
    ·exact hpq z hz hz'
def M5 (c:A8):Bool:=
 match c with
 | .sl _ _ _=>true
 |_=>false
theorem B8e (hT:C1 P T){B:Au}{Q:Exit→Act→World→Prop}{q:Bool}{all:Array Oper}{o:Oper}{rest:List Oper}{K:List KI}{s:AS}{x:Operand}{t:TypeId}{i:TI}
  (hg:o.guard=none)(ho:o.op= .load t x)(hi:A5r T t=some i)(hag:i.agg=false){k es off n:Nat}{j:Int}{row:Nat→List A8}
  (hx:s.ev x= .oel k es j off)(hk:Bm s.own k=some (.sl n es row)){c:A8}(hc:(row j.toNat)[off]? =some c)
  (h:∀v,GW P B Q (.ops q all rest::K) (({s with own:=⟨s.next,c⟩::⟨k,.sl n es fun i=>if i=j.toNat then Dj (row i) off [.val v] else row i⟩::Bg [k] s.own,next:=s.next+1,links:=(s.next,v)::s.links}:AS).put o.dst (.own s.next))):
  GW P B Q (.ops q all (o::rest)::K) s:=by
 refine ⟨E6 hg (fun E a w hs=>?_)⟩
 have hm:=C4 hk
 obtain ⟨hklt,o2,o3⟩:=hs.own _ hm
 simp only at o2 o3 hklt
 have hev:=hs.ev x
 rw [hx] at hev
 generalize hv:a.eval x=v at hev
 cases hev with
 |oel _ b o' n' cap hkl hov h0 hj=>
  rw [hov] at o2
  generalize hfp:E.fp k=fp at o2 o3
  obtain ⟨jn,rfl⟩:=Int.eq_ofNat_of_zero_le h0
  simp only [Int.toNat_natCast,Int.ofNat_lt] at *
  cases o2 with
  |emp=>exact absurd hj (Nat.not_lt_zero _)
  |sl _ _ _ _ offb _ ty cells fps hn hcp hb hcs hl hr=>
   have hoff:off<es:=by have:=(List.getElem?_eq_some_iff.1 hc).1;rwa [hl jn hj] at this
   have hin:=hr jn off c hj hc
   obtain ⟨hb0,hnd1⟩:=List.nodup_cons.1 o3
   obtain ⟨f1,f2⟩:=Bz.1 hnd1
   have hpos:jn * es+off<n * es:=F7 hj hoff
   have hcl:(offb+jn) * es+off<cells.size:=by
    have:=F7 (show offb+jn<offb+cap by omega) hoff
    omega
   generalize hu:cells.getD ((offb+jn) * es+off) undef=u at hin
   have hdis:∀z∈fps (jn * es+off),z≠b∧∀k,k<n * es→k≠jn * es+off→z∉fps k:=by
    intro z hz
    refine ⟨fun e=>hb0 (e▸Ds hpos hz),fun k hk hne hz'=>?_⟩
    have hp:=List.pairwise_iff_getElem.1 f2
    rcases Nat.lt_or_gt_of_ne hne with h'|h'
    ·have:=hp k (jn * es+off) (by simpa using hk) (by simpa using hpos) h' z
     simp only [List.getElem_range] at this
     exact this hz' hz
    ·have:=hp (jn * es+off) k (by simpa using hpos) (by simpa using hk) h' z
     simp only [List.getElem_range] at this
     exact this hz hz'
   have hone:u.oneCell'=true:=hin.one
   obtain ⟨s1,s2⟩:=Wy hn hcp hb hcs hl hr o3 hj hoff (c:= .val u) (g:=[]) (by rw [hu];exact .val u hone) A9h A9h
    (c':= .sl n es fun i=>if i=jn then Dj (row i) off [.val u] else row i) ⟨_,rfl,fun i _ hne=>by simp [hne],by simp⟩
   have hI:=hs.drop [k]
   have key:∀z,z∈b::(List.range (n * es)).flatMap fps→s.avoid E z∧¬ ({s with own:=Bg [k] s.own}:AS).avoid E z∧B.fresh z:=by
    intro z hz
    have hzk:z∈E.fp k:=by rw [hfp];exact hz
    have hav:s.avoid E z:= .inr ⟨_,hm,hzk⟩
    refine ⟨hav,?_,hs.fresh z hav⟩
    rintro (⟨r,hr',rfl⟩|⟨r,hr',hz'⟩)
    ·exact hs.sepB r hr' _ hm hzk
    ·obtain ⟨q1,q2⟩:=C5.1 hr'
     exact hs.sep _ hm r q1 (fun e=>q2 (by simp at e;simp [e])) z hzk hz'
   have sub1:∀z,z∈b::(List.range (n * es)).flatMap (fun k=>if k=jn * es+off then [] else fps k)→z∈b::(List.range (n * es)).flatMap fps:=by
    intro z hz
    rcases List.mem_cons.1 hz with rfl|hz
    ·simp
    ·obtain ⟨p,hp,hz⟩:=List.mem_flatMap.1 hz
     split at hz
     ·simp at hz
     ·exact List.mem_cons_of_mem _ (List.mem_flatMap.2 ⟨p,hp,hz⟩)
   have hI3:=hI.addAt (k:=k) hklt (fun y' hy=>fun e=>(C5.1 hy).2 (by rw [e];simp)) (by rw [hov];exact s1) s2 (fun z hz=>key z (sub1 z hz))
   have hav3:∀z,z∈fps (jn * es+off)→¬ ({s with own:=⟨k,.sl n es fun i=>if i=jn then Dj (row i) off [.val u] else row i⟩::Bg [k] s.own}:AS).avoid (E.setFp k (b::(List.range (n * es)).flatMap (fun k=>if k=jn * es+off then [] else fps k))) z:=by
    intro z hz
    have hzin:z∈b::(List.range (n * es)).flatMap fps:=List.mem_cons_of_mem _ (Ds hpos hz)
    rintro (⟨r,hr',rfl⟩|⟨r,hr',hz'⟩)
    ·exact (key _ hzin).2.1 (.inl ⟨r,hr',rfl⟩)
    ·rcases List.mem_cons.1 hr' with rfl|hr'
     ·simp only [Cw.setFp,if_true] at hz'
      rcases List.mem_cons.1 hz' with rfl|hz'
      ·exact (hdis _ hz).1 rfl
      ·obtain ⟨p,hp,hz'⟩:=List.mem_flatMap.1 hz'
       split at hz'
       ·simp at hz'
       ·exact (hdis z hz).2 p (List.mem_range.1 hp) (by assumption) hz'
     ·have hne:r.key≠k:=fun e=>(C5.1 hr').2 (by rw [e];simp)
      simp only [Cw.setFp,hne,if_false] at hz'
      exact (key z hzin).2.1 (.inr ⟨r,hr',hz'⟩)
   obtain ⟨k1,k2⟩:=hI3.addOwn hin (f1 _ (List.mem_range.2 hpos)) (fun z hz=>⟨(key z (List.mem_cons_of_mem _ (Ds hpos hz))).1,hav3 z hz,(key z (List.mem_cons_of_mem _ (Ds hpos hz))).2.2⟩)
   have k3:({s with own:=⟨s.next,c⟩::⟨k,.sl n es fun i=>if i=jn then Dj (row i) off [.val u] else row i⟩::Bg [k] s.own,next:=s.next+1,links:=(s.next,u)::s.links}:AS).isA B
     ((E.setFp k (b::(List.range (n * es)).flatMap (fun k=>if k=jn * es+off then [] else fps k))).withOwn s.next u (fps (jn * es+off))) (s.avoid E) a w:=by
    refine ⟨k1.defers,fun p hp=>?_,k1.size,k1.slots,k1.boxes,k1.boxes2,k1.keys,k1.own,k1.ownkeys,k1.sep,k1.sepB,k1.one,k1.base,k1.fresh,k1.sub⟩
    rcases List.mem_cons.1 hp with rfl|hp
    ·exact ⟨Nat.lt_succ_self _,by simp [Cw.withOwn]⟩
    ·exact k1.links p hp
   refine ⟨u,fun w' hkw=>?_,(h u).out _ _ w ((k3.put o.dst k2).is)⟩
   obtain ⟨dst,op',ty',pos,after,guard⟩:=o
   simp only at ho
   subst ho
   obtain ⟨f,d,z,S⟩:=TI.of_spec (hT t i hi)
   have hd:Hf d=false:=by rw [←S.agg];exact hag
   have h1:=S.one hd
   have hrun:=Gl (hT t i hi) w' b (offb * es+jn * es+off) ((List.range i.size).map fun _=>u) A9h (fun p hp=>by
    obtain rfl:p=0:=by omega
    refine hkw.cell ?_
    rw [show offb * es+jn * es+off+0=(offb+jn) * es+off by rw [Nat.add_mul];omega,cell_of_row w b _ cells ty (0,0) hb]
    simp only [h1,List.range_one,List.map_cons,List.map_nil,List.getD_cons_zero]
    rw [←hu,Array.getD_eq_getD_getElem?]
    simp [hcl])
   simp only [execOp,hv,Instr.loadAt,Instr.sureAddr,Sem.run_bind,Sem.run_pure,Result.andThen_ok,hrun,hag,h1]
   rfl
theorem B5o {B:Au}{Q:Exit→Act→World→Prop}{K:List KI}{s:AS}(k k2:Nat){n es:Nat}{row:Nat→List A8}{j off:Nat}{v:Value}{c:A8}(hk:Bm s.own k=some (.sl n es row))
  (hj:j<n)(hc:(row j)[off]? =some (.val v))(h2:Bm s.own k2=some c)(hl:Da s.links k2=some v)(hne:Nat.beq k k2=false)(c':A8)(hu:Of n es row j off [c] c')
  (h:GW P B Q K {s with own:=⟨k,c'⟩::Bg [k,k2] s.own}):GW P B Q K s:=by
 refine ⟨fun E a w hs=>?_⟩
 have hm:=C4 hk
 have hm2:=C4 h2
 have hkk:k≠k2:=fun e=>by subst e;simp at hne
 obtain ⟨hklt,o2,o3⟩:=hs.own _ hm
 obtain ⟨hklt2,p2,p3⟩:=hs.own _ hm2
 simp only at o2 o3 hklt p2 p3 hklt2
 have hlv:=(hs.links _ (F6 hl)).2
 simp only at hlv
 have hI:=hs.drop [k,k2]
 have key:∀z,(z∈E.fp k∨z∈E.fp k2)→s.avoid E z∧¬ ({s with own:=Bg [k,k2] s.own}:AS).avoid E z∧B.fresh z:=by
  intro z hz
  have:∃y∈s.own,y.key∈[k,k2]∧z∈E.fp y.key:=by
   rcases hz with hz|hz
   ·exact ⟨_,hm,by simp,hz⟩
   ·exact ⟨_,hm2,by simp,hz⟩
  obtain ⟨y,hy,hyk,hz⟩:=this
  have hav:s.avoid E z:= .inr ⟨_,hy,hz⟩
  refine ⟨hav,?_,hs.fresh z hav⟩
  rintro (⟨r,hr',rfl⟩|⟨r,hr',hz'⟩)
  ·exact hs.sepB r hr' _ hy hz
  ·obtain ⟨q1,q2⟩:=C5.1 hr'
   exact hs.sep _ hy r q1 (fun e=>q2 (e▸hyk)) z hz hz'
 have hsep:=hs.sep _ hm _ hm2 hkk
 generalize hov:E.ov k=vv,hfp:E.fp k=fp at o2 o3
 cases o2 with
 |nil=>omega
 |emp=>omega
 |sl _ _ _ b offb cap ty cells fps hn hcp hb hcs hl' hr=>
  have hoff:off<es:=by have:=(List.getElem?_eq_some_iff.1 hc).1;rwa [hl' j hj] at this
  have hin:=hr j off _ hj hc
  generalize hu':cells.getD ((offb+j) * es+off) undef=u at hin
  have huv:u=v:=by
   revert hin
   generalize fps (j * es+off)=g
   intro hin
   cases hin;rfl
  obtain ⟨s1,s2⟩:=Wy hn hcp hb hcs hl' hr o3 hj hoff (c:=c) (g:=E.fp k2) (by rw [hu',huv,←hlv];exact p2) p3 (fun z hz=>by
   refine ⟨fun e=>?_,fun p hp _ hz'=>?_⟩
   ·subst e
    exact hsep z (by simp only [hfp];simp) hz
   ·exact hsep z (by simp only [hfp];exact List.mem_cons_of_mem _ (Ds hp hz')) hz) hu
  have hI3:=hI.addAt (k:=k) hklt (fun y' hy=>fun e=>(C5.1 hy).2 (by rw [e];simp)) (by rw [hov];exact s1) s2 (fun z hz=>by
   rcases List.mem_cons.1 hz with rfl|hz
   ·exact key z (.inl (by rw [hfp];simp))
   ·obtain ⟨p,hp,hz⟩:=List.mem_flatMap.1 hz
    split at hz
    ·exact key z (.inr hz)
    ·exact key z (.inl (by rw [hfp];exact List.mem_cons_of_mem _ (List.mem_flatMap.2 ⟨p,hp,hz⟩))))
  exact h.out _ a w hI3.is
theorem A36 {B:Au}{Q:Exit→Act→World→Prop}{K:List KI}{s:AS}(i es:Nat)(row:Nat→List A8)(hi:Dl s.slots i= .c (.val (.slice none 0 0)))
  (h:GW P B Q K {s with slots:=Ce s.slots i (.own s.next),own:=⟨s.next,.sl 0 es row⟩::s.own,next:=s.next+1}):GW P B Q K s:=by
 refine ⟨fun E a w hs=>?_⟩
 have hI:s.isA B E (s.avoid E) a w:=⟨hs.defers,hs.links,hs.size,hs.slots,hs.boxes,hs.boxes2,hs.keys,hs.own,hs.ownkeys,hs.sep,hs.sepB,hs.one,hs.base,hs.fresh,fun _ h=>h⟩
 obtain ⟨k1,k2⟩:=hI.addOwn (.nil es row) A9h A9h
 have k3:=k1.is
 refine h.out (E.withOwn s.next (.slice none 0 0) []) a w ⟨k3.defers,k3.links,by rw [k3.size];exact (C8 _ _ _).symm,fun m z hz=>?_,k3.boxes,k3.boxes2,k3.keys,k3.own,k3.ownkeys,k3.sep,k3.sepB,k3.one,k3.base,k3.fresh⟩
 simp only at hz
 rw [Df] at hz
 split at hz
 ·rename_i hm
  obtain ⟨rfl,hm⟩:=hm
  obtain rfl:=Option.some.inj hz
  have hd:=hs.slots i (.c (.val (.slice none 0 0))) (by rw [Ci,List.getElem?_eq_getElem hm] at hi;rw [List.getElem?_eq_getElem hm];simpa using hi)
  rw [B3 hd]
  have:Ch (E.withOwn s.next (.slice none 0 0) []) w _ _ (.own s.next) (.slice none 0 0):=k2
  exact this.move (Nat.le_refl _) (fun _ _=>⟨rfl,rfl⟩) (fun _ _ _=>rfl) (fun b _ hb=>k1.sub b hb)
 ·exact k3.slots m z hz
end Go.Sx
namespace Go.Sx
abbrev F1 (xs:List Int):A8:=Du 1 (fun n=>[vi n]) xs
abbrev Gm (xs:List Bool):A8:=Du 1 (fun b=>[vb b]) xs
structure F5 where
 epoch:Int
 turn:Int
 deriving Inhabited,DecidableEq
def F5.c (x:F5):List A8:=[vi x.epoch,vi x.turn]
structure Oc where
 stamp:F5
 n:Int
 deriving Inhabited,DecidableEq
def Oc.c (x:Oc):List A8:=[vi x.stamp.epoch,vi x.stamp.turn,vi x.n]
structure A5 where
 op:Int
 stamp:F5
 key:Int
 val:Int
 deriving Inhabited,DecidableEq
def A5.c (x:A5):List A8:=[vi x.op,vi x.stamp.epoch,vi x.stamp.turn,vi x.key,vi x.val]
abbrev Ax (xs:List A5):A8:=Du 5 A5.c xs
structure C2 where
 cap:Int
 queue:List A5
 credits:Int
 back:Int
 sent:Int
 got:Int
 deriving Inhabited,DecidableEq
def C2.c (x:C2):List A8:=[vi x.cap,Ax x.queue,vi x.credits,vi x.back,vi x.sent,vi x.got]
abbrev Dt (xs:List C2):A8:=Du 6 C2.c xs
structure Cb where
 kind:Int
 a:Int
 b:Int
 outs:List Int
 deriving Inhabited,DecidableEq
def Cb.c (x:Cb):List A8:=[vi x.kind,vi x.a,vi x.b,F1 x.outs]
abbrev Bp (xs:List Cb):A8:=Du 4 Cb.c xs
structure Ad where
 nodes:List Cb
 workers:Int
 cap:Int
 deriving Inhabited,DecidableEq
def Ad.c (x:Ad):List A8:=[Bp x.nodes,vi x.workers,vi x.cap]
structure A7 where
 op:Int
 epoch:Int
 key:Int
 val:Int
 deriving Inhabited,DecidableEq
def A7.c (x:A7):List A8:=[vi x.op,vi x.epoch,vi x.key,vi x.val]
abbrev Ai (xs:List A7):A8:=Du 4 A7.c xs
structure E3 where
 epoch:Int
 capped:Bool
 deriving Inhabited,DecidableEq
def E3.c (x:E3):List A8:=[vi x.epoch,vb x.capped]
abbrev Jn (xs:List E3):A8:=Du 2 E3.c xs
structure Ab where
 queue:List A5
 staged:List A5
 inputs:List A5
 cells:List A7
 sums:List Int
 black:List Bool
 caps:List Bool
 dones:List E3
 deriving Inhabited,DecidableEq
def Ab.c (x:Ab):List A8:=[Ax x.queue,Ax x.staged,Ax x.inputs,Ai x.cells,F1 x.sums,Gm x.black,Gm x.caps,Jn x.dones]
abbrev Be (xs:List Ab):A8:=Du 8 Ab.c xs
structure Es where
 going:Bool
 at_:Int
 sum:Int
 black:Bool
 capped:Bool
 deriving Inhabited,DecidableEq
def Es.c (x:Es):List A8:=[vb x.going,vi x.at_,vi x.sum,vb x.black,vb x.capped]
abbrev C0 (xs:List Es):A8:=Du 5 Es.c xs
structure Cn where
 to_:Int
 epoch:Int
 capped:Bool
 deriving Inhabited,DecidableEq
def Cn.c (x:Cn):List A8:=[vi x.to_,vi x.epoch,vb x.capped]
abbrev Ef (xs:List Cn):A8:=Du 3 Cn.c xs
structure A3 where
 graph:Ad
 workers:List Ab
 links:List C2
 tokens:List Es
 news:List Cn
 deriving Inhabited,DecidableEq
def A3.c (x:A3):List A8:=[Bp x.graph.nodes,vi x.graph.workers,vi x.graph.cap,Be x.workers,Dt x.links,C0 x.tokens,Ef x.news]
structure Bl where
 kind:Int
 a:Int
 b:Int
 deriving Inhabited,DecidableEq
def Bl.c (x:Bl):List A8:=[vi x.kind,vi x.a,vi x.b]
abbrev Fu (xs:List Bl):A8:=Du 3 Bl.c xs
structure Ll where
 graph:Ad
 inputs:List A5
 picks:List Bl
 rounds:Int
 deriving Inhabited,DecidableEq
def Ll.c (x:Ll):List A8:=[Bp x.graph.nodes,vi x.graph.workers,vi x.graph.cap,Ax x.inputs,Fu x.picks,vi x.rounds]
def wS {α:Type} (w:α→Nat) (xs:List α):Nat:=xs.length+(xs.map w).sum
def F5.ok (x:F5):Prop:=K9 .i64 x.epoch∧K9 .i64 x.turn
def Oc.ok (x:Oc):Prop:=x.stamp.ok∧K9 .i64 x.n
def A5.ok (x:A5):Prop:=K9 .i64 x.op∧x.stamp.ok∧K9 .i64 x.key∧K9 .i64 x.val
def C2.w (x:C2):Nat:=x.queue.length
def C2.ok (x:C2):Prop:=K9 .i64 x.cap∧(x.queue.length≤maxLen∧∀y∈x.queue,y.ok)∧K9 .i64 x.credits∧K9 .i64 x.back∧K9 .i64 x.sent∧K9 .i64 x.got
def Cb.w (x:Cb):Nat:=x.outs.length
def Cb.ok (x:Cb):Prop:=K9 .i64 x.kind∧K9 .i64 x.a∧K9 .i64 x.b∧(x.outs.length≤maxLen∧∀y∈x.outs,K9 .i64 y)
def Ad.w (x:Ad):Nat:=wS Cb.w x.nodes
def Ad.ok (x:Ad):Prop:=(x.nodes.length≤maxLen∧∀y∈x.nodes,y.ok)∧K9 .i64 x.workers∧K9 .i64 x.cap
def A7.ok (x:A7):Prop:=K9 .i64 x.op∧K9 .i64 x.epoch∧K9 .i64 x.key∧K9 .i64 x.val
def E3.ok (x:E3):Prop:=K9 .i64 x.epoch
def Ab.w (x:Ab):Nat:=x.queue.length+x.staged.length+x.inputs.length+x.cells.length+x.sums.length+x.black.length+x.caps.length+x.dones.length
def Ab.ok (x:Ab):Prop:=(x.queue.length≤maxLen∧∀y∈x.queue,y.ok)∧(x.staged.length≤maxLen∧∀y∈x.staged,y.ok)∧(x.inputs.length≤maxLen∧∀y∈x.inputs,y.ok)∧(x.cells.length≤maxLen∧∀y∈x.cells,y.ok)∧(x.sums.length≤maxLen∧∀y∈x.sums,K9 .i64 y)∧x.black.length≤maxLen∧x.caps.length≤maxLen∧(x.dones.length≤maxLen∧∀y∈x.dones,y.ok)
def Es.ok (x:Es):Prop:=K9 .i64 x.at_∧K9 .i64 x.sum
def Cn.ok (x:Cn):Prop:=K9 .i64 x.to_∧K9 .i64 x.epoch
def A3.w (x:A3):Nat:=x.graph.w+wS Ab.w x.workers+wS C2.w x.links+x.tokens.length+x.news.length
def A3.ok (x:A3):Prop:=x.graph.ok∧(x.workers.length≤maxLen∧∀y∈x.workers,y.ok)∧(x.links.length≤maxLen∧∀y∈x.links,y.ok)∧(x.tokens.length≤maxLen∧∀y∈x.tokens,y.ok)∧(x.news.length≤maxLen∧∀y∈x.news,y.ok)
def Bl.ok (x:Bl):Prop:=K9 .i64 x.kind∧K9 .i64 x.a∧K9 .i64 x.b
def Ll.w (x:Ll):Nat:=x.graph.w+x.inputs.length+x.picks.length
def Ll.ok (x:Ll):Prop:=x.graph.ok∧(x.inputs.length≤maxLen∧∀y∈x.inputs,y.ok)∧(x.picks.length≤maxLen∧∀y∈x.picks,y.ok)∧K9 .i64 x.rounds
theorem B7p {α:Type} [Inhabited α] (w:α→Nat)(xs:List α)(k:Nat)(hk:k<xs.length):((xs.take (k+1)).map w).sum=((xs.take k).map w).sum+w (xs.getD k default):=by
 rw [List.take_add_one,List.map_append,List.sum_append,List.getElem?_eq_getElem hk]
 simp [List.getD,hk]
theorem Hg {α:Type} [Inhabited α] (w:α→Nat)(xs:List α)(k:Nat)(hk:k<xs.length):((xs.take k).map w).sum+w (xs.getD k default)≤(xs.map w).sum:=by
 rw [←B7p w xs k hk]
 conv=>rhs;rw [←List.take_append_drop (k+1) xs,List.map_append,List.sum_append]
 omega
end Go.Sx
namespace Go.Sx
open Go.RowKit (Below)
variable {P : Program} {T : List (TypeId × TI)}
def Tk (c c':A8):Prop:=c'=c∨(c= .val (.slice none 0 0)∧∃es row,c'= .sl 0 es row)
def Gb (cs cs':List A8):Prop:=
 match cs,cs' with
 | [],[]=>True
 |c::cs,c'::cs'=>Tk c c'∧Gb cs cs'
 |_,_=>False
theorem Gb.get {cs cs':List A8}(h:Gb cs cs'):cs'.length=cs.length∧∀(i:Nat) (c':A8),cs'[i]? =some c'→∃c,cs[i]? =some c∧Tk c c':=by
 induction cs generalizing cs' with
 |nil=>cases cs'<;>simp_all [Gb]
 |cons c cs ih=>
  cases cs' with
  |nil=>simp [Gb] at h
  |cons c' cs'=>
   obtain ⟨h1,h2⟩:=h
   obtain ⟨g1,g2⟩:=ih h2
   refine ⟨by simp [g1],fun i d hd=>?_⟩
   cases i with
   |zero=>simp only [List.getElem?_cons_zero,Option.some.injEq] at hd;subst hd;exact ⟨c,by simp,h1⟩
   |succ i=>simpa using g2 i d (by simpa using hd)
theorem Tk.own {w:World}{c c':A8}{v:Value}{fp:List Nat}(h:Tk c c')(ho:C3 w c v fp):C3 w c' v fp:=by
 rcases h with rfl|⟨rfl,es,row,rfl⟩
 ·exact ho
 ·cases ho;exact .nil es row
theorem Tk.refl (c:A8):Tk c c:= .inl rfl
theorem Tk.nil (es:Nat)(row:Nat→List A8):Tk (.val (.slice none 0 0)) (.sl 0 es row):= .inr ⟨rfl,es,row,rfl⟩
def Iu (c c':A8):Prop:=
 match c,c' with
 | .sl n es row,.sl n' es' row'=>n'=n∧es'=es∧∀i,i<n→Gb (row i) (row' i)
 |_,_=>False
theorem Iu.own {w:World}{c c':A8}{v:Value}{fp:List Nat}(h:Iu c c')(ho:C3 w c v fp):C3 w c' v fp:=by
 cases ho with
 |val x hx=>cases c'<;>exact h.elim
 |nil es row=>
  cases c' with
  |val=>exact h.elim
  |sl n' es' row'=>
   obtain ⟨rfl,rfl,_⟩:=h
   exact .nil _ row'
 |emp es row b0 o0=>
  cases c' with
  |val=>exact h.elim
  |sl n' es' row'=>
   obtain ⟨rfl,rfl,_⟩:=h
   exact .emp _ row' b0 o0
 |sl n es row b off cap ty cells fps hn hc hb hs hl hr=>
  cases c' with
  |val=>exact h.elim
  |sl n' es' row'=>
   obtain ⟨rfl,rfl,h⟩:=h
   refine .sl _ _ row' b off cap ty cells fps hn hc hb hs (fun i hi=>?_) (fun i j d hi hd=>?_)
   ·rw [(h i hi).get.1];exact hl i hi
   ·obtain ⟨c,h1,h2⟩:=(h i hi).get.2 j d hd
    exact h2.own (hr i j c hi h1)
def Gq (l:List Ow) (k:Nat) (c:A8):List Ow:=
 match l with
 | []=>[]
 |y::r=>match Nat.beq y.key k with
  |true=>⟨k,c⟩::Gq r k c
  |false=>y::Gq r k c
theorem Q1 {l:List Ow}{k:Nat}{c:A8}{y:Ow}(h:y∈Gq l k c):(y.key=k∧y.cell=c∧∃z∈l,z.key=k)∨(y∈l∧y.key≠k):=by
 induction l with
 |nil=>simp [Gq] at h
 |cons x r ih=>
  unfold Gq at h
  split at h
  ·rename_i e
   have e:=Nat.eq_of_beq_eq_true e
   rcases List.mem_cons.1 h with rfl|h
   ·exact .inl ⟨rfl,rfl,x,by simp,e⟩
   ·rcases ih h with ⟨h1,h2,z,hz,h3⟩|⟨h1,h2⟩
    ·exact .inl ⟨h1,h2,z,List.mem_cons_of_mem _ hz,h3⟩
    ·exact .inr ⟨List.mem_cons_of_mem _ h1,h2⟩
  ·rename_i e
   rcases List.mem_cons.1 h with rfl|h
   ·exact .inr ⟨by simp,fun e'=>by rw [e',Nat.beq_refl] at e;cases e⟩
   ·rcases ih h with ⟨h1,h2,z,hz,h3⟩|⟨h1,h2⟩
    ·exact .inl ⟨h1,h2,z,List.mem_cons_of_mem _ hz,h3⟩
    ·exact .inr ⟨List.mem_cons_of_mem _ h1,h2⟩
theorem R8 (l:List Ow)(k:Nat)(c:A8):(Gq l k c).map (·.key)=l.map (·.key):=by
 induction l with
 |nil=>rfl
 |cons x r ih=>
  unfold Gq
  split
  ·rename_i e
   have e:=Nat.eq_of_beq_eq_true e
   simp [ih,e]
  ·simp [ih]
theorem G0 {l:List Ow}{k:Nat}{c:A8}{y:Ow}(h:y∈Gq l k c):∃z∈l,z.key=y.key:=by
 rcases Q1 h with ⟨h1,_,z,hz,h3⟩|⟨h1,_⟩
 ·exact ⟨z,hz,h3.trans h1.symm⟩
 ·exact ⟨y,h1,rfl⟩
theorem G4 {B:Au}{Q:Exit→Act→World→Prop}{K:List KI}{s:AS}(k:Nat)(c':A8){c:A8}(hk:Bm s.own k=some c)(hc:Iu c c')
  (h:GW P B Q K {s with own:=Gq s.own k c'}):GW P B Q K s:=by
 refine ⟨fun E a w hs=>?_⟩
 have hm:=C4 hk
 have av:∀b,({s with own:=Gq s.own k c'}:AS).avoid E b→s.avoid E b:=by
  rintro b (hb|⟨y,hy,hb⟩)
  ·exact .inl hb
  ·obtain ⟨z,hz,e⟩:=G0 hy
   exact .inr ⟨z,hz,by rw [e];exact hb⟩
 have mv:∀x v,Ch E w (s.avoid E) s.next x v→Ch E w (({s with own:=Gq s.own k c'}:AS).avoid E) s.next x v:=fun x v hx=>
  hx.move (Nat.le_refl _) (fun _ _=>⟨rfl,rfl⟩) (fun _ _ _=>rfl) (fun b _ hb=>av b hb)
 refine h.out E a w ⟨hs.defers,hs.links,hs.size,fun i x hx=>mv _ _ (hs.slots i x hx),fun x hx=>?_,hs.boxes2,hs.keys,fun y hy=>?_,by rw [R8];exact hs.ownkeys,fun y hy z hz hne=>?_,fun x hx y hy=>?_,hs.one,hs.base,fun b hb=>hs.fresh b (av b hb)⟩
 ·obtain ⟨h1,vs,ty,h2,h3,h4⟩:=hs.boxes x hx
  exact ⟨h1,vs,ty,h2,h3,fun i y hy=>mv _ _ (h4 i y hy)⟩
 ·rcases Q1 hy with ⟨h1,h2,_⟩|⟨h1,_⟩
  ·obtain ⟨g1,g2,g3⟩:=hs.own _ hm
   rw [h1,h2]
   exact ⟨g1,hc.own g2,g3⟩
  ·exact hs.own y h1
 ·obtain ⟨y',hy',e1⟩:=G0 hy
  obtain ⟨z',hz',e2⟩:=G0 hz
  rw [←e1,←e2]
  exact hs.sep y' hy' z' hz' (by rw [e1,e2];exact hne)
 ·obtain ⟨y',hy',e1⟩:=G0 hy
  rw [←e1]
  exact hs.sepB x hx y' hy'
theorem A2z {α:Type} [Inhabited α] {es:Nat}{e:α→List A8}{row:Nat→List A8}{xs:List α}(h:∀i,i<xs.length→Gb (row i) (e (xs.getD i default))):Iu (.sl xs.length es row) (Du es e xs):=
 ⟨rfl,rfl,h⟩
end Go.Sx
namespace Go.Sx
open Go.RowKit (Below)
variable {P : Program} {T : List (TypeId × TI)}
def Wk (cs cs':List A8):Prop:=cs'.length=cs.length∧∀(i:Nat) (c':A8),cs'[i]? =some c'→∃c,cs[i]? =some c∧∀w A v,O1 w A c v→O1 w A c' v
theorem Wk.refl (cs:List A8):Wk cs cs:=⟨rfl,fun _ c h=>⟨c,h,fun _ _ _ h=>h⟩⟩
theorem Wk.append {a a' b b':List A8}(h:Wk a a')(k:Wk b b'):Wk (a++b) (a'++b'):=by
 refine ⟨by simp [h.1,k.1],fun i c hc=>?_⟩
 by_cases hi:i<a'.length
 ·rw [List.getElem?_append_left hi] at hc
  rw [List.getElem?_append_left (by rw [←h.1];exact hi)]
  exact h.2 i c hc
 ·rw [List.getElem?_append_right Ac] at hc
  rw [List.getElem?_append_right (by rw [←h.1];omega),←h.1]
  exact k.2 _ c hc
theorem B96 {α:Type} [Inhabited α] {es n:Nat}{row:Nat→List A8}{e:α→List A8}{ok:α→Prop}(h:∀i,i<n→∃x,ok x∧Wk (row i) (e x)):
  ∃xs:List α,xs.length=n∧(∀y∈xs,ok y)∧Wk [.sl n es row] [Du es e xs]:=by
 have hex:∀i,∃x,i<n→ok x∧Wk (row i) (e x):=fun i=>by
  by_cases hi:i<n
  ·obtain ⟨x,hx⟩:=h i hi;exact ⟨x,fun _=>hx⟩
  ·exact ⟨default,fun h=>absurd h hi⟩
 let g:=fun i=>Classical.choose (hex i)
 have hg:∀i,i<n→ok (g i)∧Wk (row i) (e (g i)):=fun i=>Classical.choose_spec (hex i)
 have hget:∀i,i<n→((List.range n).map g).getD i default=g i:=fun i hi=>by simp [List.getD,hi]
 refine ⟨(List.range n).map g,by simp,fun y hy=>?_,rfl,fun i c hc=>?_⟩
 ·obtain ⟨i,hi,rfl⟩:=List.mem_map.1 hy
  exact (hg i (List.mem_range.1 hi)).1
 ·cases i with
  |succ i=>simp at hc
  |zero=>
   simp only [List.getElem?_cons_zero,Option.some.injEq] at hc
   subst hc
   refine ⟨_,rfl,fun w A v hr=>?_⟩
   have hlen:((List.range n).map g).length=n:=by simp
   unfold Du
   rw [hlen]
   cases hr with
   |nil=>exact .nil _ _
   |emp _ _ a=>exact .emp _ _ a
   |sl _ _ _ b off cap u hA hn hc hl hu hr=>
    refine .sl n es _ b off cap u hA hn hc (fun i hi=>?_) hu (fun i j c hi hc=>?_)
    ·rw [hget i hi,(hg i hi).2.1];exact hl i hi
    ·rw [hget i hi] at hc
     obtain ⟨c0,h1,h2⟩:=(hg i hi).2.2 j c hc
     exact h2 _ _ _ (hr i j c0 hi h1)
theorem Wk.repL {w:World}{xs ys:List A8}{cs:List Value}(h:Wk xs ys)(hr:Qm w xs cs):Qm w ys cs:=by
 refine ⟨h.1.trans hr.1,fun i c hc=>?_⟩
 obtain ⟨c0,h1,h2⟩:=h.2 i c hc
 exact h2 _ _ _ (hr.2 i c0 h1)
theorem Qm.arg1 {w:World}{c:A8}{v:Value}(h:Qm w [c] [v]):Ku w (fun _=>False) (.one c) v:=h.2 0 c rfl
end Go.Sx
namespace Go.Sx
def Fq (row:Nat→List A8) (j:Nat) (r:List A8):Nat→List A8:=fun i=>if i=j then r else row i
theorem Cv (row:Nat→List A8)(j:Nat)(r:List A8):Fq row j r j=r:=by simp [Fq]
theorem Jp (row:Nat→List A8)(j i:Nat)(r:List A8)(h:i≠j):Fq row j r i=row i:=by simp [Fq,h]
theorem A0b {n es:Nat}{row:Nat→List A8}{j off:Nat}{cs r:List A8}(h:Dj (row j) off cs=r):Of n es row j off cs (.sl n es (Fq row j r)):=
 ⟨_,rfl,fun _ _ hi=>Jp _ _ _ _ hi,by rw [Cv,h]⟩
theorem Gb.refl (cs:List A8):Gb cs cs:=by
 induction cs with
 |nil=>trivial
 |cons c cs ih=>exact ⟨.refl c,ih⟩
theorem A7s {n es:Nat}{row:Nat→List A8}{j off:Nat}{cs r r':List A8}(h:Dj r off cs=r'):Of n es (Fq row j r) j off cs (.sl n es (Fq row j r')):=
 ⟨_,rfl,fun _ _ hi=>by rw [Jp _ _ _ _ hi,Jp _ _ _ _ hi],by rw [Cv,Cv,h]⟩
theorem B6h (row:Nat→List A8)(j off:Nat)(v:Value){r:List A8}(hr:row j=r):(fun i=>if i=j then Dj (row i) off [.val v] else row i)=Fq row j (Dj r off [.val v]):=by
 funext i
 unfold Fq
 by_cases h:i=j
 ·subst h;rw [if_pos rfl,if_pos rfl,hr]
 ·rw [if_neg h,if_neg h]
open Go.RowKit (Below) in
theorem B5p {P:Program}{B:Au}{Q:Exit→Act→World→Prop}{K:List KI}{s:AS}(k k2:Nat){n es:Nat}{row:Nat→List A8}{j:Nat}(off:Nat){r:List A8}{v:Value}{c:A8}(hk:Bm s.own k=some (.sl n es (Fq row j r)))
  (hj:j<n)(hc:r[off]? =some (.val v))(h2:Bm s.own k2=some c)(hl:Da s.links k2=some v)(hne:Nat.beq k k2=false){r':List A8}(hr:Dj r off [c]=r')
  (h:GW P B Q K {s with own:=⟨k,.sl n es (Fq row j r')⟩::Bg [k,k2] s.own}):GW P B Q K s:=
 B5o k k2 hk hj (off:=off) (by rw [Cv];exact hc) h2 hl hne _ (A7s hr) h
theorem getD_set_self {α:Type}(l:List α)(j:Nat)(x d:α)(h:j<l.length):(l.set j x).getD j d=x:=by simp [List.getD,h]
theorem getD_set_ne {α:Type}(l:List α)(i j:Nat)(x d:α)(h:i≠j):(l.set j x).getD i d=l.getD i d:=by simp [List.getD,List.getElem?_set_ne (Ne.symm h)]
theorem B1i {α:Type} [Inhabited α] {es:Nat}{e:α→List A8}{xs:List α}{j off:Nat}{x2:α}{r cs:List A8}(hj:j<xs.length)(h:Dj r off cs=e x2):
  Of xs.length es (Fq (fun i=>e (xs.getD i default)) j r) j off cs (Du es e (xs.set j x2)):=by
 refine ⟨_,by rw [Du,List.length_set],fun i _ hne=>?_,?_⟩
 ·simp only [getD_set_ne _ _ _ _ _ hne,Jp _ _ _ _ hne]
 ·simp only [getD_set_self _ _ _ _ hj,Cv,h]
end Go.Sx
namespace Go.Sx
def B9j (_:Int):Nat:=1
def B89 (_:Bool):Nat:=1
def F5.cnt (_:F5):Nat:=1+1
def Oc.cnt (_:Oc):Nat:=1+1+1
def A5.cnt (_:A5):Nat:=1+1+1+1+1
def C2.cnt (x:C2):Nat:=1+(x.queue.map A5.cnt).sum+1+1+1+1
def Cb.cnt (x:Cb):Nat:=1+1+1+(x.outs.map B9j).sum
def A7.cnt (_:A7):Nat:=1+1+1+1
def E3.cnt (_:E3):Nat:=1+1
def Ab.cnt (x:Ab):Nat:=(x.queue.map A5.cnt).sum+(x.staged.map A5.cnt).sum+(x.inputs.map A5.cnt).sum+(x.cells.map A7.cnt).sum+(x.sums.map B9j).sum+(x.black.map B89).sum+(x.caps.map B89).sum+(x.dones.map E3.cnt).sum
def Es.cnt (_:Es):Nat:=1+1+1+1+1
def Cn.cnt (_:Cn):Nat:=1+1+1
def Bl.cnt (_:Bl):Nat:=1+1+1
end Go.Sx
namespace Go.Sx
theorem G1 {α:Type} [Inhabited α] (xs:List α)(k:Nat)(h:k<xs.length):xs.take (k+1)=xs.take k++[xs.getD k default]:=by
 rw [List.take_add_one];simp [List.getD,h]
theorem Ez {α:Type} [Inhabited α] (p:α→Bool)(xs:List α)(k:Nat)(h:k<xs.length):
  (xs.take (k+1)).filter p=(xs.take k).filter p++(if p (xs.getD k default)=true then [xs.getD k default] else []):=by
 rw [G1 xs k h,List.filter_append]
 congr 1
 by_cases hp:p (xs.getD k default)=true
 ·rw [if_pos hp,List.filter_cons_of_pos hp,List.filter_nil]
 ·rw [if_neg hp,List.filter_cons_of_neg hp,List.filter_nil]
theorem F0 {α:Type}(p:α→Bool)(xs:List α)(k:Nat):((xs.take k).filter p).length≤xs.length:=by
 have h1:=List.length_filter_le p (xs.take k)
 have h2:=List.length_take_le k xs
 have h3:=List.length_take_le' k xs
 omega
theorem A6e {α β:Type} [Inhabited α] (f:β→α→β)(z:β)(xs:List α)(k:Nat)(h:k<xs.length):
  (xs.take (k+1)).foldl f z=f ((xs.take k).foldl f z) (xs.getD k default):=by
 rw [G1 xs k h,List.foldl_append];rfl
theorem B38 {α β:Type} [Inhabited α] (f:α→β)(xs:List α)(k:Nat)(h:k<xs.length):
  (xs.take (k+1)).map f=(xs.take k).map f++[f (xs.getD k default)]:=by
 rw [G1 xs k h,List.map_append];rfl
theorem B2e {α:Type} [Inhabited α] (p:α→Bool)(xs:List α)(k:Nat)(h:k<xs.length):
  (xs.take (k+1)).any p=((xs.take k).any p||p (xs.getD k default)):=by
 rw [G1 xs k h,List.any_append];simp
theorem Aq {α:Type}{d:α}{xs:List α}{k:Nat}(h:k<xs.length):xs.getD k d∈xs:=by
 rw [List.getD,List.getElem?_eq_getElem h];exact List.getElem_mem h
theorem Tm {α:Type} [Inhabited α] {p:α→Bool}{xs:List α}{k:Nat}(h:k<xs.length)(hp:p (xs.getD k default)=true):xs.any p=true:=
 List.any_eq_true.2 ⟨_,Aq h,hp⟩
theorem Fi {α:Type}(xs:List α)(k:Nat)(h:¬ k<xs.length):xs.take k=xs:=List.take_of_length_le Ac
theorem F8 {α:Type} [Inhabited α] {es:Nat}{e:α→List A8}{row:Nat→List A8}:Iu (.sl 0 es row) (Du es e ([]:List α)):=⟨rfl,rfl,fun _ h=>nomatch h⟩
theorem Z7 {b:Bool}{p q:Prop}(hb:b=true)(h:p):(b=true→p)∧(b=false→q):=⟨fun _=>h,fun e=>by rw [hb] at e;cases e⟩
theorem O3 {b:Bool}{p q:Prop}(hb:b=false)(h:q):(b=true→p)∧(b=false→q):=⟨fun e=>(by rw [hb] at e;cases e),fun _=>h⟩
theorem Kf {p q:Prop}(hq:q)(hp:p:=by first|omega|(show _∧_;omega)|((repeat (first|rw [ByteArray.size_append]|rw [bsz]|rw [List.size_toArray]|rw [List.length_cons]|rw [List.length_nil]))<;>omega)|((repeat rw [Int.toNat_natCast])<;>first|omega|(show _∧_;omega))|(simp only [ByteArray.size_append,bsz,List.size_toArray,List.length_cons,List.length_nil];omega)|(simp only [Int.toNat_natCast];first|omega|(show _∧_;omega))|decide):p∧q:=⟨hp,hq⟩
theorem Gj {p q:Prop}(hq:q)(hp:p:=by first|omega|(show _∧_;omega)|((repeat (first|rw [ByteArray.size_append]|rw [bsz]|rw [List.size_toArray]|rw [List.length_cons]|rw [List.length_nil]))<;>omega)|((repeat rw [Int.toNat_natCast])<;>first|omega|(show _∧_;omega))|(simp only [ByteArray.size_append,bsz,List.size_toArray,List.length_cons,List.length_nil];omega)|(simp only [Int.toNat_natCast];first|omega|(show _∧_;omega))|decide|(simp only [beq_iff_eq,beq_eq_false_iff_ne,bne_iff_ne,bne_eq_false_iff_eq,Bool.not_eq_true',Bool.not_eq_false',Go.Sx.Am,Go.Sx.Az,decide_eq_true_eq,decide_eq_false_iff_not,ne_eq,Int.not_lt,Int.not_le,ge_iff_le,gt_iff_lt,Int.toNat_zero,Int.toNat_one,Int.toNat_natCast] at * <;>first|omega|(show _∧_;omega))):p∧q:=⟨hp,hq⟩
theorem skf {b:Bool}{p q:Prop}(h:q)(hb:b=false:=by first|with_reducible rfl|assumption|(simp;done)|fail):(b=true→p)∧(b=false→q):=O3 hb h
theorem skt {b:Bool}{p q:Prop}(h:p)(hb:b=true:=by first|with_reducible rfl|assumption|(simp;done)|fail):(b=true→p)∧(b=false→q):=Z7 hb h
theorem Ms {b:Bool}{p q:Prop}(h:q)(hb:b=false:=by first|with_reducible rfl|assumption):(b=true→p)∧(b=false→q):=O3 hb h
theorem Mt {b:Bool}{p q:Prop}(h:p)(hb:b=true:=by first|with_reducible rfl|assumption):(b=true→p)∧(b=false→q):=Z7 hb h
end Go.Sx
namespace Go.Sx
open Go.RowKit (Below)
variable {P : Program} {T : List (TypeId × TI)}
theorem A5y (hT:C1 P T){B:Au}{Q:Exit→Act→World→Prop}{q:Bool}{all:Array Oper}{o:Oper}{rest:List Oper}{K:List KI}{s:AS}{t e:TypeId}{len:Nat}{parts:Array (Nat×Operand)}{i j:TI}
  (hg:o.guard=none)(ho:o.op= .buildSlice t len parts)(hi:A5r T t=some i)(hie:i.elem=some e)(hj:A5r T e=some j)(hsm:(Nat.ble (len * j.size) 10000&&Nat.blt 0 j.size)=true)
  {l:List AV}(hcs:N8 T (H5 len 0 j.size e) s parts.toList (repL len (Gx j))=some l){cs:List A8}{ks:List Nat}(hc:O4 s.own l=some (cs,ks))(hkd:G6 ks=true)
  (h:G P B Q (.ops q all rest::K) (({s with own:=⟨s.next,.sl len j.size fun i=>(cs.drop (i * j.size)).take j.size⟩::Bg ks s.own,next:=s.next+1}:AS).put o.dst (.own s.next))):G P B Q (.ops q all (o::rest)::K) s:=by
 refine Fy hg (by rw [ho];simp [D6]) (fun E a w hs=>?_)
 obtain ⟨f,d,z,S⟩:=TI.of_spec (hT e j hj)
 have hzs:z.cells.size=j.size:=by have:=S.zlen;rw [←S.cells] at this;simpa using this
 simp only [Bool.and_eq_true] at hsm
 have hpos:=G3 hsm.2
 have hsmall:=Nat.le_of_ble_eq_true hsm.1
 have hlen:len≤len * j.size:=Nat.le_mul_of_pos_right _ hpos
 have hz0:DL E w (s.avoid E) s.next (repL len (Gx j)) ((Array.range (len * j.size)).map (z.cells[· % z.cells.size]!)):=by
  refine ⟨by simp [Im,Gx,S.zlen],fun k y hy=>?_⟩
  have hzl:(Gx j).length=j.size:=by simp [Gx,S.zlen]
  have hk:k<len * j.size:=by have:=(List.getElem?_eq_some_iff.1 hy).1;rwa [Im,hzl] at this
  rw [A4u _ _ _ (by rw [hzl];exact hk),hzl] at hy
  have:=(Us (hT e j hj) S.cells E w (s.avoid E) s.next).2 _ _ hy
  have hm:k % j.size<z.cells.size:=by rw [hzs];exact Nat.mod_lt _ (Nat.pos_of_ne_zero (fun h=>by rw [h] at hk;simp at hk))
  have e1:((Array.range (len * j.size)).map (z.cells[· % z.cells.size]!)).getD k undef=z.cells.getD (k % j.size) undef:=by
   have:=L9 z.cells (len * j.size) k hk
   rw [show (Array.range (len * j.size)).map (z.cells[· % z.cells.size]!)=madeCells z.cells (len * j.size) from rfl,this,hzs]
   rw [getElem!_pos z.cells _ hm]
   simp only [Array.getD,hm,dif_pos]
   rfl
  rw [e1]
  exact this
 obtain ⟨cs',hfill,hDL⟩:=A0x hT hs (H5 len 0 j.size e) (fun k=>some (k * j.size,j.size)) (fun k o u hk j' hj'=>by
  obtain ⟨rfl,rfl⟩:=Qg _ _ _ _ _ _ _ hk
  rw [hj] at hj'
  obtain rfl:=Option.some.inj hj'
  simp) parts.toList _ _ l hcs hz0
 have hll:l.length=len * j.size:=by
  have:=Q7 hcs
  rw [this,Im]
  simp [Gx,S.zlen]
 have hcsl:cs'.size=len * j.size:=by have:=hDL.1;omega
 have hrun:(Instr.buildSlice t len (parts.map fun p=>(p.1,a.eval p.2))).run P w= .ok (.slice (some ⟨w.heap.size,0,none⟩) len len) (w.alloc (.cells cs' e)):=by
  have hnot:¬ (16777216<len * j.size):=by omega
  have hfill':Instr.fill (fun k=>some (k * j.size,j.size)) ((Array.range (len * j.size)).map (z.cells[· % z.cells.size]!)) (parts.map fun p=>(p.1,a.eval p.2)).toList=some cs':=by
   rw [Array.toList_map];exact hfill
  by_cases h0:len * j.size=0
  ·simp [Instr.buildSlice,run_underlying (Bq (hT t i hi) hie),Bc (hT e j hj),h0,newRow,Array.range_zero']
   simp [h0,Array.range_zero'] at hfill'
   rw [hfill']
   simp
  ·simp [Instr.buildSlice,run_underlying (Bq (hT t i hi) hie),Bc (hT e j hj),hnot,h0,newRow,zeroValue,typeInfo,S.hf,S.hz]
   simp at hfill'
   rw [hfill']
   simp
 have hnd:=Dy hkd
 obtain ⟨q1,q2,gps,q3,q4,q5⟩:=Ww hs hc hnd (vs:=cs'.toList) (by simp only [Array.length_toList];omega) (fun m z hz=>by rw [C9];exact hDL.2 m z hz)
 have hcl:cs.length=len * j.size:=by omega
 have hbel:=Ia w (.cells cs' e)
 have hlt:∀b∈(List.range cs.length).flatMap gps,b<w.heap.size:=by
  intro b hb
  obtain ⟨k,hk,hb1⟩:=List.mem_flatMap.1 (q5 b hb)
  obtain ⟨y,hy,rfl⟩:=q2 k hk
  exact (hs.own y hy).2.1.lt b hb1
 have hown:=C3.sl (w:=w.alloc (.cells cs' e)) len j.size (fun i=>(cs.drop (i * j.size)).take j.size) w.heap.size 0 len e cs' gps
  (Nat.le_refl _) (by simp only [maxLen];omega) (heap_alloc_new w _) (by simp [hcsl]) (fun k hk=>by
   have h2:k * j.size+j.size≤len * j.size:=by rw [←Nat.succ_mul];exact Nat.mul_le_mul_right _ hk
   simp [hcl];omega) (fun k m c hk hc'=>by
   have hm:m<j.size:=by have:=(List.getElem?_eq_some_iff.1 hc').1;simp at this;omega
   rw [List.getElem?_take,if_pos hm,List.getElem?_drop] at hc'
   have ho:=q3 _ _ hc'
   rw [C9] at ho
   rw [show (0+k) * j.size+m=k * j.size+m by rw [Nat.zero_add]]
   refine ho.move (fun b hb=>?_)
   have hkl:k * j.size+m<cs.length:=(List.getElem?_eq_some_iff.1 hc').1
   exact Fm w _ _ (hlt b (List.mem_flatMap.2 ⟨_,List.mem_range.2 hkl,hb⟩)))
 rw [←hcl] at hown
 have hfp:(w.heap.size::(List.range cs.length).flatMap gps).Nodup:=List.nodup_cons.2 ⟨fun hm=>Nat.lt_irrefl _ (hlt _ hm),q4⟩
 have hI:=hs.drop ks
 have key:∀b,b∈(List.range cs.length).flatMap gps→s.avoid E b∧¬ ({s with own:=Bg ks s.own}:AS).avoid E b:=by
  intro b hb
  obtain ⟨k,hk1,hb1⟩:=List.mem_flatMap.1 (q5 b hb)
  obtain ⟨y,hy,rfl⟩:=q2 k hk1
  refine ⟨.inr ⟨y,hy,hb1⟩,?_⟩
  rintro (⟨u,hu,rfl⟩|⟨u,hu,hb'⟩)
  ·exact hs.sepB u hu y hy hb1
  ·obtain ⟨hz1,hz2⟩:=C5.1 hu
   exact hs.sep y hy u hz1 (fun e=>hz2 (e▸hk1)) b hb1 hb'
 have hkept:A9g (fun _=>False) w (w.alloc (.cells cs' e)):=⟨rfl,rfl,rfl,by simp,fun k hk _=>Fm w _ _ hk⟩
 have hI2:=hI.kept hkept (fun b hb=>hb.elim)
 obtain ⟨k1,k2⟩:=hI2.addOwn hown hfp (fun b hb=>by
  rcases List.mem_cons.1 hb with rfl|hb
  ·refine ⟨.inr (Nat.le_refl _),fun hav=>?_,.inl hs.base.size⟩
   have:=hs.avoid_lt (hI.sub _ hav)
   omega
  ·exact ⟨.inl (key b hb).1,(key b hb).2,hs.fresh b (key b hb).1⟩)
 have hput:=(k1.put o.dst k2).is
 refine ⟨_,_,.inl (by
  obtain ⟨dst,op',ty',pos,after,guard⟩:=o
  simp only at ho
  subst ho
  simp only [execOp,Sem.run_bind,hrun,Result.andThen_ok];rfl),fun hk=>(by
   exact ⟨by simp,fun k hk=>Fm w _ _ hk⟩),h _ _ _ (by simpa [AS.addOwn] using hput)⟩
theorem Qp (hT:C1 P T){B:Au}{Q:Exit→Act→World→Prop}{q:Bool}{all:Array Oper}{o:Oper}{rest:List Oper}{K:List KI}{s:AS}{t e:TypeId}{len:Nat}{parts:Array (Nat×Operand)}{i j:TI}
  (hg:o.guard=none)(ho:o.op= .buildSlice t len parts)(hi:A5r T t=some i)(hie:i.elem=some e)(hj:A5r T e=some j)(hsm:(Nat.ble (len * j.size) 10000&&Nat.blt 0 j.size)=true)
  {l:List AV}(hcs:N8 T (H5 len 0 j.size e) s parts.toList (repL len (Gx j))=some l){cs:List A8}{ks:List Nat}(hc:O4 s.own l=some (cs,ks))(hkd:G6 ks=true)
  (h:GW P B Q (.ops q all rest::K) (({s with own:=⟨s.next,.sl len j.size fun i=>(cs.drop (i * j.size)).take j.size⟩::Bg ks s.own,next:=s.next+1}:AS).put o.dst (.own s.next))):GW P B Q (.ops q all (o::rest)::K) s:=
 ⟨A5y hT hg ho hi hie hj hsm hcs hc hkd (h.rec id)⟩
theorem AS.is.reBox {s:AS}{B:Au}{E:Cw}{a:Act}{w:World}(h:s.is B E a w){k:Nat}{b:Bx}(hb:F2 s.boxes k=some b)(cells:List AV)
  (hd:∀vs:Array Value,vs.size=b.cells.length→(∀i y,b.cells[i]? =some y→Ch E w (s.avoid E) s.next y (vs.getD i undef))→vs.size=cells.length∧∀j y,cells[j]? =some y→Ch E w (s.avoid E) s.next y (vs.getD j undef)):
  ({s with boxes:=Ei s.boxes k cells}:AS).is B E a w:=by
 obtain ⟨hm,rfl⟩:=Ea hb
 have av:∀c,({s with boxes:=Ei s.boxes b.key cells}:AS).avoid E c↔s.avoid E c:=by
  intro c
  constructor
  ·rintro (⟨x,hx,rfl⟩|h)
   ·rcases Eb hx h.keys with ⟨h1,_,y,hy,h2⟩|⟨h1,_⟩
    ·exact .inl ⟨y,hy,by rw [h1,h2]⟩
    ·exact .inl ⟨x,h1,rfl⟩
   ·exact .inr h
  ·rintro (⟨x,hx,rfl⟩|h)
   ·obtain ⟨y,hy,e⟩:=Zu (k:=b.key) (cs:=cells) hx
    exact .inl ⟨y,hy,by rw [e]⟩
   ·exact .inr h
 have mv:∀x v,Ch E w (s.avoid E) s.next x v→Ch E w (({s with boxes:=Ei s.boxes b.key cells}:AS).avoid E) s.next x v:=
  fun x v hx=>hx.move (Nat.le_refl _) (fun _ _=>⟨rfl,rfl⟩) (fun _ _ _=>rfl) (fun c _ hc=>(av c).1 hc)
 refine ⟨h.defers,h.links,h.size,fun i x hx=>mv _ _ (h.slots i x hx),?_,?_,?_,h.own,h.ownkeys,h.sep,?_,h.one,h.base,fun c hc=>h.fresh c ((av c).1 hc)⟩
 ·intro x hx
  rcases Eb hx h.keys with ⟨h1,h2,_⟩|⟨h1,_⟩
  ·obtain ⟨g1,vs,ty,g2,g3,g4⟩:=h.boxes b hm
   obtain ⟨e1,e2⟩:=hd vs g3 g4
   exact ⟨h1▸g1,vs,ty,by rw [h1];exact g2,by rw [h2];exact e1,fun j y hj=>mv _ _ (e2 j y (by rw [←h2];exact hj))⟩
  ·obtain ⟨g1,vs,ty,g2,g3,g4⟩:=h.boxes x h1
   exact ⟨g1,vs,ty,g2,g3,fun j y hj=>mv _ _ (g4 j y hj)⟩
 ·intro x hx y hy he
  rcases Eb hx h.keys with ⟨h1,_⟩|⟨h1,_⟩<;>rcases Eb hy h.keys with ⟨g1,_⟩|⟨g1,_⟩
  ·rw [h1,g1]
  ·rw [h1] at he ⊢
   exact h.boxes2 b hm y g1 he
  ·rw [g1] at he ⊢
   exact h.boxes2 x h1 b hm he
  ·exact h.boxes2 x h1 y g1 he
 ·show ((Ei s.boxes b.key cells).map (·.key)).Nodup
  rw [Ld]
  exact h.keys
 ·intro x hx y hy
  rcases Eb hx h.keys with ⟨h1,_⟩|⟨h1,_⟩
  ·rw [h1];exact h.sepB b hm y hy
  ·exact h.sepB x h1 y hy
theorem B4g {B:Au}{Q:Exit→Act→World→Prop}{K:List KI}{s:AS}(k off es:Nat)(row:Nat→List A8){b:Bx}(hb:F2 s.boxes k=some b)(hi:Dl b.cells off= .c (.val (.slice none 0 0)))
  (h:GW P B Q K {s with boxes:=Ei s.boxes k (Ce b.cells off (.own s.next)),own:=⟨s.next,.sl 0 es row⟩::s.own,next:=s.next+1}):GW P B Q K s:=by
 refine ⟨fun E a w hs=>?_⟩
 have hI:s.isA B E (s.avoid E) a w:=⟨hs.defers,hs.links,hs.size,hs.slots,hs.boxes,hs.boxes2,hs.keys,hs.own,hs.ownkeys,hs.sep,hs.sepB,hs.one,hs.base,hs.fresh,fun _ h=>h⟩
 obtain ⟨k1,k2⟩:=hI.addOwn (.nil es row) A9h A9h
 have k3:=k1.is
 have k4:=k3.reBox (k:=k) (b:=b) hb (Ce b.cells off (.own s.next)) (fun vs h1 h2=>by
  refine ⟨by rw [C8];exact h1,fun j y hj=>?_⟩
  rw [Df] at hj
  split at hj
  ·rename_i hm
   obtain ⟨rfl,hm⟩:=hm
   obtain rfl:=Option.some.inj hj
   have hd:=h2 off (.c (.val (.slice none 0 0))) (by rw [Ci,List.getElem?_eq_getElem hm] at hi;rw [List.getElem?_eq_getElem hm];simpa using hi)
   rw [B3 hd]
   exact k2.move (Nat.le_refl _) (fun _ _=>⟨rfl,rfl⟩) (fun _ _ _=>rfl) (fun b _ hb=>k1.sub b hb)
  ·exact h2 j y hj)
 exact h.out _ _ _ k4
theorem B9 (id:Nat)(hm:P.follows .mixedOrders=true){B:Au}{Q:Exit→Act→World→Prop}{ops:Array Oper}{K:List KI}{s:AS}(ord:List Nat)(hB:B4b ops ord=true)
  (h:GW P B Q (.ops true ops (A1f ops ord)::K) s):GW P B Q (.code (.region id ops true)::K) s:=B7u hm ord hB h
theorem Eh {α:Type} [Inhabited α] {es:Nat}{e:α→List A8}{row1:Nat→List A8}{xs:List α}:Ut 0 xs.length es row1 (fun i=>e (xs.getD i default)) (Du es e xs):=
 ⟨_,by rw [Du,Nat.zero_add],fun i hi=>by omega,fun i hi=>by simp⟩
theorem Nb {α:Type} [Inhabited α] {e:α→List A8}(xs:List α)(h:∀x,∀c∈e x,∃v,c= .val v):Ec xs.length (fun i=>e (xs.getD i default)):=fun _ _=>h _
theorem Sy (xs:List Int):Ec xs.length (fun i=>[vi (xs.getD i default)]):=Nb (e:=fun n=>[vi n]) xs fun _x _c hc=>⟨_,List.mem_singleton.1 hc⟩
theorem Vt (xs:List Bool):Ec xs.length (fun i=>[vb (xs.getD i default)]):=Nb (e:=fun n=>[vb n]) xs fun _x _c hc=>⟨_,List.mem_singleton.1 hc⟩
theorem B0d (xs:List A5):Ec xs.length (fun i=>A5.c (xs.getD i default)):=Nb xs fun x c hc=>by
 simp only [A5.c,List.mem_cons,List.not_mem_nil,or_false] at hc
 rcases hc with rfl|rfl|rfl|rfl|rfl<;>exact ⟨_,rfl⟩
theorem Eu (xs:List A7):Ec xs.length (fun i=>A7.c (xs.getD i default)):=Nb xs fun x c hc=>by
 simp only [A7.c,List.mem_cons,List.not_mem_nil,or_false] at hc
 rcases hc with rfl|rfl|rfl|rfl<;>exact ⟨_,rfl⟩
theorem Pq (xs:List Cn):Ec xs.length (fun i=>Cn.c (xs.getD i default)):=Nb xs fun x c hc=>by
 simp only [Cn.c,List.mem_cons,List.not_mem_nil,or_false] at hc
 rcases hc with rfl|rfl|rfl<;>exact ⟨_,rfl⟩
theorem A6c (xs:List E3):Ec xs.length (fun i=>E3.c (xs.getD i default)):=Nb xs fun x c hc=>by
 simp only [E3.c,List.mem_cons,List.not_mem_nil,or_false] at hc
 rcases hc with rfl|rfl<;>exact ⟨_,rfl⟩
theorem Om (xs:List Es):Ec xs.length (fun i=>Es.c (xs.getD i default)):=Nb xs fun x c hc=>by
 simp only [Es.c,List.mem_cons,List.not_mem_nil,or_false] at hc
 rcases hc with rfl|rfl|rfl|rfl|rfl<;>exact ⟨_,rfl⟩
end Go.Sx
namespace Go.Sx
def Eg (n lo hi:Int):Bool:=if n≥lo then decide (n≤hi) else false
def En (n lo hi:Int):Int:=if hi<lo∨n<lo then lo else if hi<n then hi else n
def Cf (key n:Int):Int:=if n<1 then 0 else if key.tmod n<0 then key.tmod n+n else key.tmod n
theorem Am {n lo hi:Int}:Eg n lo hi=true↔lo≤n∧n≤hi:=by
 unfold Eg
 split
 ·simp;omega
 ·simp;omega
theorem Jq (n lo hi:Int)(h:lo≤hi):lo≤En n lo hi∧En n lo hi≤hi:=by
 unfold En
 split
 ·omega
 ·split<;>omega
theorem A0c (k:Nat)(h:k<4611686018427387904):IntKind.i64.wrap ((k:Int)+1)=((k+1:Nat):Int):=by
 rw [Hz (by show _∧_;omega)];omega
def B97 (xs:List Ab):Int:=xs.foldl (fun n x=>if (x.queue.length:Int)>n then (x.queue.length:Int) else n) 0
theorem C1o (xs:List Ab)(k:Nat)(h:k<xs.length):B97 (xs.take (k+1))=if ((xs.getD k default).queue.length:Int)>B97 (xs.take k) then ((xs.getD k default).queue.length:Int) else B97 (xs.take k):=
 A6e _ _ _ _ h
theorem A3.links_le {x:A3}{n:Nat}(h:x.w≤n):x.links.length≤n:=by simp only [A3.w,wS] at h;omega
theorem A3.workers_le {x:A3}{n:Nat}(h:x.w≤n):x.workers.length≤n:=by simp only [A3.w,wS] at h;omega
theorem A3.tokens_le {x:A3}{n:Nat}(h:x.w≤n):x.tokens.length≤n:=by simp only [A3.w,wS] at h;omega
theorem A3.news_le {x:A3}{n:Nat}(h:x.w≤n):x.news.length≤n:=by simp only [A3.w,wS] at h;omega
theorem A3.worker_le {x:A3}{n:Nat}(h:x.w≤n){k:Nat}(hk:k<x.workers.length):((x.workers.take k).map Ab.w).sum+(x.workers.getD k default).w≤n:=by
 have:=Hg Ab.w x.workers k hk
 simp only [A3.w,wS] at h;omega
theorem A3.link_le {x:A3}{n:Nat}(h:x.w≤n){k:Nat}(hk:k<x.links.length):((x.links.take k).map C2.w).sum+(x.links.getD k default).w≤n:=by
 have:=Hg C2.w x.links k hk
 simp only [A3.w,wS] at h;omega
def B1w (xs:List C2):Nat:=(xs.map fun l=>if (l.queue.length:Int)=l.cap then 1 else 0).sum
theorem C06 (xs:List C2)(k:Nat)(h:k<xs.length):B1w (xs.take (k+1))=B1w (xs.take k)+if ((xs.getD k default).queue.length:Int)=(xs.getD k default).cap then 1 else 0:=by
 unfold B1w;rw [B38 _ _ _ h,List.sum_append];simp
theorem C1n (xs:List C2):B1w xs≤xs.length:=by
 induction xs with
 |nil=>simp [B1w]
 |cons x r ih=>simp only [B1w,List.map_cons,List.sum_cons,List.length_cons] at *;split<;>omega
theorem C33 (x y:Int):(x==y)=decide (x=y):=by rw [Bool.eq_iff_iff];simp
theorem A2f {α:Type} [Inhabited α] (a b:List α)(k:Nat)(h:a.take k=b.take k)(ha:k<a.length)(hb:k<b.length):a.take (k+1)=b.take (k+1)↔a.getD k default=b.getD k default:=by
 rw [G1 a k ha,G1 b k hb,h]
 simp
theorem F5.eqv (x y:F5):(x.epoch==y.epoch&&(x.turn==y.turn&&true))=decide (x=y):=by
 obtain ⟨_,_⟩:=x
 obtain ⟨_,_⟩:=y
 rw [Bool.eq_iff_iff];simp [and_assoc]
theorem Oc.eqv (x y:Oc):(x.stamp.epoch==y.stamp.epoch&&(x.stamp.turn==y.stamp.turn&&(x.n==y.n&&true)))=decide (x=y):=by
 obtain ⟨⟨_,_⟩,_⟩:=x
 obtain ⟨⟨_,_⟩,_⟩:=y
 rw [Bool.eq_iff_iff];simp [and_assoc]
theorem A5.eqv (x y:A5):(x.op==y.op&&(x.stamp.epoch==y.stamp.epoch&&(x.stamp.turn==y.stamp.turn&&(x.key==y.key&&(x.val==y.val&&true)))))=decide (x=y):=by
 obtain ⟨_,⟨_,_⟩,_,_⟩:=x
 obtain ⟨_,⟨_,_⟩,_,_⟩:=y
 rw [Bool.eq_iff_iff];simp [and_assoc]
theorem A7.eqv (x y:A7):(x.op==y.op&&(x.epoch==y.epoch&&(x.key==y.key&&(x.val==y.val&&true))))=decide (x=y):=by
 obtain ⟨_,_,_,_⟩:=x
 obtain ⟨_,_,_,_⟩:=y
 rw [Bool.eq_iff_iff];simp [and_assoc]
theorem E3.eqv (x y:E3):(x.epoch==y.epoch&&(x.capped==y.capped&&true))=decide (x=y):=by
 obtain ⟨_,_⟩:=x
 obtain ⟨_,_⟩:=y
 rw [Bool.eq_iff_iff];simp [and_assoc]
theorem Es.eqv (x y:Es):(x.going==y.going&&(x.at_==y.at_&&(x.sum==y.sum&&(x.black==y.black&&(x.capped==y.capped&&true)))))=decide (x=y):=by
 obtain ⟨_,_,_,_,_⟩:=x
 obtain ⟨_,_,_,_,_⟩:=y
 rw [Bool.eq_iff_iff];simp [and_assoc]
theorem Cn.eqv (x y:Cn):(x.to_==y.to_&&(x.epoch==y.epoch&&(x.capped==y.capped&&true)))=decide (x=y):=by
 obtain ⟨_,_,_⟩:=x
 obtain ⟨_,_,_⟩:=y
 rw [Bool.eq_iff_iff];simp [and_assoc]
theorem Bl.eqv (x y:Bl):(x.kind==y.kind&&(x.a==y.a&&(x.b==y.b&&true)))=decide (x=y):=by
 obtain ⟨_,_,_⟩:=x
 obtain ⟨_,_,_⟩:=y
 rw [Bool.eq_iff_iff];simp [and_assoc]
theorem Cb.eqv (x y:Cb):decide (x=y)=(x.kind==y.kind&&(x.a==y.a&&(x.b==y.b&&decide (x.outs=y.outs)))):=by
 obtain ⟨_,_,_,_⟩:=x
 obtain ⟨_,_,_,_⟩:=y
 rw [Bool.eq_iff_iff];simp
theorem Ad.eqv (x y:Ad):decide (x=y)=(decide (x.nodes=y.nodes)&&(x.workers==y.workers&&x.cap==y.cap)):=by
 obtain ⟨_,_,_⟩:=x
 obtain ⟨_,_,_⟩:=y
 rw [Bool.eq_iff_iff];simp
theorem Ll.eqv (x y:Ll):decide (x=y)=(decide (x.graph=y.graph)&&(decide (x.inputs=y.inputs)&&(decide (x.picks=y.picks)&&x.rounds==y.rounds))):=by
 obtain ⟨_,_,_,_⟩:=x
 obtain ⟨_,_,_,_⟩:=y
 rw [Bool.eq_iff_iff];simp
def Bs (xs:List A5) (e:Int):List A5:=xs.filter fun r=>r.stamp.epoch==e
def R5 (w:Ab) (e:Int):Bool:=w.inputs.any fun r=>decide (r.stamp.epoch≤e)
def Xs (w:Ab) (e:Int):Nat:=(Bs w.queue e).length+(Bs w.staged e).length
def De (w:Ab) (e:Int):Bool:=if R5 w e then false else (Xs w e:Int)==0
def B1 (w:Ab) (e:Int):Bool:=w.dones.any fun d=>d.epoch==e
def B1z (c:A3) (e:Int):Bool:=if 0<c.workers.length then B1 (c.workers.getD 0 default) e else false
def B1x (c:A3) (e:Int):Int:=
 if Eg e 0 (c.tokens.length-1)=false then-1 else if B1z c e then-1
 else if Eg (c.tokens.getD e.toNat default).at_ 0 (c.workers.length-1)=false then-1
 else if De (c.workers.getD (c.tokens.getD e.toNat default).at_.toNat default) e then-1 else (c.tokens.getD e.toNat default).at_
theorem Nq (xs:List A5)(e:Int):(Bs xs e).length≤xs.length:=List.length_filter_le _ _
def Ek {α:Type} (p:α→Bool):List α→Nat
 | []=>0
 |x::r=>if p x=true then 0 else Ek p r+1
def Kd {α:Type} (p:α→Bool) (xs:List α):Int:=if xs.any p=true then (Ek p xs:Int) else-1
theorem B29 {α:Type} [Inhabited α] (p:α→Bool)(xs:List α)(k:Nat)(h:(xs.take k).any p=false)(hk:k<xs.length)(hp:p (xs.getD k default)=true):Ek p xs=k:=by
 induction xs generalizing k with
 |nil=>simp at hk
 |cons x r ih=>
  cases k with
  |zero=>
   simp only [List.getD_cons_zero] at hp
   simp [Ek,hp]
  |succ k=>
   simp only [List.take_succ_cons,List.any_cons,Bool.or_eq_false_iff] at h
   have:=ih k h.2 (by simpa using hk) (by simpa using hp)
   simp [Ek,h.1,this]
theorem Mj {α:Type} [Inhabited α] (p:α→Bool)(xs:List α)(k:Nat)(h:(xs.take k).any p=false)(hk:k<xs.length)(hp:p (xs.getD k default)=true):Kd p xs=k:=by
 rw [Kd,if_pos (Tm hk hp),B29 p xs k h hk hp]
theorem I4 {α:Type}(p:α→Bool)(xs:List α)(h:xs.any p=false):Kd p xs= -1:=by rw [Kd,if_neg (by rw [h];decide)]
theorem Sw {α:Type}(p:α→Bool)(xs:List α):decide (Kd p xs≥0)=xs.any p:=by
 unfold Kd
 cases h:xs.any p with
 |true=>rw [if_pos rfl];exact decide_eq_true Ac
 |false=>rw [if_neg Bu];exact decide_eq_false Ac
theorem Gd {α:Type} [Inhabited α] {p:α→Bool}{xs:List α}{k:Nat}(h:(xs.take k).any p=false)(hk:k<xs.length)(hp:p (xs.getD k default)=false):(xs.take (k+1)).any p=false:=by
 rw [B2e p xs k hk,h,hp];rfl
end Go.Sx
namespace Go.Sx
open Go.RowKit (Below)
variable {P : Program} {T : List (TypeId × TI)}
abbrev vy (b:UInt8):A8:= .val (.int .u8 b.toNat)
abbrev B48 (xs:List UInt8):A8:=Du 1 (fun b=>[vy b]) xs
end Go.Sx
namespace Go.Sx
variable {P : Program} {T : List (TypeId × TI)} {ops : Array Oper}
end Go.Sx
set_option maxRecDepth 100000
namespace Go.Sx
open Go
theorem To {B:Au}{Q:Exit→Act→World→Prop}{s:AS}(k:Nat)(c':A8){c:A8}(hk:Bm s.own k=some c)(hc:Iu c c')
  (h:RW B Q {s with own:=Gq s.own k c'}):RW B Q s:=by
 refine ⟨fun E a w hs=>?_⟩
 have hm:=C4 hk
 have av:∀b,({s with own:=Gq s.own k c'}:AS).avoid E b→s.avoid E b:=by
  rintro b (hb|⟨y,hy,hb⟩)
  ·exact .inl hb
  ·obtain ⟨z,hz,e⟩:=G0 hy
   exact .inr ⟨z,hz,by rw [e];exact hb⟩
 have mv:∀x v,Ch E w (s.avoid E) s.next x v→Ch E w (({s with own:=Gq s.own k c'}:AS).avoid E) s.next x v:=fun x v hx=>
  hx.move (Nat.le_refl _) (fun _ _=>⟨rfl,rfl⟩) (fun _ _ _=>rfl) (fun b _ hb=>av b hb)
 obtain ⟨h⟩:=h
 refine h E a w ⟨hs.defers,hs.links,hs.size,fun i x hx=>mv _ _ (hs.slots i x hx),fun x hx=>?_,hs.boxes2,hs.keys,fun y hy=>?_,by rw [R8];exact hs.ownkeys,fun y hy z hz hne=>?_,fun x hx y hy=>?_,hs.one,hs.base,fun b hb=>hs.fresh b (av b hb)⟩
 ·obtain ⟨h1,vs,ty,h2,h3,h4⟩:=hs.boxes x hx
  exact ⟨h1,vs,ty,h2,h3,fun i y hy=>mv _ _ (h4 i y hy)⟩
 ·rcases Q1 hy with ⟨h1,h2,_⟩|⟨h1,_⟩
  ·obtain ⟨g1,g2,g3⟩:=hs.own _ hm
   rw [h1,h2]
   exact ⟨g1,hc.own g2,g3⟩
  ·exact hs.own y h1
 ·obtain ⟨y',hy',e1⟩:=G0 hy
  obtain ⟨z',hz',e2⟩:=G0 hz
  rw [←e1,←e2]
  exact hs.sep y' hy' z' hz' (by rw [e1,e2];exact hne)
 ·obtain ⟨y',hy',e1⟩:=G0 hy
  rw [←e1]
  exact hs.sepB x hx y' hy'
end Go.Sx
set_option maxRecDepth 100000
namespace Go.Sx
open Go
theorem B7k {α:Type} [Inhabited α] {es:Nat}{e:α→List A8}{xs:List α}{x y:α}{row:Nat→List A8}(h0:row 0=e x)(h1:row 1=e y):
  Ut xs.length 2 es (fun i=>e (xs.getD i default)) row (Du es e (xs++[x,y])):=by
 obtain ⟨r,hr,ha,hb⟩:=A14 es e xs [x,y]
 refine ⟨r,hr,ha,fun i hi=>?_⟩
 rw [hb i hi]
 match i,hi with
 | 0,_=>exact h0.symm
 | 1,_=>exact h1.symm
theorem C4y {α:Type} [Inhabited α] {es:Nat}{e:α→List A8}{xs:List α}{x y z u:α}{row:Nat→List A8}(h0:row 0=e x)(h1:row 1=e y)(h2:row 2=e z)(h3:row 3=e u):
  Ut xs.length 4 es (fun i=>e (xs.getD i default)) row (Du es e (xs++[x,y,z,u])):=by
 obtain ⟨r,hr,ha,hb⟩:=A14 es e xs [x,y,z,u]
 refine ⟨r,hr,ha,fun i hi=>?_⟩
 rw [hb i hi]
 match i,hi with
 | 0,_=>exact h0.symm
 | 1,_=>exact h1.symm
 | 2,_=>exact h2.symm
 | 3,_=>exact h3.symm
theorem Gb.rfl':∀l:List A8,Gb l l
 | []=>trivial
 |_::l=>⟨.inl rfl,Gb.rfl' l⟩
theorem Hj {α:Type}(f:Nat→List α)(k:Nat):(List.range (k+1)).flatMap f=(List.range k).flatMap f++f k:=by
 rw [List.range_succ,List.flatMap_append];simp
def pW (w:Nat):List Bl:=[⟨1,w,0⟩,⟨3,w,0⟩,⟨2,w,0⟩,⟨7,w,0⟩]
def pK (w k:Nat):List Bl:=if (w:Int)=k then [] else [⟨4,w,k⟩,⟨5,w,k⟩]
def pA (n:Nat):List Bl:=(List.range n).flatMap pW
def pB (w j:Nat):List Bl:=(List.range j).flatMap (pK w)
def pC (n m:Nat):List Bl:=(List.range m).flatMap fun w=>pB w n
def pE (e:Nat):List Bl:=(List.range e).map fun e=>⟨6,(e:Nat),0⟩
def Gz (n:Nat):List Bl:=pA n++pC n n++pE 4
theorem A8y (k:Nat):pA (k+1)=pA k++pW k:=Hj _ _
theorem A8z (w k:Nat):pB w (k+1)=pB w k++pK w k:=Hj _ _
theorem A80 (n k:Nat):pC n (k+1)=pC n k++pB k n:=Hj _ _
theorem B68 (k:Nat):pE (k+1)=pE k++[⟨6,(k:Nat),0⟩]:=by simp [pE,List.range_succ]
theorem A64 (k:Nat):(pA k).length=4 * k:=by
 induction k with
 |zero=>rfl
 |succ k ih=>rw [A8y,List.length_append,ih];rfl
theorem B8o (w k:Nat):(pK w k).length≤2:=by unfold pK;split<;>simp
theorem B4q (w k:Nat):(pB w k).length≤2 * k:=by
 induction k with
 |zero=>exact Nat.le_refl _
 |succ k ih=>rw [A8z,List.length_append];have:=B8o w k;omega
theorem A65 (n k:Nat)(hn:n≤4):(pC n k).length≤8 * k:=by
 induction k with
 |zero=>exact Nat.le_refl _
 |succ k ih=>rw [A80,List.length_append];have:=B4q k n;omega
theorem B4t (k:Nat):(pE k).length=k:=by simp [pE]
theorem H0 (n:Nat)(hn:n≤4):(Gz n).length≤52:=by
 have:=A65 n n hn
 simp only [Gz,List.length_append,A64,B4t];omega
end Go.Sx
set_option maxRecDepth 100000
namespace Go.Sx
open Go
variable {P : Program} {T : List (TypeId × TI)}
def bnd (s:AS) (x:Option Operand) (d:Int):Option Int:=
 match x with
 |none=>some d
 |some y=>match s.ev y with
  | .c (.val (.int _ v))=>some v
  |_=>none
def B70 (x:Option Value) (l d:Int):Prop:=(x=none∧l=d)∨∃k,x=some (.int k l)
theorem Iy {B:Au}{E:Cw}{a:Act}{w:World}{s:AS}(hs:s.is B E a w){x:Option Operand}{d l:Int}(h:bnd s x d=some l):B70 (x.map a.eval) l d:=by
 cases x with
 |none=>exact .inl ⟨rfl,(Option.some.inj h).symm⟩
 |some y=>
  refine .inr ?_
  simp only [bnd] at h
  have hd:=hs.ev y
  generalize s.ev y=z at h hd
  split at h
  ·rename_i k v
   obtain rfl:=Option.some.inj h
   have e:=B3 hd
   exact ⟨k,by simp [e]⟩
  ·cases h
def V4 (n es:Nat) (row:Nat→List A8) (l h:Int) (c:A8):Prop:=∃row',c= .sl (h-l).toNat es row'∧∀i,i<(h-l).toNat→row' i=row (l.toNat+i)
theorem A11 {t e:TypeId}{i j:TI}(hi:TI.of P t=some i)(he:i.elem=some e)(hj:TI.of P e=some j){a:Option Addr}{len cap:Nat}{lo hi':Option Value}{l h:Int}
  (hl:B70 lo l 0)(hh:B70 hi' h len)(h0:0≤l)(h1:l≤h)(h2:h≤len)(h3:len≤cap)(w:World):
  (Instr.sliceAt t (.slice a len cap) lo hi' none).run P w= .ok (sliced a l.toNat h.toNat cap j.size) w:=by
 have hu:=Bq hi he
 have hel:P.elem t=e:=by simp [Program.elem,hu]
 have hu':P.underlying t=some (.slice (P.elem t)):=by rw [hel];exact hu
 have hz:∀w,(sizeOf (P.elem t)).run P w= .ok j.size w:=fun w=>by rw [hel];exact Bc hj w
 rw [run_sliceAt_slice w t _ _ _ _ hu']
 rcases hl with ⟨rfl,rfl⟩|⟨k1,rfl⟩<;>rcases hh with ⟨rfl,rfl⟩|⟨k2,rfl⟩
 ·rw [run_slice_all w t a len cap hu',hz];simp [Result.andThen]
 ·rw [run_slice_h w t a len cap hu' k2 h h1 Ac,hz];simp [Result.andThen]
 ·rw [run_slice_l w t a len cap hu' k1 l h0 Ac,hz];simp [Result.andThen]
 ·rw [run_slice_lh w t a len cap hu' k1 k2 l h h0 h1 Ac,hz];simp [Result.andThen]
theorem B7d {w:World}{A:Nat→Prop}{n es:Nat}{row:Nat→List A8}{v:Value}(hr:O1 w A (.sl n es row) v){l h:Int}(h0:0≤l)(h1:l≤h)(h2:h≤n){c:A8}(hc:V4 n es row l h c):
  ∃a cap,v= .slice a n cap∧n≤cap∧O1 w A c (sliced a l.toNat h.toNat cap es):=by
 obtain ⟨row',rfl,hrow⟩:=hc
 cases hr with
 |nil=>
  refine ⟨none,0,rfl,Nat.le_refl _,?_⟩
  have e1:l=0:=by omega
  have e2:h=0:=by omega
  subst e1;subst e2
  exact .nil _ _
 |emp _ _ a=>
  refine ⟨some a,0,rfl,Nat.le_refl _,?_⟩
  have e1:l=0:=by omega
  have e2:h=0:=by omega
  subst e1;subst e2
  exact .emp _ _ a
 |sl _ _ _ b off cap u hA hn hcap hl hu hrr=>
  refine ⟨_,cap,rfl,hn,?_⟩
  obtain ⟨p,rfl⟩:∃p:Nat,l=p:=⟨l.toNat,by omega⟩
  obtain ⟨q,rfl⟩:∃q:Nat,h=q:=⟨h.toNat,by omega⟩
  have e:((q:Int)-p).toNat=q-p:=by omega
  simp only [Int.toNat_natCast] at hrow ⊢
  rw [e] at hrow ⊢
  unfold sliced
  by_cases hcl:cap=p
  ·have e1:q-p=0:=by omega
   have e2:cap-p=0:=by omega
   rw [if_pos hcl,e1,e2]
   exact .emp _ _ _
  ·rw [if_neg hcl]
   have ea:(some (⟨b,off,none⟩:Addr)).map (fun x=>x.add (p * es))=some ⟨b,off+p * es,none⟩:=by
    simp only [Option.map_some,Addr.add]
    split
    ·rename_i h;rw [h];rfl
    ·rfl
   have eb:(some (⟨b,off,none⟩:Addr)).map (·.add (p * es))=some ⟨b,off+p * es,none⟩:=ea
   rw [eb]
   refine .sl (q-p) es row' b (off+p * es) (cap-p) (fun i j=>u (p+i) j) (fun h=>hA ?_) Ac Ac (fun i hi=>?_) (fun i j hi hj=>?_) (fun i j c hi hj=>?_)
   ·exact Nat.lt_of_lt_of_le h (Nat.mul_le_mul_right _ Ac)
   ·rw [hrow i hi];exact hl _ Ac
   ·have:=hu (p+i) j Ac hj
    rw [Nat.add_mul] at this
    rw [show off+p * es+i * es+j=off+(p * es+i * es)+j by omega]
    exact this
   ·rw [hrow i hi] at hj
    exact hrr (p+i) j c Ac hj
theorem Xi (hT:C1 P T){B:Au}{Q:Exit→Act→World→Prop}{q:Bool}{all:Array Oper}{o:Oper}{rest:List Oper}{K:List KI}{s:AS}{t e:TypeId}{x:Operand}{lo hi:Option Operand}{i j:TI}
  (hg:o.guard=none)(ho:o.op= .slice t x lo hi none)(hi':A5r T t=some i)(he:i.elem=some e)(hj:A5r T e=some j)
  {n es:Nat}{row:Nat→List A8}(hx:s.ev x= .c (.sl n es row))(hes:es=j.size){l h:Int}(hl:bnd s lo 0=some l)(hh:bnd s hi n=some h)
  (hb:0≤l∧l≤h∧h≤n)(c:A8)(hc:V4 n es row l h c)
  (hgo:GW P B Q (.ops q all rest::K) (s.put o.dst (.c c))):GW P B Q (.ops q all (o::rest)::K) s:=by
 subst hes
 refine ⟨E6 hg (fun E a w hs=>?_)⟩
 have hd:=hs.ev x
 rw [hx] at hd
 cases hd with
 |c hr=>
  obtain ⟨ad,cap,hv,hcap,hrep⟩:=B7d hr hb.1 hb.2.1 hb.2.2 hc
  have h1:=Iy hs hl
  have h2:=Iy hs hh
  refine ⟨_,fun w' _=>?_,hgo.rec fun hg=>hg _ _ _ (hs.put o.dst (.c hrep))⟩
  have hrun:=A11 (a:=ad) (hT t i hi') he (hT e j hj) h1 h2 hb.1 hb.2.1 hb.2.2 hcap w'
  obtain ⟨dst,op',ty,pos,after,guard⟩:=o
  simp only at ho
  subst ho
  simp [execOp,hv,hrun]
theorem A15 {α:Type} [Inhabited α] {es:Nat}{e:α→List A8}{xs:List α}{l h:Int}(h0:0≤l)(h1:l≤h)(h2:h≤xs.length):
  V4 xs.length es (fun i=>e (xs.getD i default)) l h (Du es e ((xs.drop l.toNat).take (h-l).toNat)):=by
 have hlen:((xs.drop l.toNat).take (h-l).toNat).length=(h-l).toNat:=by simp;omega
 refine ⟨_,by rw [Du,hlen],fun i hi=>?_⟩
 simp [List.getD,hi]
end Go.Sx
set_option maxRecDepth 100000
namespace Go.Sx
open Go
open Go.RowKit (Below)
variable {P : Program} {T : List (TypeId × TI)}
def Uy (P:Program) (H:World→Prop) (f:FuncId) (ins outs:List Fv):Prop:=
 It P f∧∀(w:World),H w→∀(vs:List Value),vs.length=ins.length→(∀i x,ins[i]? =some x→Ku w (fun _=>False) x (vs.getD i undef))→
  Calls P f vs.toArray w fun e w'=>Jb w w' outs e
theorem B6a {H:World→Prop}{f:FuncId}{fn:Func}{c:Code}{ins outs:List Fv}(hf:P.funcs[f]? =some fn)(hb:fn.body=some c)(hn:(fn.name== "runtime.NumGoroutine")=false)
  (h:∀W,H W→G P ⟨W,fun _=>False⟩ (bodyPost P fn fun e w'=>Jb W w' outs e) [.code c] (A9o fn.ntmps ins)):Uy P H f ins outs:=by
 refine ⟨⟨fn,hf,hn,by simp [hb]⟩,fun w hH vs hl hv=>calls_of_wp hf hb ?_⟩
 refine h w hH ⟨fun _=> .slice none 0 0,fun _=>[]⟩ _ w ?_
 have nav:∀b,¬ (A9o fn.ntmps ins).avoid ⟨fun _=> .slice none 0 0,fun _=>[]⟩ b:=by
  rintro b (⟨x,hx,_⟩|⟨y,hy,_⟩)
  ·simp [A9o] at hx
  ·simp [A9o] at hy
 have nb:∀x,x∉(A9o fn.ntmps ins).boxes:=by simp [A9o]
 have no:∀x,x∉(A9o fn.ntmps ins).own:=by simp [A9o]
 refine ⟨rfl,by simp [A9o],by simp [A9o,hl],fun i x hx=>?_,fun x hx=>absurd hx (nb x),fun x hx=>absurd hx (nb x),by simp [A9o],fun y hy=>absurd hy (no y),by simp [A9o],fun y hy=>absurd hy (no y),fun x hx=>absurd hx (nb x),fun _ _=>rfl,
  ⟨rfl,rfl,rfl,Nat.le_refl _,fun _ _ _=>rfl⟩,fun b hb=>absurd hb (nav b)⟩
 simp only [A9o] at hx
 by_cases hi:i<ins.length
 ·rw [List.getElem?_append_left (by simpa using hi)] at hx
  simp only [List.getElem?_map,Option.map_eq_some_iff] at hx
  obtain ⟨y,hy,rfl⟩:=hx
  have hr:=hv i y hy
  have hiv:i<vs.length:=by omega
  have e:(vs.toArray++Array.replicate (fn.ntmps-vs.toArray.size) undef).getD i undef=vs.getD i undef:=by
   simp [Array.getD,List.getD,hiv,show i<vs.length+(fn.ntmps-vs.length) by omega]
  rw [e]
  cases y with
  |one c=>exact .c (hr.move (fun _ _ _=>rfl) (fun b _ hb=>absurd hb (nav b)))
  |agg cs=>
   obtain ⟨us,hu,hul,hur⟩:=hr
   rw [hu]
   refine .agg us (by simp [hul]) (fun j x hj=>?_)
   simp only [List.getElem?_map,Option.map_eq_some_iff] at hj
   obtain ⟨c,hc,rfl⟩:=hj
   exact .c ((hur j c hc).move (fun _ _ _=>rfl) (fun b _ hb=>absurd hb (nav b)))
  |ptr cs=>exact hr.den (fun b hb=>absurd hb (nav b))
  |fn f caps=>
   obtain ⟨us,hu,hul,hur⟩:=hr
   rw [hu]
   refine .fn us (by simp [hul]) (fun j x hj=>?_)
   simp only [List.getElem?_map,Option.map_eq_some_iff] at hj
   obtain ⟨c,hc,rfl⟩:=hj
   have hr:=hur j c hc
   cases c with
   |one c=>exact .c (O1.move hr (fun _ _ _=>rfl) (fun b _ hb=>absurd hb (nav b)))
   |ptr cs=>exact M3.den hr (fun b hb=>absurd hb (nav b))
 ·rw [List.getElem?_append_right (by simp;omega)] at hx
  obtain rfl:AV.any=x:=by
   have:=List.mem_of_getElem? hx
   simpa using (List.eq_of_mem_replicate this).symm
  exact .any _
theorem B26 (hT:C1 P T)(wr:Bool){H:World→Prop}{f:FuncId}{fn:Func}{c:Code}{ins outs:List Fv}(hf:P.funcs[f]? =some fn)(hb:fn.body=some c)(hn:(fn.name== "runtime.NumGoroutine")=false)
  (h:∀W,H W→Xv P ⟨W,fun _=>False⟩ (bodyPost P fn fun e w'=>Jb W w' outs e) (Mp T wr 100000 [.code c] (A9o fn.ntmps ins))):Uy P H f ins outs:=
 B6a hf hb hn fun W hW=>(go hT wr (h W hW)).rec id
end Go.Sx
set_option maxRecDepth 100000
namespace Go.Sx
open Go
def dec (n:Int):ByteArray:=⟨(Lib.itoa n).toArray⟩
end Go.Sx
set_option maxRecDepth 100000
namespace Go.Sx
open Go
open Go.RowKit (Below)
variable {P : Program}
theorem bsz (a:Array UInt8):(ByteArray.mk a).size=a.size:=rfl
theorem Az {n lo hi:Int}:Eg n lo hi=false↔¬ (lo≤n∧n≤hi):=by
 rw [←Am];simp
end Go.Sx
set_option maxRecDepth 100000
namespace Go.Sx
open Go
open Go.RowKit (Below)
variable {P : Program} {T : List (TypeId × TI)}
theorem B77 (hT:C1 P T)(wr:Bool){J:Type}{B:Au}{Q:Exit→Act→World→Prop}{c:Code}{K:List KI}{s:AS}(fs:List Nat)(us:J→List (Nat×AV))(bs:J→List Bx)(os:J→List Ow)(φ:J→Prop)
  (h1:Xv P B Q (Mp T wr 100000 (.code c:: .loop (Inv B (fun j=>s.upd fs (us j) (bs j) (os j)) φ (fun _=>0) 1)::K) s))
  (h2:∀j,φ j→Xv P B Q (upK s.slots 0 fs (us j) fun slots=>Mp T wr 100000 K {s with slots:=slots,boxes:=bs j,own:=os j})):GW P B Q (.code c::K) s:=by
 refine ⟨fun E a w hs=>?_⟩
 have g1:G P B Q (.code c:: .loop (Inv B (fun j=>s.upd fs (us j) (bs j) (os j)) φ (fun _=>0) 1)::K) s:=(go hT wr h1).rec id
 refine Code.wp_mono (fun e a' w' hq=>?_) (g1 E a w hs)
 cases e with
 |normal=>
  obtain ⟨j,hj,_,E',hE'⟩:=(hq:Inv B (fun j=>s.upd fs (us j) (bs j) (os j)) φ (fun _=>0) 1 a' w')
  have g2:G P B Q K (s.upd fs (us j) (bs j) (os j)):=(go hT wr (by have:=h2 j hj;rw [B5q] at this;exact this)).rec id
  exact g2 E' a' w' hE'
 |exit id=>exact hq
 |goto l=>exact hq
 |ret=>exact hq
 |panic c=>exact hq
 |outgrown=>exact hq
theorem B25 (n:Nat)(hT:C1 P T)(wr:Bool){f:FuncId}{fn:Func}{c:Code}{ins outs:List Fv}(hf:P.funcs[f]? =some fn)(hb:fn.body=some c)(hn:(fn.name== "runtime.NumGoroutine")=false)
  (h:∀W,Xv P ⟨W,fun _=>False⟩ (bodyPost P fn fun e w'=>Jb W w' outs e) (Mp T wr n [.code c] (A9o fn.ntmps ins))):B0 P f ins outs:=
 enter hf hb hn fun W=>C4z hT wr n _ _ (A7t _ (h W))
theorem goF (n:Nat)(hT:C1 P T)(wr:Bool){B:Au}{Q:Exit→Act→World→Prop}{K:List KI}{s:AS}(h:Xv P B Q (Mp T wr n K s)):GW P B Q K s:=
 ⟨C4z hT wr n _ _ (A7t _ h)⟩
end Go.Sx
set_option maxRecDepth 100000
namespace Go.Sx
open Go
open Go.RowKit (Below)
variable {P : Program} {T : List (TypeId × TI)}
end Go.Sx
set_option maxRecDepth 100000
namespace Go.Sx
open Go
variable {P : Program} {T : List (TypeId × TI)}
end Go.Sx
set_option maxRecDepth 100000
namespace Go.Sx
open Go
def isD (b:UInt8):Prop:=48≤b.toNat∧b.toNat≤57
instance (b:UInt8):Decidable (isD b):=by unfold isD;infer_instance
def B9e (n:Nat) (b:UInt8):Nat:=10 * n+(b.toNat-48)
def B78 (acc:Nat) (l:List UInt8):Nat:=l.foldl B9e acc
def rd (s:ByteArray):Option Nat:=if B78 0 s.data.toList≤1000000000∧dec (B78 0 s.data.toList:Nat)=s then some (B78 0 s.data.toList) else none
end Go.Sx
set_option maxRecDepth 100000
namespace Go.Sx
open Go
def okB (s:ByteArray):Prop:=∀b∈s.data.toList,32≤b.toNat∧b.toNat≤126
instance (s:ByteArray):Decidable (okB s):=by unfold okB;infer_instance
def B6b (s:ByteArray):List ByteArray:=(Lib.fields s.data.toList).map fun l=>⟨l.toArray⟩
def B13 (s:ByteArray):Prop:=s.size≤600∧okB s∧(B6b s).length≤12
instance (s:ByteArray):Decidable (B13 s):=by unfold B13;infer_instance
end Go.Sx
set_option maxRecDepth 100000
namespace Go.Sx
open Go
end Go.Sx
set_option maxRecDepth 100000
namespace Go.Sx
open Go
end Go.Sx
set_option maxRecDepth 100000
namespace Go.Sx
open Go
open Go.RowKit (Below)
variable {P : Program} {T : List (TypeId × TI)}
theorem RW.mono {B:Au}{Q Q':Exit→Act→World→Prop}{s:AS}(h:∀a w,Q .ret a w→Q' .ret a w)(hr:RW B Q s):RW B Q' s:=
 ⟨fun E a w hs=>h a w (hr.rec (fun g=>g E a w hs))⟩
end Go.Sx
