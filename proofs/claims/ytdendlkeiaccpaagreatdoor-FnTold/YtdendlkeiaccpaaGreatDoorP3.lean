/- Part 3 of the proof that each of the laws FnTold returns true for every input. No conditions. -/
import Derived.Test.YtdendlkeiaccpaaGreatDoorP2
import Derived.Laws.BytesArg
import Derived.Lib.ItoaNum
import Derived.Sort.Grow
import Derived.Deep.Draws
import Derived.Lib.ItoaLen
import Derived.Lib.Join
import Derived.WideLaws
import Derived.Laws.Strings2
import Derived.Lib.AtoiAll
import Derived.Lib.Fields

set_option linter.unusedSimpArgs false
set_option linter.unusedVariables false
namespace Go.Sx
open Go.RowKit (Below)
variable {P : Program} {T : List (TypeId × TI)}
theorem GW.out {B:Ax}{Q:Exit→Act→World→Prop}{K:List KI}{s:AS}(h:GW P B Q K s):G P B Q K s:=h.rec fun h=>h
theorem V0 {w:World}{n es:Nat}{row:Nat→List Ac}{b off cap:Nat}{ty:TypeId}{cells:Array Value}{fps:Nat→List Nat}(hn:n≤cap)(hc:cap≤maxLen)
  (hb:w.heap[b]? =some (.cells cells ty (0,0)))(hs:(off+cap) * es≤cells.size)(hl:∀i,i<n→(row i).length=es)
  (hr:∀i j c,i<n→(row i)[j]? =some c→C5 w c (cells.getD ((off+i) * es+j) undef) (fps (i * es+j)))
  (hnd:(b::(List.range (n * es)).flatMap fps).Nodup)
  {j o:Nat}(hj:j<n)(ho:o<es){c:Ac}{g:List Nat}(hg:C5 w c (cells.getD ((off+j) * es+o) undef) g)(hgn:g.Nodup)
  (hgd:∀x∈g,x≠b∧∀k,k<n * es→k≠j * es+o→x∉fps k){c':Ac}(hu:O8 n es row j o [c] c'):
  C5 w c' (.slice (some ⟨b,off * es,none⟩) n cap) (b::(List.range (n * es)).flatMap (fun k=>if k=j * es+o then g else fps k))∧
   (b::(List.range (n * es)).flatMap (fun k=>if k=j * es+o then g else fps k)).Nodup:=by
 obtain ⟨row',rfl,hu1,hu2⟩:=hu
 obtain ⟨hb0,hnd1⟩:=List.nodup_cons.1 hnd
 constructor
 ·refine .sl n es row' b off cap ty cells _ hn hc hb hs (fun i hi=>?_) (fun i m d hi hd=>?_)
  ·by_cases e:i=j
   ·subst e
    rw [hu2]
    simp [D4,hl i hi]
    omega
   rw [hu1 i hi e];exact hl i hi
  by_cases e:i=j
  ·subst e
   rw [hu2] at hd
   have hl1:(List.take o (row i)).length=o:=by simp [hl i hi];omega
   simp only [D4] at hd
   by_cases h1:m=o
   ·subst h1
    rw [if_pos rfl]
    rw [List.append_assoc,List.getElem?_append_right Ab,hl1,Nat.sub_self] at hd
    simp only [List.cons_append,List.getElem?_cons_zero,Option.some.injEq] at hd
    subst hd
    exact hg
   rw [if_neg Ab]
   refine hr i m d hi ?_
   by_cases h2:m<o
   ·rw [List.append_assoc,List.getElem?_append_left Ab,List.getElem?_take,if_pos h2] at hd
    exact hd
   rw [List.getElem?_append_right (by simp [hl i hi];omega)] at hd
   simp only [List.length_append,hl1,List.getElem?_drop,List.length_singleton] at hd
   rwa [show o+1+(m-(o+1))=m by omega] at hd
  rw [hu1 i hi e] at hd
  have hml:m<es:=by have:=(List.getElem?_eq_some_iff.1 hd).1;rw [hl i hi] at this;exact this
  have hne:i * es+m≠j * es+o:=by
   intro h
   rcases Nat.lt_or_gt_of_ne e with h'|h'
   ·have:(i+1) * es≤j * es:=Nat.mul_le_mul_right _ h'
    rw [Nat.add_mul] at this
    omega
   have:(j+1) * es≤i * es:=Nat.mul_le_mul_right _ h'
   rw [Nat.add_mul] at this
   omega
  rw [if_neg hne]
  exact hr i m d hi hd
 obtain ⟨f1,f2⟩:=C3.1 hnd1
 refine List.nodup_cons.2 ⟨fun h=>?_,C3.2 ⟨fun k hk=>?_,?_⟩⟩
 ·obtain ⟨k,hk,hx⟩:=List.mem_flatMap.1 h
  split at hx
  ·exact (hgd b hx).1 rfl
  exact hb0 (Dc (List.mem_range.1 hk) hx)
 ·split
  ·exact hgn
  exact f1 k hk
 refine List.Pairwise.imp_of_mem ?_ ((List.nodup_range (n:=n * es)).and f2)
 intro p q hp hq ⟨hne,hpq⟩ z hz hz'
 split at hz
 ·split at hz'
  ·omega
  exact (hgd z hz).2 q (List.mem_range.1 hq) (by assumption) hz'
 split at hz'
 ·exact (hgd z hz').2 p (List.mem_range.1 hp) (by assumption) hz
 exact hpq z hz hz'
def Ky (c:Ac):Bool:=
 match c with
 | .sl _ _ _=>true
 |_=>false
theorem C6 (hT:C7 P T){B:Ax}{Q:Exit→Act→World→Prop}{q:Bool}{all:Array Oper}{o:Oper}{rest:List Oper}{K:List KI}{s:AS}{x:Operand}{t:TypeId}{i:TI}
  (hg:o.guard=none)(ho:o.op= .load t x)(hi:find T t=some i)(hag:i.agg=false){k es off n:Nat}{j:Int}{row:Nat→List Ac}
  (hx:s.ev x= .oel k es j off)(hk:Bs s.own k=some (.sl n es row)){c:Ac}(hc:(row j.toNat)[off]? =some c)
  (h:∀v,GW P B Q (.ops q all rest::K) (({s with own:=⟨s.next,c⟩::⟨k,.sl n es fun i=>if i=j.toNat then D4 (row i) off [.val v] else row i⟩::Bk [k] s.own,next:=s.next+1,links:=(s.next,v)::s.links}:AS).put o.dst (.own s.next))):
  GW P B Q (.ops q all (o::rest)::K) s:=by
 refine ⟨Dw hg (fun E a w hs=>?_)⟩
 have hm:=C2 hk
 obtain ⟨hklt,o2,o3⟩:=hs.own _ hm
 simp only at o2 o3 hklt
 have hev:=hs.ev x
 rw [hx] at hev
 generalize hv:a.eval x=v at hev
 cases hev with
 |oel _ b o' n' cap hkl hov h0 hj=>
  rw [hov] at o2
  generalize hfp:E.fp k=fp at o2 o3
  obtain ⟨jn,rfl⟩:=Int.eq_ofNat_of_zero_le h0
  simp only [Int.toNat_natCast,Int.ofNat_lt] at *
  cases o2 with
  |emp=>exact absurd hj (Nat.not_lt_zero _)
  |sl _ _ _ _ offb _ ty cells fps hn hcp hb hcs hl hr=>
   have hoff:off<es:=by have:=(List.getElem?_eq_some_iff.1 hc).1;rwa [hl jn hj] at this
   have hin:=hr jn off c hj hc
   obtain ⟨hb0,hnd1⟩:=List.nodup_cons.1 o3
   obtain ⟨f1,f2⟩:=C3.1 hnd1
   have hpos:jn * es+off<n * es:=Et hj hoff
   have hcl:(offb+jn) * es+off<cells.size:=by
    have:=Et (show offb+jn<offb+cap by omega) hoff
    omega
   generalize hu:cells.getD ((offb+jn) * es+off) undef=u at hin
   have hdis:∀z∈fps (jn * es+off),z≠b∧∀k,k<n * es→k≠jn * es+off→z∉fps k:=by
    intro z hz
    refine ⟨fun e=>hb0 (e▸Dc hpos hz),fun k hk hne hz'=>?_⟩
    have hp:=List.pairwise_iff_getElem.1 f2
    rcases Nat.lt_or_gt_of_ne hne with h'|h'
    ·have:=hp k (jn * es+off) (by simpa using hk) (by simpa using hpos) h' z
     simp only [List.getElem_range] at this
     exact this hz' hz
    have:=hp (jn * es+off) k (by simpa using hpos) (by simpa using hk) h' z
    simp only [List.getElem_range] at this
    exact this hz hz'
   have hone:u.oneCell'=true:=hin.one
   obtain ⟨s1,s2⟩:=V0 hn hcp hb hcs hl hr o3 hj hoff (c:= .val u) (g:=[]) (by rw [hu];exact .val u hone) Bw Bw
    (c':= .sl n es fun i=>if i=jn then D4 (row i) off [.val u] else row i) ⟨_,rfl,fun i _ hne=>by simp [hne],by simp⟩
   have hI:=hs.drop [k]
   have key:∀z,z∈b::(List.range (n * es)).flatMap fps→s.avoid E z∧¬ ({s with own:=Bk [k] s.own}:AS).avoid E z∧B.fresh z:=by
    intro z hz
    have hzk:z∈E.fp k:=by rw [hfp];exact hz
    have hav:s.avoid E z:= .inr ⟨_,hm,hzk⟩
    refine ⟨hav,?_,hs.fresh z hav⟩
    rintro (⟨r,hr',rfl⟩|⟨r,hr',hz'⟩)
    ·exact hs.sepB r hr' _ hm hzk
    obtain ⟨q1,q2⟩:=C4.1 hr'
    exact hs.sep _ hm r q1 (fun e=>q2 (by simp at e;simp [e])) z hzk hz'
   have sub1:∀z,z∈b::(List.range (n * es)).flatMap (fun k=>if k=jn * es+off then [] else fps k)→z∈b::(List.range (n * es)).flatMap fps:=by
    intro z hz
    rcases List.mem_cons.1 hz with rfl|hz
    ·simp
    obtain ⟨p,hp,hz⟩:=List.mem_flatMap.1 hz
    split at hz
    ·simp at hz
    exact List.mem_cons_of_mem _ (List.mem_flatMap.2 ⟨p,hp,hz⟩)
   have hI3:=hI.addAt (k:=k) hklt (fun y' hy=>fun e=>(C4.1 hy).2 (by rw [e];simp)) (by rw [hov];exact s1) s2 (fun z hz=>key z (sub1 z hz))
   have hav3:∀z,z∈fps (jn * es+off)→¬ ({s with own:=⟨k,.sl n es fun i=>if i=jn then D4 (row i) off [.val u] else row i⟩::Bk [k] s.own}:AS).avoid (E.setFp k (b::(List.range (n * es)).flatMap (fun k=>if k=jn * es+off then [] else fps k))) z:=by
    intro z hz
    have hzin:z∈b::(List.range (n * es)).flatMap fps:=List.mem_cons_of_mem _ (Dc hpos hz)
    rintro (⟨r,hr',rfl⟩|⟨r,hr',hz'⟩)
    ·exact (key _ hzin).2.1 (.inl ⟨r,hr',rfl⟩)
    rcases List.mem_cons.1 hr' with rfl|hr'
    ·simp only [Cv.setFp,if_true] at hz'
     rcases List.mem_cons.1 hz' with rfl|hz'
     ·exact (hdis _ hz).1 rfl
     obtain ⟨p,hp,hz'⟩:=List.mem_flatMap.1 hz'
     split at hz'
     ·simp at hz'
     exact (hdis z hz).2 p (List.mem_range.1 hp) (by assumption) hz'
    have hne:r.key≠k:=fun e=>(C4.1 hr').2 (by rw [e];simp)
    simp only [Cv.setFp,hne,if_false] at hz'
    exact (key z hzin).2.1 (.inr ⟨r,hr',hz'⟩)
   obtain ⟨k1,k2⟩:=hI3.addOwn hin (f1 _ (List.mem_range.2 hpos)) (fun z hz=>⟨(key z (List.mem_cons_of_mem _ (Dc hpos hz))).1,hav3 z hz,(key z (List.mem_cons_of_mem _ (Dc hpos hz))).2.2⟩)
   have k3:({s with own:=⟨s.next,c⟩::⟨k,.sl n es fun i=>if i=jn then D4 (row i) off [.val u] else row i⟩::Bk [k] s.own,next:=s.next+1,links:=(s.next,u)::s.links}:AS).isA B
     ((E.setFp k (b::(List.range (n * es)).flatMap (fun k=>if k=jn * es+off then [] else fps k))).withOwn s.next u (fps (jn * es+off))) (s.avoid E) a w:=by
    refine ⟨k1.defers,fun p hp=>?_,k1.size,k1.slots,k1.boxes,k1.boxes2,k1.keys,k1.own,k1.ownkeys,k1.sep,k1.sepB,k1.one,k1.base,k1.fresh,k1.sub⟩
    rcases List.mem_cons.1 hp with rfl|hp
    ·exact ⟨Nat.lt_succ_self _,by simp [Cv.withOwn]⟩
    exact k1.links p hp
   refine ⟨u,fun w' hkw=>?_,(h u).out _ _ w ((k3.put o.dst k2).is)⟩
   obtain ⟨dst,op',ty',pos,after,guard⟩:=o
   simp only at ho
   subst ho
   obtain ⟨f,d,z,S⟩:=TI.of_spec (hT t i hi)
   have hd:H3 d=false:=by rw [←S.agg];exact hag
   have h1:=S.one hd
   have hrun:=G7 (hT t i hi) w' b (offb * es+jn * es+off) ((List.range i.size).map fun _=>u) Bw (fun p hp=>by
    obtain rfl:p=0:=by omega
    refine hkw.cell ?_
    rw [show offb * es+jn * es+off+0=(offb+jn) * es+off by rw [Nat.add_mul];omega,cell_of_row w b _ cells ty (0,0) hb]
    simp only [h1,List.range_one,List.map_cons,List.map_nil,List.getD_cons_zero]
    rw [←hu,Array.getD_eq_getD_getElem?]
    simp [hcl])
   simp only [execOp,hv,Instr.loadAt,Instr.sureAddr,Sem.run_bind,Sem.run_pure,Result.andThen_ok,hrun,hag,h1]
   rfl
theorem B16 {B:Ax}{Q:Exit→Act→World→Prop}{K:List KI}{s:AS}(k k2:Nat){n es:Nat}{row:Nat→List Ac}{j off:Nat}{v:Value}{c:Ac}(hk:Bs s.own k=some (.sl n es row))
  (hj:j<n)(hc:(row j)[off]? =some (.val v))(h2:Bs s.own k2=some c)(hl:Dl s.links k2=some v)(hne:Nat.beq k k2=false)(c':Ac)(hu:O8 n es row j off [c] c')
  (h:GW P B Q K {s with own:=⟨k,c'⟩::Bk [k,k2] s.own}):GW P B Q K s:=by
 refine ⟨fun E a w hs=>?_⟩
 have hm:=C2 hk
 have hm2:=C2 h2
 have hkk:k≠k2:=fun e=>by subst e;simp at hne
 obtain ⟨hklt,o2,o3⟩:=hs.own _ hm
 obtain ⟨hklt2,p2,p3⟩:=hs.own _ hm2
 simp only at o2 o3 hklt p2 p3 hklt2
 have hlv:=(hs.links _ (Es hl)).2
 simp only at hlv
 have hI:=hs.drop [k,k2]
 have key:∀z,(z∈E.fp k∨z∈E.fp k2)→s.avoid E z∧¬ ({s with own:=Bk [k,k2] s.own}:AS).avoid E z∧B.fresh z:=by
  intro z hz
  have:∃y∈s.own,y.key∈[k,k2]∧z∈E.fp y.key:=by
   rcases hz with hz|hz
   ·exact ⟨_,hm,by simp,hz⟩
   exact ⟨_,hm2,by simp,hz⟩
  obtain ⟨y,hy,hyk,hz⟩:=this
  have hav:s.avoid E z:= .inr ⟨_,hy,hz⟩
  refine ⟨hav,?_,hs.fresh z hav⟩
  rintro (⟨r,hr',rfl⟩|⟨r,hr',hz'⟩)
  ·exact hs.sepB r hr' _ hy hz
  obtain ⟨q1,q2⟩:=C4.1 hr'
  exact hs.sep _ hy r q1 (fun e=>q2 (e▸hyk)) z hz hz'
 have hsep:=hs.sep _ hm _ hm2 hkk
 generalize hov:E.ov k=vv,hfp:E.fp k=fp at o2 o3
 cases o2 with
 |nil=>omega
 |emp=>omega
 |sl _ _ _ b offb cap ty cells fps hn hcp hb hcs hl' hr=>
  have hoff:off<es:=by have:=(List.getElem?_eq_some_iff.1 hc).1;rwa [hl' j hj] at this
  have hin:=hr j off _ hj hc
  generalize hu':cells.getD ((offb+j) * es+off) undef=u at hin
  have huv:u=v:=by
   revert hin
   generalize fps (j * es+off)=g
   intro hin
   cases hin;rfl
  obtain ⟨s1,s2⟩:=V0 hn hcp hb hcs hl' hr o3 hj hoff (c:=c) (g:=E.fp k2) (by rw [hu',huv,←hlv];exact p2) p3 (fun z hz=>by
   refine ⟨fun e=>?_,fun p hp _ hz'=>?_⟩
   ·subst e
    exact hsep z (by simp only [hfp];simp) hz
   exact hsep z (by simp only [hfp];exact List.mem_cons_of_mem _ (Dc hp hz')) hz) hu
  have hI3:=hI.addAt (k:=k) hklt (fun y' hy=>fun e=>(C4.1 hy).2 (by rw [e];simp)) (by rw [hov];exact s1) s2 (fun z hz=>by
   rcases List.mem_cons.1 hz with rfl|hz
   ·exact key z (.inl (by rw [hfp];simp))
   obtain ⟨p,hp,hz⟩:=List.mem_flatMap.1 hz
   split at hz
   ·exact key z (.inr hz)
   exact key z (.inl (by rw [hfp];exact List.mem_cons_of_mem _ (List.mem_flatMap.2 ⟨p,hp,hz⟩))))
  exact h.out _ a w hI3.is
theorem A7o {B:Ax}{Q:Exit→Act→World→Prop}{K:List KI}{s:AS}(i es:Nat)(row:Nat→List Ac)(hi:Gh s.slots i= .c (.val (.slice none 0 0)))
  (h:GW P B Q K {s with slots:=Ce s.slots i (.own s.next),own:=⟨s.next,.sl 0 es row⟩::s.own,next:=s.next+1}):GW P B Q K s:=by
 refine ⟨fun E a w hs=>?_⟩
 have hI:s.isA B E (s.avoid E) a w:=⟨hs.defers,hs.links,hs.size,hs.slots,hs.boxes,hs.boxes2,hs.keys,hs.own,hs.ownkeys,hs.sep,hs.sepB,hs.one,hs.base,hs.fresh,fun _ h=>h⟩
 obtain ⟨k1,k2⟩:=hI.addOwn (.nil es row) Bw Bw
 have k3:=k1.is
 refine h.out (E.withOwn s.next (.slice none 0 0) []) a w ⟨k3.defers,k3.links,by rw [k3.size];exact (Ca _ _ _).symm,fun m z hz=>?_,k3.boxes,k3.boxes2,k3.keys,k3.own,k3.ownkeys,k3.sep,k3.sepB,k3.one,k3.base,k3.fresh⟩
 simp only at hz
 rw [D8] at hz
 split at hz
 ·rename_i hm
  obtain ⟨rfl,hm⟩:=hm
  obtain rfl:=Option.some.inj hz
  have hd:=hs.slots i (.c (.val (.slice none 0 0))) (by rw [Cl,List.getElem?_eq_getElem hm] at hi;rw [List.getElem?_eq_getElem hm];simpa using hi)
  rw [Bc hd]
  have:Cm (E.withOwn s.next (.slice none 0 0) []) w _ _ (.own s.next) (.slice none 0 0):=k2
  exact this.move (Nat.le_refl _) (fun _ _=>⟨rfl,rfl⟩) (fun _ _ _=>rfl) (fun b _ hb=>k1.sub b hb)
 exact k3.slots m z hz
end Go.Sx
namespace Go.Sx
abbrev At (xs:List Int):Ac:=Is 1 (fun n=>[vi n]) xs
abbrev Ek (xs:List Bool):Ac:=Is 1 (fun b=>[vb b]) xs
abbrev G0 (xs:List ByteArray):Ac:=Is 1 (fun b=>[vs b]) xs
structure Ec where
 epoch:Int
 turn:Int
 deriving Inhabited,DecidableEq
def Ec.c (x:Ec):List Ac:=[vi x.epoch,vi x.turn]
structure Mx where
 stamp:Ec
 n:Int
 deriving Inhabited,DecidableEq
def Mx.c (x:Mx):List Ac:=[vi x.stamp.epoch,vi x.stamp.turn,vi x.n]
structure Ae where
 op:Int
 stamp:Ec
 key:Int
 val:Int
 deriving Inhabited,DecidableEq
def Ae.c (x:Ae):List Ac:=[vi x.op,vi x.stamp.epoch,vi x.stamp.turn,vi x.key,vi x.val]
abbrev Ah (xs:List Ae):Ac:=Is 5 Ae.c xs
structure Bv where
 cap:Int
 queue:List Ae
 credits:Int
 back:Int
 sent:Int
 got:Int
 deriving Inhabited,DecidableEq
def Bv.c (x:Bv):List Ac:=[vi x.cap,Ah x.queue,vi x.credits,vi x.back,vi x.sent,vi x.got]
abbrev Cy (xs:List Bv):Ac:=Is 6 Bv.c xs
structure Aq where
 kind:Int
 a:Int
 b:Int
 outs:List Int
 deriving Inhabited,DecidableEq
def Aq.c (x:Aq):List Ac:=[vi x.kind,vi x.a,vi x.b,At x.outs]
abbrev Bp (xs:List Aq):Ac:=Is 4 Aq.c xs
structure Ap where
 nodes:List Aq
 workers:Int
 cap:Int
 deriving Inhabited,DecidableEq
def Ap.c (x:Ap):List Ac:=[Bp x.nodes,vi x.workers,vi x.cap]
structure Ag where
 op:Int
 epoch:Int
 key:Int
 val:Int
 deriving Inhabited,DecidableEq
def Ag.c (x:Ag):List Ac:=[vi x.op,vi x.epoch,vi x.key,vi x.val]
abbrev Ak (xs:List Ag):Ac:=Is 4 Ag.c xs
structure Ep where
 epoch:Int
 capped:Bool
 deriving Inhabited,DecidableEq
def Ep.c (x:Ep):List Ac:=[vi x.epoch,vb x.capped]
abbrev Hv (xs:List Ep):Ac:=Is 2 Ep.c xs
structure A9 where
 queue:List Ae
 staged:List Ae
 inputs:List Ae
 cells:List Ag
 sums:List Int
 black:List Bool
 caps:List Bool
 dones:List Ep
 deriving Inhabited,DecidableEq
def A9.c (x:A9):List Ac:=[Ah x.queue,Ah x.staged,Ah x.inputs,Ak x.cells,At x.sums,Ek x.black,Ek x.caps,Hv x.dones]
abbrev Av (xs:List A9):Ac:=Is 8 A9.c xs
structure D0 where
 going:Bool
 at_:Int
 sum:Int
 black:Bool
 capped:Bool
 deriving Inhabited,DecidableEq
def D0.c (x:D0):List Ac:=[vb x.going,vi x.at_,vi x.sum,vb x.black,vb x.capped]
abbrev C9 (xs:List D0):Ac:=Is 5 D0.c xs
structure Fy where
 to_:Int
 epoch:Int
 capped:Bool
 deriving Inhabited,DecidableEq
def Fy.c (x:Fy):List Ac:=[vi x.to_,vi x.epoch,vb x.capped]
abbrev Cj (xs:List Fy):Ac:=Is 3 Fy.c xs
structure A5 where
 graph:Ap
 workers:List A9
 links:List Bv
 tokens:List D0
 news:List Fy
 deriving Inhabited,DecidableEq
def A5.c (x:A5):List Ac:=[Bp x.graph.nodes,vi x.graph.workers,vi x.graph.cap,Av x.workers,Cy x.links,C9 x.tokens,Cj x.news]
structure Cz where
 kind:Int
 a:Int
 b:Int
 deriving Inhabited,DecidableEq
def Cz.c (x:Cz):List Ac:=[vi x.kind,vi x.a,vi x.b]
abbrev Fg (xs:List Cz):Ac:=Is 3 Cz.c xs
structure Kf where
 graph:Ap
 inputs:List Ae
 picks:List Cz
 rounds:Int
 deriving Inhabited,DecidableEq
def Kf.c (x:Kf):List Ac:=[Bp x.graph.nodes,vi x.graph.workers,vi x.graph.cap,Ah x.inputs,Fg x.picks,vi x.rounds]
def wS {α:Type} (w:α→Nat) (xs:List α):Nat:=xs.length+(xs.map w).sum
def Ec.ok (x:Ec):Prop:=Ee .i64 x.epoch∧Ee .i64 x.turn
def Mx.ok (x:Mx):Prop:=x.stamp.ok∧Ee .i64 x.n
def Ae.ok (x:Ae):Prop:=Ee .i64 x.op∧x.stamp.ok∧Ee .i64 x.key∧Ee .i64 x.val
def Bv.w (x:Bv):Nat:=x.queue.length
def Bv.ok (x:Bv):Prop:=Ee .i64 x.cap∧(x.queue.length≤maxLen∧∀y∈x.queue,y.ok)∧Ee .i64 x.credits∧Ee .i64 x.back∧Ee .i64 x.sent∧Ee .i64 x.got
def Aq.w (x:Aq):Nat:=x.outs.length
def Aq.ok (x:Aq):Prop:=Ee .i64 x.kind∧Ee .i64 x.a∧Ee .i64 x.b∧(x.outs.length≤maxLen∧∀y∈x.outs,Ee .i64 y)
def Ap.w (x:Ap):Nat:=wS Aq.w x.nodes
def Ap.ok (x:Ap):Prop:=(x.nodes.length≤maxLen∧∀y∈x.nodes,y.ok)∧Ee .i64 x.workers∧Ee .i64 x.cap
def Ag.ok (x:Ag):Prop:=Ee .i64 x.op∧Ee .i64 x.epoch∧Ee .i64 x.key∧Ee .i64 x.val
def Ep.ok (x:Ep):Prop:=Ee .i64 x.epoch
def A9.w (x:A9):Nat:=x.queue.length+x.staged.length+x.inputs.length+x.cells.length+x.sums.length+x.black.length+x.caps.length+x.dones.length
def A9.ok (x:A9):Prop:=(x.queue.length≤maxLen∧∀y∈x.queue,y.ok)∧(x.staged.length≤maxLen∧∀y∈x.staged,y.ok)∧(x.inputs.length≤maxLen∧∀y∈x.inputs,y.ok)∧(x.cells.length≤maxLen∧∀y∈x.cells,y.ok)∧(x.sums.length≤maxLen∧∀y∈x.sums,Ee .i64 y)∧x.black.length≤maxLen∧x.caps.length≤maxLen∧(x.dones.length≤maxLen∧∀y∈x.dones,y.ok)
def D0.ok (x:D0):Prop:=Ee .i64 x.at_∧Ee .i64 x.sum
def Fy.ok (x:Fy):Prop:=Ee .i64 x.to_∧Ee .i64 x.epoch
def A5.w (x:A5):Nat:=x.graph.w+wS A9.w x.workers+wS Bv.w x.links+x.tokens.length+x.news.length
def A5.ok (x:A5):Prop:=x.graph.ok∧(x.workers.length≤maxLen∧∀y∈x.workers,y.ok)∧(x.links.length≤maxLen∧∀y∈x.links,y.ok)∧(x.tokens.length≤maxLen∧∀y∈x.tokens,y.ok)∧(x.news.length≤maxLen∧∀y∈x.news,y.ok)
def Cz.ok (x:Cz):Prop:=Ee .i64 x.kind∧Ee .i64 x.a∧Ee .i64 x.b
def Kf.w (x:Kf):Nat:=x.graph.w+x.inputs.length+x.picks.length
def Kf.ok (x:Kf):Prop:=x.graph.ok∧(x.inputs.length≤maxLen∧∀y∈x.inputs,y.ok)∧(x.picks.length≤maxLen∧∀y∈x.picks,y.ok)∧Ee .i64 x.rounds
theorem B4n {α:Type} [Inhabited α] (w:α→Nat)(xs:List α)(k:Nat)(hk:k<xs.length):((xs.take (k+1)).map w).sum=((xs.take k).map w).sum+w (xs.getD k default):=by
 rw [List.take_add_one,List.map_append,List.sum_append,List.getElem?_eq_getElem hk]
 simp [List.getD,hk]
theorem H5 {α:Type} [Inhabited α] (w:α→Nat)(xs:List α)(k:Nat)(hk:k<xs.length):((xs.take k).map w).sum+w (xs.getD k default)≤(xs.map w).sum:=by
 rw [←B4n w xs k hk]
 conv=>rhs;rw [←List.take_append_drop (k+1) xs,List.map_append,List.sum_append]
 omega
theorem B2a {α:Type}(w:α→Nat)(xs:List α):wS w xs=xs.length+(xs.map w).sum:=rfl
theorem Q2 (b:ByteArray):(b==b)=true:=by rw [beq_toListBytes];simp
theorem B4u {a b:ByteArray}(h:(a==b)=true):a=b:=by
 rw [beq_toListBytes] at h
 have h:=eq_of_beq h
 rw [ByteArray.toList_eq,ByteArray.toList_eq] at h
 obtain ⟨⟨x⟩⟩:=a
 obtain ⟨⟨y⟩⟩:=b
 simp at h
 rw [h]
end Go.Sx
namespace Go.Sx
open Go.RowKit (Below)
variable {P : Program} {T : List (TypeId × TI)}
def S4 (c c':Ac):Prop:=c'=c∨(c= .val (.slice none 0 0)∧∃es row,c'= .sl 0 es row)
def Fx (cs cs':List Ac):Prop:=
 match cs,cs' with
 | [],[]=>True
 |c::cs,c'::cs'=>S4 c c'∧Fx cs cs'
 |_,_=>False
theorem Fx.get {cs cs':List Ac}(h:Fx cs cs'):cs'.length=cs.length∧∀(i:Nat) (c':Ac),cs'[i]? =some c'→∃c,cs[i]? =some c∧S4 c c':=by
 induction cs generalizing cs' with
 |nil=>cases cs'<;>simp_all [Fx]
 |cons c cs ih=>
  cases cs' with
  |nil=>simp [Fx] at h
  |cons c' cs'=>
   obtain ⟨h1,h2⟩:=h
   obtain ⟨g1,g2⟩:=ih h2
   refine ⟨by simp [g1],fun i d hd=>?_⟩
   cases i with
   |zero=>simp only [List.getElem?_cons_zero,Option.some.injEq] at hd;subst hd;exact ⟨c,by simp,h1⟩
   |succ i=>simpa using g2 i d (by simpa using hd)
theorem S4.own {w:World}{c c':Ac}{v:Value}{fp:List Nat}(h:S4 c c')(ho:C5 w c v fp):C5 w c' v fp:=by
 rcases h with rfl|⟨rfl,es,row,rfl⟩
 ·exact ho
 cases ho;exact .nil es row
theorem S4.refl (c:Ac):S4 c c:= .inl rfl
theorem S4.nil (es:Nat)(row:Nat→List Ac):S4 (.val (.slice none 0 0)) (.sl 0 es row):= .inr ⟨rfl,es,row,rfl⟩
def Gy (c c':Ac):Prop:=
 match c,c' with
 | .sl n es row,.sl n' es' row'=>n'=n∧es'=es∧∀i,i<n→Fx (row i) (row' i)
 |_,_=>False
theorem Gy.own {w:World}{c c':Ac}{v:Value}{fp:List Nat}(h:Gy c c')(ho:C5 w c v fp):C5 w c' v fp:=by
 cases ho with
 |val x hx=>cases c'<;>exact h.elim
 |nil es row=>
  cases c' with
  |val=>exact h.elim
  |sl n' es' row'=>
   obtain ⟨rfl,rfl,_⟩:=h
   exact .nil _ row'
 |emp es row b0 o0=>
  cases c' with
  |val=>exact h.elim
  |sl n' es' row'=>
   obtain ⟨rfl,rfl,_⟩:=h
   exact .emp _ row' b0 o0
 |sl n es row b off cap ty cells fps hn hc hb hs hl hr=>
  cases c' with
  |val=>exact h.elim
  |sl n' es' row'=>
   obtain ⟨rfl,rfl,h⟩:=h
   refine .sl _ _ row' b off cap ty cells fps hn hc hb hs (fun i hi=>?_) (fun i j d hi hd=>?_)
   ·rw [(h i hi).get.1];exact hl i hi
   obtain ⟨c,h1,h2⟩:=(h i hi).get.2 j d hd
   exact h2.own (hr i j c hi h1)
def Gc (l:List Ow) (k:Nat) (c:Ac):List Ow:=
 match l with
 | []=>[]
 |y::r=>match Nat.beq y.key k with
  |true=>⟨k,c⟩::Gc r k c
  |false=>y::Gc r k c
theorem O4 {l:List Ow}{k:Nat}{c:Ac}{y:Ow}(h:y∈Gc l k c):(y.key=k∧y.cell=c∧∃z∈l,z.key=k)∨(y∈l∧y.key≠k):=by
 induction l with
 |nil=>simp [Gc] at h
 |cons x r ih=>
  unfold Gc at h
  split at h
  ·rename_i e
   have e:=Nat.eq_of_beq_eq_true e
   rcases List.mem_cons.1 h with rfl|h
   ·exact .inl ⟨rfl,rfl,x,by simp,e⟩
   rcases ih h with ⟨h1,h2,z,hz,h3⟩|⟨h1,h2⟩
   ·exact .inl ⟨h1,h2,z,List.mem_cons_of_mem _ hz,h3⟩
   exact .inr ⟨List.mem_cons_of_mem _ h1,h2⟩
  rename_i e
  rcases List.mem_cons.1 h with rfl|h
  ·exact .inr ⟨by simp,fun e'=>by rw [e',Nat.beq_refl] at e;cases e⟩
  rcases ih h with ⟨h1,h2,z,hz,h3⟩|⟨h1,h2⟩
  ·exact .inl ⟨h1,h2,z,List.mem_cons_of_mem _ hz,h3⟩
  exact .inr ⟨List.mem_cons_of_mem _ h1,h2⟩
theorem Pn (l:List Ow)(k:Nat)(c:Ac):(Gc l k c).map (·.key)=l.map (·.key):=by
 induction l with
 |nil=>rfl
 |cons x r ih=>
  unfold Gc
  split
  ·rename_i e
   have e:=Nat.eq_of_beq_eq_true e
   simp [ih,e]
  simp [ih]
theorem Fm {l:List Ow}{k:Nat}{c:Ac}{y:Ow}(h:y∈Gc l k c):∃z∈l,z.key=y.key:=by
 rcases O4 h with ⟨h1,_,z,hz,h3⟩|⟨h1,_⟩
 ·exact ⟨z,hz,h3.trans h1.symm⟩
 exact ⟨y,h1,rfl⟩
theorem Ed {B:Ax}{Q:Exit→Act→World→Prop}{K:List KI}{s:AS}(k:Nat)(c':Ac){c:Ac}(hk:Bs s.own k=some c)(hc:Gy c c')
  (h:GW P B Q K {s with own:=Gc s.own k c'}):GW P B Q K s:=by
 refine ⟨fun E a w hs=>?_⟩
 have hm:=C2 hk
 have av:∀b,({s with own:=Gc s.own k c'}:AS).avoid E b→s.avoid E b:=by
  rintro b (hb|⟨y,hy,hb⟩)
  ·exact .inl hb
  obtain ⟨z,hz,e⟩:=Fm hy
  exact .inr ⟨z,hz,by rw [e];exact hb⟩
 have mv:∀x v,Cm E w (s.avoid E) s.next x v→Cm E w (({s with own:=Gc s.own k c'}:AS).avoid E) s.next x v:=fun x v hx=>
  hx.move (Nat.le_refl _) (fun _ _=>⟨rfl,rfl⟩) (fun _ _ _=>rfl) (fun b _ hb=>av b hb)
 refine h.out E a w ⟨hs.defers,hs.links,hs.size,fun i x hx=>mv _ _ (hs.slots i x hx),fun x hx=>?_,hs.boxes2,hs.keys,fun y hy=>?_,by rw [Pn];exact hs.ownkeys,fun y hy z hz hne=>?_,fun x hx y hy=>?_,hs.one,hs.base,fun b hb=>hs.fresh b (av b hb)⟩
 ·obtain ⟨h1,vs,ty,h2,h3,h4⟩:=hs.boxes x hx
  exact ⟨h1,vs,ty,h2,h3,fun i y hy=>mv _ _ (h4 i y hy)⟩
 ·rcases O4 hy with ⟨h1,h2,_⟩|⟨h1,_⟩
  ·obtain ⟨g1,g2,g3⟩:=hs.own _ hm
   rw [h1,h2]
   exact ⟨g1,hc.own g2,g3⟩
  exact hs.own y h1
 ·obtain ⟨y',hy',e1⟩:=Fm hy
  obtain ⟨z',hz',e2⟩:=Fm hz
  rw [←e1,←e2]
  exact hs.sep y' hy' z' hz' (by rw [e1,e2];exact hne)
 obtain ⟨y',hy',e1⟩:=Fm hy
 rw [←e1]
 exact hs.sepB x hx y' hy'
theorem A0y {α:Type} [Inhabited α] {es:Nat}{e:α→List Ac}{row:Nat→List Ac}{xs:List α}(h:∀i,i<xs.length→Fx (row i) (e (xs.getD i default))):Gy (.sl xs.length es row) (Is es e xs):=
 ⟨rfl,rfl,h⟩
end Go.Sx
namespace Go.Sx
open Go.RowKit (Below)
variable {P : Program} {T : List (TypeId × TI)}
def Wk (cs cs':List Ac):Prop:=cs'.length=cs.length∧∀(i:Nat) (c':Ac),cs'[i]? =some c'→∃c,cs[i]? =some c∧∀w A v,L5 w A c v→L5 w A c' v
theorem Wk.refl (cs:List Ac):Wk cs cs:=⟨rfl,fun _ c h=>⟨c,h,fun _ _ _ h=>h⟩⟩
theorem Wk.append {a a' b b':List Ac}(h:Wk a a')(k:Wk b b'):Wk (a++b) (a'++b'):=by
 refine ⟨by simp [h.1,k.1],fun i c hc=>?_⟩
 by_cases hi:i<a'.length
 ·rw [List.getElem?_append_left hi] at hc
  rw [List.getElem?_append_left (by rw [←h.1];exact hi)]
  exact h.2 i c hc
 rw [List.getElem?_append_right Ab] at hc
 rw [List.getElem?_append_right (by rw [←h.1];omega),←h.1]
 exact k.2 _ c hc
theorem B68 {α:Type} [Inhabited α] {es n:Nat}{row:Nat→List Ac}{e:α→List Ac}{ok:α→Prop}(h:∀i,i<n→∃x,ok x∧Wk (row i) (e x)):
  ∃xs:List α,xs.length=n∧(∀y∈xs,ok y)∧Wk [.sl n es row] [Is es e xs]:=by
 have hex:∀i,∃x,i<n→ok x∧Wk (row i) (e x):=fun i=>by
  by_cases hi:i<n
  ·obtain ⟨x,hx⟩:=h i hi;exact ⟨x,fun _=>hx⟩
  exact ⟨default,fun h=>absurd h hi⟩
 let g:=fun i=>Classical.choose (hex i)
 have hg:∀i,i<n→ok (g i)∧Wk (row i) (e (g i)):=fun i=>Classical.choose_spec (hex i)
 have hget:∀i,i<n→((List.range n).map g).getD i default=g i:=fun i hi=>by simp [List.getD,hi]
 refine ⟨(List.range n).map g,by simp,fun y hy=>?_,rfl,fun i c hc=>?_⟩
 ·obtain ⟨i,hi,rfl⟩:=List.mem_map.1 hy
  exact (hg i (List.mem_range.1 hi)).1
 cases i with
 |succ i=>simp at hc
 |zero=>
  simp only [List.getElem?_cons_zero,Option.some.injEq] at hc
  subst hc
  refine ⟨_,rfl,fun w A v hr=>?_⟩
  have hlen:((List.range n).map g).length=n:=by simp
  unfold Is
  rw [hlen]
  cases hr with
  |nil=>exact .nil _ _
  |emp _ _ a=>exact .emp _ _ a
  |sl _ _ _ b off cap u hA hn hc hl hu hr=>
   refine .sl n es _ b off cap u hA hn hc (fun i hi=>?_) hu (fun i j c hi hc=>?_)
   ·rw [hget i hi,(hg i hi).2.1];exact hl i hi
   rw [hget i hi] at hc
   obtain ⟨c0,h1,h2⟩:=(hg i hi).2.2 j c hc
   exact h2 _ _ _ (hr i j c0 hi h1)
theorem Wk.repL {w:World}{xs ys:List Ac}{cs:List Value}(h:Wk xs ys)(hr:Oy w xs cs):Oy w ys cs:=by
 refine ⟨h.1.trans hr.1,fun i c hc=>?_⟩
 obtain ⟨c0,h1,h2⟩:=h.2 i c hc
 exact h2 _ _ _ (hr.2 i c0 h1)
theorem Oy.arg1 {w:World}{c:Ac}{v:Value}(h:Oy w [c] [v]):Lk w (fun _=>False) (.one c) v:=h.2 0 c rfl
end Go.Sx
namespace Go.Sx
def Fa (row:Nat→List Ac) (j:Nat) (r:List Ac):Nat→List Ac:=fun i=>if i=j then r else row i
theorem Gr (row:Nat→List Ac)(j:Nat)(r:List Ac):Fa row j r j=r:=by simp [Fa]
theorem Mj (row:Nat→List Ac)(j i:Nat)(r:List Ac)(h:i≠j):Fa row j r i=row i:=by simp [Fa,h]
theorem Ya {n es:Nat}{row:Nat→List Ac}{j off:Nat}{cs r:List Ac}(h:D4 (row j) off cs=r):O8 n es row j off cs (.sl n es (Fa row j r)):=
 ⟨_,rfl,fun _ _ hi=>Mj _ _ _ _ hi,by rw [Gr,h]⟩
theorem Fx.refl (cs:List Ac):Fx cs cs:=by
 induction cs with
 |nil=>trivial
 |cons c cs ih=>exact ⟨.refl c,ih⟩
theorem A4p {n es:Nat}{row:Nat→List Ac}{j off:Nat}{cs r r':List Ac}(h:D4 r off cs=r'):O8 n es (Fa row j r) j off cs (.sl n es (Fa row j r')):=
 ⟨_,rfl,fun _ _ hi=>by rw [Mj _ _ _ _ hi,Mj _ _ _ _ hi],by rw [Gr,Gr,h]⟩
theorem B27 (row:Nat→List Ac)(j off:Nat)(v:Value){r:List Ac}(hr:row j=r):(fun i=>if i=j then D4 (row i) off [.val v] else row i)=Fa row j (D4 r off [.val v]):=by
 funext i
 unfold Fa
 by_cases h:i=j
 ·subst h;rw [if_pos rfl,if_pos rfl,hr]
 rw [if_neg h,if_neg h]
open Go.RowKit (Below) in
theorem B17 {P:Program}{B:Ax}{Q:Exit→Act→World→Prop}{K:List KI}{s:AS}(k k2:Nat){n es:Nat}{row:Nat→List Ac}{j:Nat}(off:Nat){r:List Ac}{v:Value}{c:Ac}(hk:Bs s.own k=some (.sl n es (Fa row j r)))
  (hj:j<n)(hc:r[off]? =some (.val v))(h2:Bs s.own k2=some c)(hl:Dl s.links k2=some v)(hne:Nat.beq k k2=false){r':List Ac}(hr:D4 r off [c]=r')
  (h:GW P B Q K {s with own:=⟨k,.sl n es (Fa row j r')⟩::Bk [k,k2] s.own}):GW P B Q K s:=
 B16 k k2 hk hj (off:=off) (by rw [Gr];exact hc) h2 hl hne _ (A4p hr) h
theorem getD_set_self {α:Type}(l:List α)(j:Nat)(x d:α)(h:j<l.length):(l.set j x).getD j d=x:=by simp [List.getD,h]
theorem getD_set_ne {α:Type}(l:List α)(i j:Nat)(x d:α)(h:i≠j):(l.set j x).getD i d=l.getD i d:=by simp [List.getD,List.getElem?_set_ne (Ne.symm h)]
theorem Fo {α:Type} [Inhabited α] {es:Nat}{e:α→List Ac}{xs:List α}{j off:Nat}{x2:α}{r cs:List Ac}(hj:j<xs.length)(h:D4 r off cs=e x2):
  O8 xs.length es (Fa (fun i=>e (xs.getD i default)) j r) j off cs (Is es e (xs.set j x2)):=by
 refine ⟨_,by rw [Is,List.length_set],fun i _ hne=>?_,?_⟩
 ·simp only [getD_set_ne _ _ _ _ _ hne,Mj _ _ _ _ hne]
 simp only [getD_set_self _ _ _ _ hj,Gr,h]
end Go.Sx
namespace Go.Sx
def B6k (_:Int):Nat:=1
def B6e (_:Bool):Nat:=1
def Ec.cnt (_:Ec):Nat:=1+1
def Mx.cnt (_:Mx):Nat:=1+1+1
def Ae.cnt (_:Ae):Nat:=1+1+1+1+1
def Bv.cnt (x:Bv):Nat:=1+(x.queue.map Ae.cnt).sum+1+1+1+1
def Aq.cnt (x:Aq):Nat:=1+1+1+(x.outs.map B6k).sum
def Ag.cnt (_:Ag):Nat:=1+1+1+1
def Ep.cnt (_:Ep):Nat:=1+1
def A9.cnt (x:A9):Nat:=(x.queue.map Ae.cnt).sum+(x.staged.map Ae.cnt).sum+(x.inputs.map Ae.cnt).sum+(x.cells.map Ag.cnt).sum+(x.sums.map B6k).sum+(x.black.map B6e).sum+(x.caps.map B6e).sum+(x.dones.map Ep.cnt).sum
def D0.cnt (_:D0):Nat:=1+1+1+1+1
def Fy.cnt (_:Fy):Nat:=1+1+1
def Cz.cnt (_:Cz):Nat:=1+1+1
end Go.Sx
namespace Go.Sx
theorem I2 {α:Type} [Inhabited α] (xs:List α)(k:Nat)(h:k<xs.length):xs.take (k+1)=xs.take k++[xs.getD k default]:=by
 rw [List.take_add_one];simp [List.getD,h]
theorem F4 {α:Type} [Inhabited α] (p:α→Bool)(xs:List α)(k:Nat)(h:k<xs.length):
  (xs.take (k+1)).filter p=(xs.take k).filter p++(if p (xs.getD k default)=true then [xs.getD k default] else []):=by
 rw [I2 xs k h,List.filter_append]
 congr 1
 by_cases hp:p (xs.getD k default)=true
 ·rw [if_pos hp,List.filter_cons_of_pos hp,List.filter_nil]
 rw [if_neg hp,List.filter_cons_of_neg hp,List.filter_nil]
theorem Ds {α:Type}(p:α→Bool)(xs:List α)(k:Nat):((xs.take k).filter p).length≤xs.length:=by
 have h1:=List.length_filter_le p (xs.take k)
 have h2:=List.length_take_le k xs
 have h3:=List.length_take_le' k xs
 omega
theorem B0p {α β:Type} [Inhabited α] (f:α→β)(xs:List α)(k:Nat)(h:k<xs.length):
  (xs.take (k+1)).map f=(xs.take k).map f++[f (xs.getD k default)]:=by
 rw [I2 xs k h,List.map_append];rfl
theorem A81 {α:Type} [Inhabited α] (p:α→Bool)(xs:List α)(k:Nat)(h:k<xs.length):
  (xs.take (k+1)).any p=((xs.take k).any p||p (xs.getD k default)):=by
 rw [I2 xs k h,List.any_append];simp
theorem B8 {α:Type}{d:α}{xs:List α}{k:Nat}(h:k<xs.length):xs.getD k d∈xs:=by
 rw [List.getD,List.getElem?_eq_getElem h];exact List.getElem_mem h
theorem Ki {α:Type} [Inhabited α] {p:α→Bool}{xs:List α}{k:Nat}(h:k<xs.length)(hp:p (xs.getD k default)=true):xs.any p=true:=
 List.any_eq_true.2 ⟨_,B8 h,hp⟩
theorem Fv {α:Type}(xs:List α)(k:Nat)(h:¬ k<xs.length):xs.take k=xs:=List.take_of_length_le Ab
theorem De {α:Type} [Inhabited α] {es:Nat}{e:α→List Ac}{row:Nat→List Ac}:Gy (.sl 0 es row) (Is es e ([]:List α)):=⟨rfl,rfl,fun _ h=>nomatch h⟩
theorem Of {b:Bool}{p q:Prop}(hb:b=true)(h:p):(b=true→p)∧(b=false→q):=⟨fun _=>h,fun e=>by rw [hb] at e;cases e⟩
theorem Ui {b:Bool}{p q:Prop}(hb:b=false)(h:q):(b=true→p)∧(b=false→q):=⟨fun e=>(by rw [hb] at e;cases e),fun _=>h⟩
theorem Ft {p q:Prop}(hq:q)(hp:p:=by first|omega|(show _∧_;omega)|((repeat (first|rw [ByteArray.size_append]|rw [bsz]|rw [List.size_toArray]|rw [List.length_cons]|rw [List.length_nil]))<;>omega)|((repeat rw [Int.toNat_natCast])<;>first|omega|(show _∧_;omega))|(simp only [ByteArray.size_append,bsz,List.size_toArray,List.length_cons,List.length_nil];omega)|(simp only [Int.toNat_natCast];first|omega|(show _∧_;omega))|decide):p∧q:=⟨hp,hq⟩
theorem Gx {p q:Prop}(hq:q)(hp:p:=by first|omega|(show _∧_;omega)|((repeat (first|rw [ByteArray.size_append]|rw [bsz]|rw [List.size_toArray]|rw [List.length_cons]|rw [List.length_nil]))<;>omega)|((repeat rw [Int.toNat_natCast])<;>first|omega|(show _∧_;omega))|(simp only [ByteArray.size_append,bsz,List.size_toArray,List.length_cons,List.length_nil];omega)|(simp only [Int.toNat_natCast];first|omega|(show _∧_;omega))|decide|(simp only [beq_iff_eq,beq_eq_false_iff_ne,bne_iff_ne,bne_eq_false_iff_eq,Bool.not_eq_true',Bool.not_eq_false',Go.Sx.As,Go.Sx.Bn,decide_eq_true_eq,decide_eq_false_iff_not,ne_eq,Int.not_lt,Int.not_le,ge_iff_le,gt_iff_lt,Int.toNat_zero,Int.toNat_one,Int.toNat_natCast] at * <;>first|omega|(show _∧_;omega))):p∧q:=⟨hp,hq⟩
theorem skf {b:Bool}{p q:Prop}(h:q)(hb:b=false:=by first|with_reducible rfl|assumption|(simp;done)|fail):(b=true→p)∧(b=false→q):=Ui hb h
theorem skt {b:Bool}{p q:Prop}(h:p)(hb:b=true:=by first|with_reducible rfl|assumption|(simp;done)|fail):(b=true→p)∧(b=false→q):=Of hb h
theorem L6 {b:Bool}{p q:Prop}(h:q)(hb:b=false:=by first|with_reducible rfl|assumption):(b=true→p)∧(b=false→q):=Ui hb h
theorem L7 {b:Bool}{p q:Prop}(h:p)(hb:b=true:=by first|with_reducible rfl|assumption):(b=true→p)∧(b=false→q):=Of hb h
end Go.Sx
namespace Go.Sx
open Go.RowKit (Below)
variable {P : Program} {T : List (TypeId × TI)}
theorem A29 (hT:C7 P T){B:Ax}{Q:Exit→Act→World→Prop}{q:Bool}{all:Array Oper}{o:Oper}{rest:List Oper}{K:List KI}{s:AS}{t e:TypeId}{len:Nat}{parts:Array (Nat×Operand)}{i j:TI}
  (hg:o.guard=none)(ho:o.op= .buildSlice t len parts)(hi:find T t=some i)(hie:i.elem=some e)(hj:find T e=some j)(hsm:(Nat.ble (len * j.size) 10000&&Nat.blt 0 j.size)=true)
  {l:List AV}(hcs:Lu T (Gq len 0 j.size e) s parts.toList (repL len (Gg j))=some l){cs:List Ac}{ks:List Nat}(hc:Mq s.own l=some (cs,ks))(hkd:Fu ks=true)
  (h:G P B Q (.ops q all rest::K) (({s with own:=⟨s.next,.sl len j.size fun i=>(cs.drop (i * j.size)).take j.size⟩::Bk ks s.own,next:=s.next+1}:AS).put o.dst (.own s.next))):G P B Q (.ops q all (o::rest)::K) s:=by
 refine Gj hg (by rw [ho];simp [Dj]) (fun E a w hs=>?_)
 obtain ⟨f,d,z,S⟩:=TI.of_spec (hT e j hj)
 have hzs:z.cells.size=j.size:=by have:=S.zlen;rw [←S.cells] at this;simpa using this
 simp only [Bool.and_eq_true] at hsm
 have hpos:=Fp hsm.2
 have hsmall:=Nat.le_of_ble_eq_true hsm.1
 have hlen:len≤len * j.size:=Nat.le_mul_of_pos_right _ hpos
 have hz0:DL E w (s.avoid E) s.next (repL len (Gg j)) ((Array.range (len * j.size)).map (z.cells[· % z.cells.size]!)):=by
  refine ⟨by simp [Hy,Gg,S.zlen],fun k y hy=>?_⟩
  have hzl:(Gg j).length=j.size:=by simp [Gg,S.zlen]
  have hk:k<len * j.size:=by have:=(List.getElem?_eq_some_iff.1 hy).1;rwa [Hy,hzl] at this
  rw [A2b _ _ _ (by rw [hzl];exact hk),hzl] at hy
  have:=(Ti (hT e j hj) S.cells E w (s.avoid E) s.next).2 _ _ hy
  have hm:k % j.size<z.cells.size:=by rw [hzs];exact Nat.mod_lt _ (Nat.pos_of_ne_zero (fun h=>by rw [h] at hk;simp at hk))
  have e1:((Array.range (len * j.size)).map (z.cells[· % z.cells.size]!)).getD k undef=z.cells.getD (k % j.size) undef:=by
   have:=K2 z.cells (len * j.size) k hk
   rw [show (Array.range (len * j.size)).map (z.cells[· % z.cells.size]!)=madeCells z.cells (len * j.size) from rfl,this,hzs]
   rw [getElem!_pos z.cells _ hm]
   simp only [Array.getD,hm,dif_pos]
   rfl
  rw [e1]
  exact this
 obtain ⟨cs',hfill,hDL⟩:=Z0 hT hs (Gq len 0 j.size e) (fun k=>some (k * j.size,j.size)) (fun k o u hk j' hj'=>by
  obtain ⟨rfl,rfl⟩:=Om _ _ _ _ _ _ _ hk
  rw [hj] at hj'
  obtain rfl:=Option.some.inj hj'
  simp) parts.toList _ _ l hcs hz0
 have hll:l.length=len * j.size:=by
  have:=Oc hcs
  rw [this,Hy]
  simp [Gg,S.zlen]
 have hcsl:cs'.size=len * j.size:=by have:=hDL.1;omega
 have hrun:(Instr.buildSlice t len (parts.map fun p=>(p.1,a.eval p.2))).run P w= .ok (.slice (some ⟨w.heap.size,0,none⟩) len len) (w.alloc (.cells cs' e)):=by
  have hnot:¬ (16777216<len * j.size):=by omega
  have hfill':Instr.fill (fun k=>some (k * j.size,j.size)) ((Array.range (len * j.size)).map (z.cells[· % z.cells.size]!)) (parts.map fun p=>(p.1,a.eval p.2)).toList=some cs':=by
   rw [Array.toList_map];exact hfill
  by_cases h0:len * j.size=0
  ·simp [Instr.buildSlice,run_underlying (Ch (hT t i hi) hie),Bq (hT e j hj),h0,newRow,Array.range_zero']
   simp [h0,Array.range_zero'] at hfill'
   rw [hfill']
   simp
  simp [Instr.buildSlice,run_underlying (Ch (hT t i hi) hie),Bq (hT e j hj),hnot,h0,newRow,zeroValue,typeInfo,S.hf,S.hz]
  simp at hfill'
  rw [hfill']
  simp
 have hnd:=Dq hkd
 obtain ⟨q1,q2,gps,q3,q4,q5⟩:=Uy hs hc hnd (vs:=cs'.toList) (by simp only [Array.length_toList];omega) (fun m z hz=>by rw [Br];exact hDL.2 m z hz)
 have hcl:cs.length=len * j.size:=by omega
 have hbel:=Hw w (.cells cs' e)
 have hlt:∀b∈(List.range cs.length).flatMap gps,b<w.heap.size:=by
  intro b hb
  obtain ⟨k,hk,hb1⟩:=List.mem_flatMap.1 (q5 b hb)
  obtain ⟨y,hy,rfl⟩:=q2 k hk
  exact (hs.own y hy).2.1.lt b hb1
 have hown:=C5.sl (w:=w.alloc (.cells cs' e)) len j.size (fun i=>(cs.drop (i * j.size)).take j.size) w.heap.size 0 len e cs' gps
  (Nat.le_refl _) (by simp only [maxLen];omega) (heap_alloc_new w _) (by simp [hcsl]) (fun k hk=>by
   have h2:k * j.size+j.size≤len * j.size:=by rw [←Nat.succ_mul];exact Nat.mul_le_mul_right _ hk
   simp [hcl];omega) (fun k m c hk hc'=>by
   have hm:m<j.size:=by have:=(List.getElem?_eq_some_iff.1 hc').1;simp at this;omega
   rw [List.getElem?_take,if_pos hm,List.getElem?_drop] at hc'
   have ho:=q3 _ _ hc'
   rw [Br] at ho
   rw [show (0+k) * j.size+m=k * j.size+m by rw [Nat.zero_add]]
   refine ho.move (fun b hb=>?_)
   have hkl:k * j.size+m<cs.length:=(List.getElem?_eq_some_iff.1 hc').1
   exact F5 w _ _ (hlt b (List.mem_flatMap.2 ⟨_,List.mem_range.2 hkl,hb⟩)))
 rw [←hcl] at hown
 have hfp:(w.heap.size::(List.range cs.length).flatMap gps).Nodup:=List.nodup_cons.2 ⟨fun hm=>Nat.lt_irrefl _ (hlt _ hm),q4⟩
 have hI:=hs.drop ks
 have key:∀b,b∈(List.range cs.length).flatMap gps→s.avoid E b∧¬ ({s with own:=Bk ks s.own}:AS).avoid E b:=by
  intro b hb
  obtain ⟨k,hk1,hb1⟩:=List.mem_flatMap.1 (q5 b hb)
  obtain ⟨y,hy,rfl⟩:=q2 k hk1
  refine ⟨.inr ⟨y,hy,hb1⟩,?_⟩
  rintro (⟨u,hu,rfl⟩|⟨u,hu,hb'⟩)
  ·exact hs.sepB u hu y hy hb1
  obtain ⟨hz1,hz2⟩:=C4.1 hu
  exact hs.sep y hy u hz1 (fun e=>hz2 (e▸hk1)) b hb1 hb'
 have hkept:A6e (fun _=>False) w (w.alloc (.cells cs' e)):=⟨rfl,rfl,rfl,by simp,fun k hk _=>F5 w _ _ hk⟩
 have hI2:=hI.kept hkept (fun b hb=>hb.elim)
 obtain ⟨k1,k2⟩:=hI2.addOwn hown hfp (fun b hb=>by
  rcases List.mem_cons.1 hb with rfl|hb
  ·refine ⟨.inr (Nat.le_refl _),fun hav=>?_,.inl hs.base.size⟩
   have:=hs.avoid_lt (hI.sub _ hav)
   omega
  exact ⟨.inl (key b hb).1,(key b hb).2,hs.fresh b (key b hb).1⟩)
 have hput:=(k1.put o.dst k2).is
 refine ⟨_,_,.inl (by
  obtain ⟨dst,op',ty',pos,after,guard⟩:=o
  simp only at ho
  subst ho
  simp only [execOp,Sem.run_bind,hrun,Result.andThen_ok];rfl),fun hk=>(by
   exact ⟨by simp,fun k hk=>F5 w _ _ hk⟩),h _ _ _ (by simpa [AS.addOwn] using hput)⟩
theorem P1 (hT:C7 P T){B:Ax}{Q:Exit→Act→World→Prop}{q:Bool}{all:Array Oper}{o:Oper}{rest:List Oper}{K:List KI}{s:AS}{t e:TypeId}{len:Nat}{parts:Array (Nat×Operand)}{i j:TI}
  (hg:o.guard=none)(ho:o.op= .buildSlice t len parts)(hi:find T t=some i)(hie:i.elem=some e)(hj:find T e=some j)(hsm:(Nat.ble (len * j.size) 10000&&Nat.blt 0 j.size)=true)
  {l:List AV}(hcs:Lu T (Gq len 0 j.size e) s parts.toList (repL len (Gg j))=some l){cs:List Ac}{ks:List Nat}(hc:Mq s.own l=some (cs,ks))(hkd:Fu ks=true)
  (h:GW P B Q (.ops q all rest::K) (({s with own:=⟨s.next,.sl len j.size fun i=>(cs.drop (i * j.size)).take j.size⟩::Bk ks s.own,next:=s.next+1}:AS).put o.dst (.own s.next))):GW P B Q (.ops q all (o::rest)::K) s:=
 ⟨A29 hT hg ho hi hie hj hsm hcs hc hkd (h.rec id)⟩
theorem AS.is.reBox {s:AS}{B:Ax}{E:Cv}{a:Act}{w:World}(h:s.is B E a w){k:Nat}{b:Bx}(hb:Ew s.boxes k=some b)(cells:List AV)
  (hd:∀vs:Array Value,vs.size=b.cells.length→(∀i y,b.cells[i]? =some y→Cm E w (s.avoid E) s.next y (vs.getD i undef))→vs.size=cells.length∧∀j y,cells[j]? =some y→Cm E w (s.avoid E) s.next y (vs.getD j undef)):
  ({s with boxes:=Ea s.boxes k cells}:AS).is B E a w:=by
 obtain ⟨hm,rfl⟩:=E7 hb
 have av:∀c,({s with boxes:=Ea s.boxes b.key cells}:AS).avoid E c↔s.avoid E c:=by
  intro c
  constructor
  ·rintro (⟨x,hx,rfl⟩|h)
   ·rcases E3 hx h.keys with ⟨h1,_,y,hy,h2⟩|⟨h1,_⟩
    ·exact .inl ⟨y,hy,by rw [h1,h2]⟩
    exact .inl ⟨x,h1,rfl⟩
   exact .inr h
  rintro (⟨x,hx,rfl⟩|h)
  ·obtain ⟨y,hy,e⟩:=Y7 (k:=b.key) (cs:=cells) hx
   exact .inl ⟨y,hy,by rw [e]⟩
  exact .inr h
 have mv:∀x v,Cm E w (s.avoid E) s.next x v→Cm E w (({s with boxes:=Ea s.boxes b.key cells}:AS).avoid E) s.next x v:=
  fun x v hx=>hx.move (Nat.le_refl _) (fun _ _=>⟨rfl,rfl⟩) (fun _ _ _=>rfl) (fun c _ hc=>(av c).1 hc)
 refine ⟨h.defers,h.links,h.size,fun i x hx=>mv _ _ (h.slots i x hx),?_,?_,?_,h.own,h.ownkeys,h.sep,?_,h.one,h.base,fun c hc=>h.fresh c ((av c).1 hc)⟩
 ·intro x hx
  rcases E3 hx h.keys with ⟨h1,h2,_⟩|⟨h1,_⟩
  ·obtain ⟨g1,vs,ty,g2,g3,g4⟩:=h.boxes b hm
   obtain ⟨e1,e2⟩:=hd vs g3 g4
   exact ⟨h1▸g1,vs,ty,by rw [h1];exact g2,by rw [h2];exact e1,fun j y hj=>mv _ _ (e2 j y (by rw [←h2];exact hj))⟩
  obtain ⟨g1,vs,ty,g2,g3,g4⟩:=h.boxes x h1
  exact ⟨g1,vs,ty,g2,g3,fun j y hj=>mv _ _ (g4 j y hj)⟩
 ·intro x hx y hy he
  rcases E3 hx h.keys with ⟨h1,_⟩|⟨h1,_⟩<;>rcases E3 hy h.keys with ⟨g1,_⟩|⟨g1,_⟩
  ·rw [h1,g1]
  ·rw [h1] at he ⊢
   exact h.boxes2 b hm y g1 he
  ·rw [g1] at he ⊢
   exact h.boxes2 x h1 b hm he
  exact h.boxes2 x h1 y g1 he
 ·show ((Ea s.boxes b.key cells).map (·.key)).Nodup
  rw [K7]
  exact h.keys
 intro x hx y hy
 rcases E3 hx h.keys with ⟨h1,_⟩|⟨h1,_⟩
 ·rw [h1];exact h.sepB b hm y hy
 exact h.sepB x h1 y hy
theorem A1v {B:Ax}{Q:Exit→Act→World→Prop}{K:List KI}{s:AS}(k off es:Nat)(row:Nat→List Ac){b:Bx}(hb:Ew s.boxes k=some b)(hi:Gh b.cells off= .c (.val (.slice none 0 0)))
  (h:GW P B Q K {s with boxes:=Ea s.boxes k (Ce b.cells off (.own s.next)),own:=⟨s.next,.sl 0 es row⟩::s.own,next:=s.next+1}):GW P B Q K s:=by
 refine ⟨fun E a w hs=>?_⟩
 have hI:s.isA B E (s.avoid E) a w:=⟨hs.defers,hs.links,hs.size,hs.slots,hs.boxes,hs.boxes2,hs.keys,hs.own,hs.ownkeys,hs.sep,hs.sepB,hs.one,hs.base,hs.fresh,fun _ h=>h⟩
 obtain ⟨k1,k2⟩:=hI.addOwn (.nil es row) Bw Bw
 have k3:=k1.is
 have k4:=k3.reBox (k:=k) (b:=b) hb (Ce b.cells off (.own s.next)) (fun vs h1 h2=>by
  refine ⟨by rw [Ca];exact h1,fun j y hj=>?_⟩
  rw [D8] at hj
  split at hj
  ·rename_i hm
   obtain ⟨rfl,hm⟩:=hm
   obtain rfl:=Option.some.inj hj
   have hd:=h2 off (.c (.val (.slice none 0 0))) (by rw [Cl,List.getElem?_eq_getElem hm] at hi;rw [List.getElem?_eq_getElem hm];simpa using hi)
   rw [Bc hd]
   exact k2.move (Nat.le_refl _) (fun _ _=>⟨rfl,rfl⟩) (fun _ _ _=>rfl) (fun b _ hb=>k1.sub b hb)
  exact h2 j y hj)
 exact h.out _ _ _ k4
theorem B7 (id:Nat)(hm:P.follows .mixedOrders=true){B:Ax}{Q:Exit→Act→World→Prop}{ops:Array Oper}{K:List KI}{s:AS}(ord:List Nat)(hB:B0t ops ord=true)
  (h:GW P B Q (.ops true ops (Zd ops ord)::K) s):GW P B Q (.code (.region id ops true)::K) s:=B6h hm ord hB h
theorem Ci {α:Type} [Inhabited α] {es:Nat}{e:α→List Ac}{row1:Nat→List Ac}{xs:List α}:Pt 0 xs.length es row1 (fun i=>e (xs.getD i default)) (Is es e xs):=
 ⟨_,by rw [Is,Nat.zero_add],fun i hi=>by omega,fun i hi=>by simp⟩
theorem Ko {α:Type} [Inhabited α] {e:α→List Ac}(xs:List α)(h:∀x,∀c∈e x,∃v,c= .val v):E4 xs.length (fun i=>e (xs.getD i default)):=fun _ _=>h _
theorem Rh (xs:List Int):E4 xs.length (fun i=>[vi (xs.getD i default)]):=Ko (e:=fun n=>[vi n]) xs fun _x _c hc=>⟨_,List.mem_singleton.1 hc⟩
theorem U5 (xs:List Bool):E4 xs.length (fun i=>[vb (xs.getD i default)]):=Ko (e:=fun n=>[vb n]) xs fun _x _c hc=>⟨_,List.mem_singleton.1 hc⟩
theorem Xf (xs:List ByteArray):E4 xs.length (fun i=>[vs (xs.getD i default)]):=Ko (e:=fun n=>[vs n]) xs fun _x _c hc=>⟨_,List.mem_singleton.1 hc⟩
theorem F8 (xs:List Ae):E4 xs.length (fun i=>Ae.c (xs.getD i default)):=Ko xs fun x c hc=>by
 simp only [Ae.c,List.mem_cons,List.not_mem_nil,or_false] at hc
 rcases hc with rfl|rfl|rfl|rfl|rfl<;>exact ⟨_,rfl⟩
theorem Eo (xs:List Ag):E4 xs.length (fun i=>Ag.c (xs.getD i default)):=Ko xs fun x c hc=>by
 simp only [Ag.c,List.mem_cons,List.not_mem_nil,or_false] at hc
 rcases hc with rfl|rfl|rfl|rfl<;>exact ⟨_,rfl⟩
theorem Gp (xs:List Fy):E4 xs.length (fun i=>Fy.c (xs.getD i default)):=Ko xs fun x c hc=>by
 simp only [Fy.c,List.mem_cons,List.not_mem_nil,or_false] at hc
 rcases hc with rfl|rfl|rfl<;>exact ⟨_,rfl⟩
theorem A3j (xs:List Ep):E4 xs.length (fun i=>Ep.c (xs.getD i default)):=Ko xs fun x c hc=>by
 simp only [Ep.c,List.mem_cons,List.not_mem_nil,or_false] at hc
 rcases hc with rfl|rfl<;>exact ⟨_,rfl⟩
theorem N6 (xs:List D0):E4 xs.length (fun i=>D0.c (xs.getD i default)):=Ko xs fun x c hc=>by
 simp only [D0.c,List.mem_cons,List.not_mem_nil,or_false] at hc
 rcases hc with rfl|rfl|rfl|rfl|rfl<;>exact ⟨_,rfl⟩
end Go.Sx
namespace Go.Sx
def Do (n lo hi:Int):Bool:=if n≥lo then decide (n≤hi) else false
def Em (n lo hi:Int):Int:=if hi<lo∨n<lo then lo else if hi<n then hi else n
def F1 (key n:Int):Int:=if n<1 then 0 else if key.tmod n<0 then key.tmod n+n else key.tmod n
theorem As {n lo hi:Int}:Do n lo hi=true↔lo≤n∧n≤hi:=by
 unfold Do
 split
 ·simp;omega
 simp;omega
theorem Gm (n lo hi:Int)(h:lo≤hi):lo≤Em n lo hi∧Em n lo hi≤hi:=by
 unfold Em
 split
 ·omega
 split<;>omega
theorem A8h (k:Nat)(h:k<4611686018427387904):IntKind.i64.wrap ((k:Int)+1)=((k+1:Nat):Int):=by
 rw [H6 (by show _∧_;omega)];omega
theorem A5.links_le {x:A5}{n:Nat}(h:x.w≤n):x.links.length≤n:=by simp only [A5.w,wS] at h;omega
theorem A5.workers_le {x:A5}{n:Nat}(h:x.w≤n):x.workers.length≤n:=by simp only [A5.w,wS] at h;omega
theorem A5.tokens_le {x:A5}{n:Nat}(h:x.w≤n):x.tokens.length≤n:=by simp only [A5.w,wS] at h;omega
theorem A5.news_le {x:A5}{n:Nat}(h:x.w≤n):x.news.length≤n:=by simp only [A5.w,wS] at h;omega
theorem A5.worker_le {x:A5}{n:Nat}(h:x.w≤n){k:Nat}(hk:k<x.workers.length):((x.workers.take k).map A9.w).sum+(x.workers.getD k default).w≤n:=by
 have:=H5 A9.w x.workers k hk
 simp only [A5.w,wS] at h;omega
theorem A5.link_le {x:A5}{n:Nat}(h:x.w≤n){k:Nat}(hk:k<x.links.length):((x.links.take k).map Bv.w).sum+(x.links.getD k default).w≤n:=by
 have:=H5 Bv.w x.links k hk
 simp only [A5.w,wS] at h;omega
theorem Ec.eqv (x y:Ec):(x.epoch==y.epoch&&(x.turn==y.turn&&true))=decide (x=y):=by
 obtain ⟨_,_⟩:=x
 obtain ⟨_,_⟩:=y
 rw [Bool.eq_iff_iff];simp [and_assoc]
theorem Mx.eqv (x y:Mx):(x.stamp.epoch==y.stamp.epoch&&(x.stamp.turn==y.stamp.turn&&(x.n==y.n&&true)))=decide (x=y):=by
 obtain ⟨⟨_,_⟩,_⟩:=x
 obtain ⟨⟨_,_⟩,_⟩:=y
 rw [Bool.eq_iff_iff];simp [and_assoc]
theorem Ae.eqv (x y:Ae):(x.op==y.op&&(x.stamp.epoch==y.stamp.epoch&&(x.stamp.turn==y.stamp.turn&&(x.key==y.key&&(x.val==y.val&&true)))))=decide (x=y):=by
 obtain ⟨_,⟨_,_⟩,_,_⟩:=x
 obtain ⟨_,⟨_,_⟩,_,_⟩:=y
 rw [Bool.eq_iff_iff];simp [and_assoc]
theorem Ag.eqv (x y:Ag):(x.op==y.op&&(x.epoch==y.epoch&&(x.key==y.key&&(x.val==y.val&&true))))=decide (x=y):=by
 obtain ⟨_,_,_,_⟩:=x
 obtain ⟨_,_,_,_⟩:=y
 rw [Bool.eq_iff_iff];simp [and_assoc]
theorem Ep.eqv (x y:Ep):(x.epoch==y.epoch&&(x.capped==y.capped&&true))=decide (x=y):=by
 obtain ⟨_,_⟩:=x
 obtain ⟨_,_⟩:=y
 rw [Bool.eq_iff_iff];simp [and_assoc]
theorem D0.eqv (x y:D0):(x.going==y.going&&(x.at_==y.at_&&(x.sum==y.sum&&(x.black==y.black&&(x.capped==y.capped&&true)))))=decide (x=y):=by
 obtain ⟨_,_,_,_,_⟩:=x
 obtain ⟨_,_,_,_,_⟩:=y
 rw [Bool.eq_iff_iff];simp [and_assoc]
theorem Fy.eqv (x y:Fy):(x.to_==y.to_&&(x.epoch==y.epoch&&(x.capped==y.capped&&true)))=decide (x=y):=by
 obtain ⟨_,_,_⟩:=x
 obtain ⟨_,_,_⟩:=y
 rw [Bool.eq_iff_iff];simp [and_assoc]
theorem Cz.eqv (x y:Cz):(x.kind==y.kind&&(x.a==y.a&&(x.b==y.b&&true)))=decide (x=y):=by
 obtain ⟨_,_,_⟩:=x
 obtain ⟨_,_,_⟩:=y
 rw [Bool.eq_iff_iff];simp [and_assoc]
theorem Aq.eqv (x y:Aq):decide (x=y)=(x.kind==y.kind&&(x.a==y.a&&(x.b==y.b&&decide (x.outs=y.outs)))):=by
 obtain ⟨_,_,_,_⟩:=x
 obtain ⟨_,_,_,_⟩:=y
 rw [Bool.eq_iff_iff];simp
theorem Ap.eqv (x y:Ap):decide (x=y)=(decide (x.nodes=y.nodes)&&(x.workers==y.workers&&x.cap==y.cap)):=by
 obtain ⟨_,_,_⟩:=x
 obtain ⟨_,_,_⟩:=y
 rw [Bool.eq_iff_iff];simp
theorem Kf.eqv (x y:Kf):decide (x=y)=(decide (x.graph=y.graph)&&(decide (x.inputs=y.inputs)&&(decide (x.picks=y.picks)&&x.rounds==y.rounds))):=by
 obtain ⟨_,_,_,_⟩:=x
 obtain ⟨_,_,_,_⟩:=y
 rw [Bool.eq_iff_iff];simp
def H9 (xs:List Ae) (e:Int):List Ae:=xs.filter fun r=>r.stamp.epoch==e
def A30 (w:A9) (e:Int):Bool:=w.inputs.any fun r=>decide (r.stamp.epoch≤e)
def A4r (w:A9) (e:Int):Nat:=(H9 w.queue e).length+(H9 w.staged e).length
def Jr (w:A9) (e:Int):Bool:=if A30 w e then false else (A4r w e:Int)==0
def Gf (w:A9) (e:Int):Bool:=w.dones.any fun d=>d.epoch==e
def K6 (c:A5) (e:Int):Bool:=if 0<c.workers.length then Gf (c.workers.getD 0 default) e else false
theorem Pi (xs:List Ae)(e:Int):(H9 xs e).length≤xs.length:=List.length_filter_le _ _
def Ga {α:Type} (p:α→Bool):List α→Nat
 | []=>0
 |x::r=>if p x=true then 0 else Ga p r+1
def U2 {α:Type} (p:α→Bool) (xs:List α):Int:=if xs.any p=true then (Ga p xs:Int) else-1
theorem A9v {α:Type} [Inhabited α] (p:α→Bool)(xs:List α)(k:Nat)(h:(xs.take k).any p=false)(hk:k<xs.length)(hp:p (xs.getD k default)=true):Ga p xs=k:=by
 induction xs generalizing k with
 |nil=>simp at hk
 |cons x r ih=>
  cases k with
  |zero=>
   simp only [List.getD_cons_zero] at hp
   simp [Ga,hp]
  |succ k=>
   simp only [List.take_succ_cons,List.any_cons,Bool.or_eq_false_iff] at h
   have:=ih k h.2 (by simpa using hk) (by simpa using hp)
   simp [Ga,h.1,this]
theorem A9u {α:Type} [Inhabited α] (p:α→Bool)(xs:List α)(k:Nat)(h:(xs.take k).any p=false)(hk:k<xs.length)(hp:p (xs.getD k default)=true):U2 p xs=k:=by
 rw [U2,if_pos (Ki hk hp),A9v p xs k h hk hp]
theorem A3i {α:Type}(p:α→Bool)(xs:List α)(h:xs.any p=false):U2 p xs= -1:=by rw [U2,if_neg (by rw [h];decide)]
theorem A68 {α:Type}(p:α→Bool)(xs:List α):decide (U2 p xs≥0)=xs.any p:=by
 unfold U2
 cases h:xs.any p with
 |true=>rw [if_pos rfl];exact decide_eq_true Ab
 |false=>rw [if_neg Aw];exact decide_eq_false Ab
theorem I7 {α:Type} [Inhabited α] {p:α→Bool}{xs:List α}{k:Nat}(h:(xs.take k).any p=false)(hk:k<xs.length)(hp:p (xs.getD k default)=false):(xs.take (k+1)).any p=false:=by
 rw [A81 p xs k hk,h,hp];rfl
end Go.Sx
namespace Go.Sx
open Go.RowKit (Below)
variable {P : Program} {T : List (TypeId × TI)}
abbrev vy (b:UInt8):Ac:= .val (.int .u8 b.toNat)
abbrev Sp (xs:List UInt8):Ac:=Is 1 (fun b=>[vy b]) xs
theorem B13 (hT:C7 P T){B:Ax}{Q:Exit→Act→World→Prop}{q:Bool}{all:Array Oper}{o:Oper}{rest:List Oper}{K:List KI}{s:AS}{x:Operand}{t u e:TypeId}{i j l:TI}
  (hg:o.guard=none)(ho:o.op= .convert t u x)(hi:find T t=some i)(hie:i.elem=some e)(hj:find T e=some j)(hfl:j.flat=some [.int .u8])(hag:j.agg=false)(hl:find T u=some l)(hstr:l.str=true)
  {bs:List UInt8}(hx:Tr s.own (s.ev x)=some (Sp bs))
  (h:G P B Q (.ops q all rest::K) (s.put o.dst (.v (.string ⟨bs.toArray⟩)))):G P B Q (.ops q all (o::rest)::K) s:=by
 refine Dw hg (fun E a w hs=>?_)
 have hr:=N2 hs hx (hs.ev x)
 have hu:=Ch (hT t i hi) hie
 have hd:=M7 (hT u l hl) hstr
 have he:P.underlying e=some (.int .u8):=U6 hT hj hag hfl
 obtain ⟨dst,op',ty,pos,after,guard⟩:=o
 simp only at ho
 subst ho
 generalize hv:a.eval x=v at hr
 refine ⟨.string ⟨bs.toArray⟩,fun w' hk=>?_,h E _ w (hs.put dst (.c (.val _ rfl)))⟩
 simp only [execOp,hv,Sem.run_bind]
 generalize hc:Sp bs=c at hr
 cases hr with
 |val x h=>simp [Is] at hc
 |nil es row=>
  simp only [Is,Ac.sl.injEq] at hc
  obtain ⟨hc,_⟩:=hc
  obtain rfl:=List.eq_nil_of_length_eq_zero hc
  rw [run_convert_bytes_nil w' t e hu he 0 0 u hd]
  rfl
 |emp es row a'=>
  simp only [Is,Ac.sl.injEq] at hc
  obtain ⟨hc,_⟩:=hc
  obtain rfl:=List.eq_nil_of_length_eq_zero hc
  rw [run_convert_bytes_string w' t u e _ 0 0 hu he hd,run_bytesToString w' a' 0 0 [] (by simp [loadCells,loadCellsFrom])]
  rfl
 |sl n es row b off cap u' hA hn hcp hl' hu' hr'=>
  simp only [Is,Ac.sl.injEq] at hc
  obtain ⟨rfl,rfl,rfl⟩:=hc
  rw [run_convert_bytes_arg w' t e hu he b off bs.length cap (bs.map fun b=>(b.toNat:Int)) Bw (fun k hk'=>by
   have h1:=hk.cell (hu' k 0 hk' Ab)
   have h2:=hr' k 0 _ hk' rfl
   have h3:u' k 0= .int .u8 ((bs.getD k default).toNat):=by generalize u' k 0=z at h2;cases h2;rfl
   rw [h3] at h1
   simp only [Nat.mul_one,Nat.add_zero] at h1
   rw [h1]
   simp [List.getD,hk']) u hd]
  simp only [Result.andThen_ok,Sem.run_pure]
  congr 3
  simp [strOfNums,Function.comp_def]
theorem B66 (hT:C7 P T){B:Ax}{Q:Exit→Act→World→Prop}{q:Bool}{all:Array Oper}{o:Oper}{rest:List Oper}{K:List KI}{s:AS}{x:Operand}{t u e:TypeId}{i j l:TI}
  (hg:o.guard=none)(ho:o.op= .convert t u x)(hi:find T t=some i)(hie:i.elem=some e)(hj:find T e=some j)(hfl:j.flat=some [.int .u8])(hag:j.agg=false)(hl:find T u=some l)(hstr:l.str=true)
  (bs:List UInt8)(hx:Tr s.own (s.ev x)=some (Sp bs))
  (h:GW P B Q (.ops q all rest::K) (s.put o.dst (.v (.string ⟨bs.toArray⟩)))):GW P B Q (.ops q all (o::rest)::K) s:=
 ⟨B13 hT hg ho hi hie hj hfl hag hl hstr hx (h.rec id)⟩
end Go.Sx
namespace Go.Sx
variable {P : Program} {T : List (TypeId × TI)} {ops : Array Oper}
end Go.Sx
set_option maxRecDepth 100000
namespace Go.Sx
open Go
theorem L9 {B:Ax}{Q:Exit→Act→World→Prop}{s:AS}(k:Nat)(c':Ac){c:Ac}(hk:Bs s.own k=some c)(hc:Gy c c')
  (h:RW B Q {s with own:=Gc s.own k c'}):RW B Q s:=by
 refine ⟨fun E a w hs=>?_⟩
 have hm:=C2 hk
 have av:∀b,({s with own:=Gc s.own k c'}:AS).avoid E b→s.avoid E b:=by
  rintro b (hb|⟨y,hy,hb⟩)
  ·exact .inl hb
  obtain ⟨z,hz,e⟩:=Fm hy
  exact .inr ⟨z,hz,by rw [e];exact hb⟩
 have mv:∀x v,Cm E w (s.avoid E) s.next x v→Cm E w (({s with own:=Gc s.own k c'}:AS).avoid E) s.next x v:=fun x v hx=>
  hx.move (Nat.le_refl _) (fun _ _=>⟨rfl,rfl⟩) (fun _ _ _=>rfl) (fun b _ hb=>av b hb)
 obtain ⟨h⟩:=h
 refine h E a w ⟨hs.defers,hs.links,hs.size,fun i x hx=>mv _ _ (hs.slots i x hx),fun x hx=>?_,hs.boxes2,hs.keys,fun y hy=>?_,by rw [Pn];exact hs.ownkeys,fun y hy z hz hne=>?_,fun x hx y hy=>?_,hs.one,hs.base,fun b hb=>hs.fresh b (av b hb)⟩
 ·obtain ⟨h1,vs,ty,h2,h3,h4⟩:=hs.boxes x hx
  exact ⟨h1,vs,ty,h2,h3,fun i y hy=>mv _ _ (h4 i y hy)⟩
 ·rcases O4 hy with ⟨h1,h2,_⟩|⟨h1,_⟩
  ·obtain ⟨g1,g2,g3⟩:=hs.own _ hm
   rw [h1,h2]
   exact ⟨g1,hc.own g2,g3⟩
  exact hs.own y h1
 ·obtain ⟨y',hy',e1⟩:=Fm hy
  obtain ⟨z',hz',e2⟩:=Fm hz
  rw [←e1,←e2]
  exact hs.sep y' hy' z' hz' (by rw [e1,e2];exact hne)
 obtain ⟨y',hy',e1⟩:=Fm hy
 rw [←e1]
 exact hs.sepB x hx y' hy'
end Go.Sx
set_option maxRecDepth 100000
namespace Go.Sx
open Go
theorem B4h {α:Type} [Inhabited α] {es:Nat}{e:α→List Ac}{xs:List α}{x y:α}{row:Nat→List Ac}(h0:row 0=e x)(h1:row 1=e y):
  Pt xs.length 2 es (fun i=>e (xs.getD i default)) row (Is es e (xs++[x,y])):=by
 obtain ⟨r,hr,ha,hb⟩:=O5 es e xs [x,y]
 refine ⟨r,hr,ha,fun i hi=>?_⟩
 rw [hb i hi]
 match i,hi with
 | 0,_=>exact h0.symm
 | 1,_=>exact h1.symm
theorem B1o {α:Type} [Inhabited α] {es:Nat}{e:α→List Ac}{xs:List α}{x y z u:α}{row:Nat→List Ac}(h0:row 0=e x)(h1:row 1=e y)(h2:row 2=e z)(h3:row 3=e u):
  Pt xs.length 4 es (fun i=>e (xs.getD i default)) row (Is es e (xs++[x,y,z,u])):=by
 obtain ⟨r,hr,ha,hb⟩:=O5 es e xs [x,y,z,u]
 refine ⟨r,hr,ha,fun i hi=>?_⟩
 rw [hb i hi]
 match i,hi with
 | 0,_=>exact h0.symm
 | 1,_=>exact h1.symm
 | 2,_=>exact h2.symm
 | 3,_=>exact h3.symm
theorem Fx.rfl':∀l:List Ac,Fx l l
 | []=>trivial
 |_::l=>⟨.inl rfl,Fx.rfl' l⟩
theorem Lw {α:Type}(f:Nat→List α)(k:Nat):(List.range (k+1)).flatMap f=(List.range k).flatMap f++f k:=by
 rw [List.range_succ,List.flatMap_append];simp
def pW (w:Nat):List Cz:=[⟨1,w,0⟩,⟨3,w,0⟩,⟨2,w,0⟩,⟨7,w,0⟩]
def pK (w k:Nat):List Cz:=if (w:Int)=k then [] else [⟨4,w,k⟩,⟨5,w,k⟩]
def pA (n:Nat):List Cz:=(List.range n).flatMap pW
def pB (w j:Nat):List Cz:=(List.range j).flatMap (pK w)
def pC (n m:Nat):List Cz:=(List.range m).flatMap fun w=>pB w n
def pE (e:Nat):List Cz:=(List.range e).map fun e=>⟨6,(e:Nat),0⟩
def Rd (n:Nat):List Cz:=pA n++pC n n++pE 4
theorem A5u (k:Nat):pA (k+1)=pA k++pW k:=Lw _ _
theorem A5v (w k:Nat):pB w (k+1)=pB w k++pK w k:=Lw _ _
theorem A5w (n k:Nat):pC n (k+1)=pC n k++pB k n:=Lw _ _
theorem B35 (k:Nat):pE (k+1)=pE k++[⟨6,(k:Nat),0⟩]:=by simp [pE,List.range_succ]
theorem A35 (k:Nat):(pA k).length=4 * k:=by
 induction k with
 |zero=>rfl
 |succ k ih=>rw [A5u,List.length_append,ih];rfl
theorem B5v (w k:Nat):(pK w k).length≤2:=by unfold pK;split<;>simp
theorem B07 (w k:Nat):(pB w k).length≤2 * k:=by
 induction k with
 |zero=>exact Nat.le_refl _
 |succ k ih=>rw [A5v,List.length_append];have:=B5v w k;omega
theorem A36 (n k:Nat)(hn:n≤4):(pC n k).length≤8 * k:=by
 induction k with
 |zero=>exact Nat.le_refl _
 |succ k ih=>rw [A5w,List.length_append];have:=B07 k n;omega
theorem B08 (k:Nat):(pE k).length=k:=by simp [pE]
theorem Pz (n:Nat)(hn:n≤4):(Rd n).length≤52:=by
 have:=A36 n n hn
 simp only [Rd,List.length_append,A35,B08];omega
end Go.Sx
set_option maxRecDepth 100000
namespace Go.Sx
open Go
variable {P : Program} {T : List (TypeId × TI)}
def bnd (s:AS) (x:Option Operand) (d:Int):Option Int:=
 match x with
 |none=>some d
 |some y=>match s.ev y with
  | .c (.val (.int _ v))=>some v
  |_=>none
def B45 (x:Option Value) (l d:Int):Prop:=(x=none∧l=d)∨∃k,x=some (.int k l)
theorem Lr {B:Ax}{E:Cv}{a:Act}{w:World}{s:AS}(hs:s.is B E a w){x:Option Operand}{d l:Int}(h:bnd s x d=some l):B45 (x.map a.eval) l d:=by
 cases x with
 |none=>exact .inl ⟨rfl,(Option.some.inj h).symm⟩
 |some y=>
  refine .inr ?_
  simp only [bnd] at h
  have hd:=hs.ev y
  generalize s.ev y=z at h hd
  split at h
  ·rename_i k v
   obtain rfl:=Option.some.inj h
   have e:=Bc hd
   exact ⟨k,by simp [e]⟩
  cases h
def X2 (n es:Nat) (row:Nat→List Ac) (l h:Int) (c:Ac):Prop:=∃row',c= .sl (h-l).toNat es row'∧∀i,i<(h-l).toNat→row' i=row (l.toNat+i)
theorem Td {t e:TypeId}{i j:TI}(hi:TI.of P t=some i)(he:i.elem=some e)(hj:TI.of P e=some j){a:Option Addr}{len cap:Nat}{lo hi':Option Value}{l h:Int}
  (hl:B45 lo l 0)(hh:B45 hi' h len)(h0:0≤l)(h1:l≤h)(h2:h≤len)(h3:len≤cap)(w:World):
  (Instr.sliceAt t (.slice a len cap) lo hi' none).run P w= .ok (sliced a l.toNat h.toNat cap j.size) w:=by
 have hu:=Ch hi he
 have hel:P.elem t=e:=by simp [Program.elem,hu]
 have hu':P.underlying t=some (.slice (P.elem t)):=by rw [hel];exact hu
 have hz:∀w,(sizeOf (P.elem t)).run P w= .ok j.size w:=fun w=>by rw [hel];exact Bq hj w
 rw [run_sliceAt_slice w t _ _ _ _ hu']
 rcases hl with ⟨rfl,rfl⟩|⟨k1,rfl⟩<;>rcases hh with ⟨rfl,rfl⟩|⟨k2,rfl⟩
 ·rw [run_slice_all w t a len cap hu',hz];simp [Result.andThen]
 ·rw [run_slice_h w t a len cap hu' k2 h h1 Ab,hz];simp [Result.andThen]
 ·rw [run_slice_l w t a len cap hu' k1 l h0 Ab,hz];simp [Result.andThen]
 rw [run_slice_lh w t a len cap hu' k1 k2 l h h0 h1 Ab,hz];simp [Result.andThen]
theorem B39 {w:World}{A:Nat→Prop}{n es:Nat}{row:Nat→List Ac}{v:Value}(hr:L5 w A (.sl n es row) v){l h:Int}(h0:0≤l)(h1:l≤h)(h2:h≤n){c:Ac}(hc:X2 n es row l h c):
  ∃a cap,v= .slice a n cap∧n≤cap∧L5 w A c (sliced a l.toNat h.toNat cap es):=by
 obtain ⟨row',rfl,hrow⟩:=hc
 cases hr with
 |nil=>
  refine ⟨none,0,rfl,Nat.le_refl _,?_⟩
  have e1:l=0:=by omega
  have e2:h=0:=by omega
  subst e1;subst e2
  exact .nil _ _
 |emp _ _ a=>
  refine ⟨some a,0,rfl,Nat.le_refl _,?_⟩
  have e1:l=0:=by omega
  have e2:h=0:=by omega
  subst e1;subst e2
  exact .emp _ _ a
 |sl _ _ _ b off cap u hA hn hcap hl hu hrr=>
  refine ⟨_,cap,rfl,hn,?_⟩
  obtain ⟨p,rfl⟩:∃p:Nat,l=p:=⟨l.toNat,by omega⟩
  obtain ⟨q,rfl⟩:∃q:Nat,h=q:=⟨h.toNat,by omega⟩
  have e:((q:Int)-p).toNat=q-p:=by omega
  simp only [Int.toNat_natCast] at hrow ⊢
  rw [e] at hrow ⊢
  unfold sliced
  by_cases hcl:cap=p
  ·have e1:q-p=0:=by omega
   have e2:cap-p=0:=by omega
   rw [if_pos hcl,e1,e2]
   exact .emp _ _ _
  rw [if_neg hcl]
  have ea:(some (⟨b,off,none⟩:Addr)).map (fun x=>x.add (p * es))=some ⟨b,off+p * es,none⟩:=by
   simp only [Option.map_some,Addr.add]
   split
   ·rename_i h;rw [h];rfl
   rfl
  have eb:(some (⟨b,off,none⟩:Addr)).map (·.add (p * es))=some ⟨b,off+p * es,none⟩:=ea
  rw [eb]
  refine .sl (q-p) es row' b (off+p * es) (cap-p) (fun i j=>u (p+i) j) (fun h=>hA ?_) Ab Ab (fun i hi=>?_) (fun i j hi hj=>?_) (fun i j c hi hj=>?_)
  ·exact Nat.lt_of_lt_of_le h (Nat.mul_le_mul_right _ Ab)
  ·rw [hrow i hi];exact hl _ Ab
  ·have:=hu (p+i) j Ab hj
   rw [Nat.add_mul] at this
   rw [show off+p * es+i * es+j=off+(p * es+i * es)+j by omega]
   exact this
  rw [hrow i hi] at hj
  exact hrr (p+i) j c Ab hj
theorem Nn (hT:C7 P T){B:Ax}{Q:Exit→Act→World→Prop}{q:Bool}{all:Array Oper}{o:Oper}{rest:List Oper}{K:List KI}{s:AS}{t e:TypeId}{x:Operand}{lo hi:Option Operand}{i j:TI}
  (hg:o.guard=none)(ho:o.op= .slice t x lo hi none)(hi':find T t=some i)(he:i.elem=some e)(hj:find T e=some j)
  {n es:Nat}{row:Nat→List Ac}(hx:s.ev x= .c (.sl n es row))(hes:es=j.size){l h:Int}(hl:bnd s lo 0=some l)(hh:bnd s hi n=some h)
  (hb:0≤l∧l≤h∧h≤n)(c:Ac)(hc:X2 n es row l h c)
  (hgo:GW P B Q (.ops q all rest::K) (s.put o.dst (.c c))):GW P B Q (.ops q all (o::rest)::K) s:=by
 subst hes
 refine ⟨Dw hg (fun E a w hs=>?_)⟩
 have hd:=hs.ev x
 rw [hx] at hd
 cases hd with
 |c hr=>
  obtain ⟨ad,cap,hv,hcap,hrep⟩:=B39 hr hb.1 hb.2.1 hb.2.2 hc
  have h1:=Lr hs hl
  have h2:=Lr hs hh
  refine ⟨_,fun w' _=>?_,hgo.rec fun hg=>hg _ _ _ (hs.put o.dst (.c hrep))⟩
  have hrun:=Td (a:=ad) (hT t i hi') he (hT e j hj) h1 h2 hb.1 hb.2.1 hb.2.2 hcap w'
  obtain ⟨dst,op',ty,pos,after,guard⟩:=o
  simp only at ho
  subst ho
  simp [execOp,hv,hrun]
theorem A56 {α:Type} [Inhabited α] {es:Nat}{e:α→List Ac}{xs:List α}{l h:Int}(h0:0≤l)(h1:l≤h)(h2:h≤xs.length):
  X2 xs.length es (fun i=>e (xs.getD i default)) l h (Is es e ((xs.drop l.toNat).take (h-l).toNat)):=by
 have hlen:((xs.drop l.toNat).take (h-l).toNat).length=(h-l).toNat:=by simp;omega
 refine ⟨_,by rw [Is,hlen],fun i hi=>?_⟩
 simp [List.getD,hi]
end Go.Sx
set_option maxRecDepth 100000
namespace Go.Sx
open Go
open Go.RowKit (Below)
variable {P : Program} {T : List (TypeId × TI)}
def G2 (P:Program) (H:World→Prop) (f:FuncId) (ins outs:List Fz):Prop:=
 J2 P f∧∀(w:World),H w→∀(vs:List Value),vs.length=ins.length→(∀i x,ins[i]? =some x→Lk w (fun _=>False) x (vs.getD i undef))→
  Calls P f vs.toArray w fun e w'=>Kg w w' outs e
def A0p (H:World→Prop):Prop:=∀w w',Below w.heap.size w w'→H w→H w'
theorem Q3 {W w:World}(h:Ax.rel ⟨W,fun _=>False⟩ w):Below W.heap.size W w:=⟨h.os,h.tape,h.output,h.size,fun k hk=>h.block k hk (fun h=>h)⟩
theorem A6o {W:World}{H:World→Prop}{Q:Exit→Act→World→Prop}{q:Bool}{f:FuncId}{xs:List AV}{dst:Option Tmp}{K:List KI}{s:AS}{ins outs:List Fz}(hf:G2 P H f ins outs)(hst:A0p H)(hW:H W)(hx:Jc s xs=some ins)
  (h:G P ⟨W,fun _=>False⟩ Q K ((H0 outs s).2.put dst (H0 outs s).1)):Wy P ⟨W,fun _=>False⟩ Q q f xs dst K s:=by
 refine ⟨hf.1,fun E a w hs vs hl hv=>?_⟩
 obtain ⟨h1,h2⟩:=Jw hx
 refine (hf.2 w (hst W w (Q3 hs.base) hW) vs Ab (fun i x hi=>?_)).mono (fun e w' hg=>?_)
 ·obtain ⟨y,hy,hc⟩:=h2 i x hi
  exact L8 hs hc (hv i y hy)
 obtain ⟨hb,rs,fps,rfl,hrl,hro,hfr,hdis⟩:=hg
 have hA:=hs.call hb
 obtain ⟨E',hAd,hL,hD⟩:=Ju outs rs fps s E hA hrl hro (fun i hi=>(hfr i hi).1) hdis (fun i hi b hb'=>by
  have hge:=(hfr i hi).2 b hb'
  refine ⟨.inr hge,fun hav=>?_,.inl (Nat.le_trans hs.base.size hge)⟩
  have:=hs.avoid_lt hav
  omega)
 have hres:=Hx outs (D3 outs s).1 rs hrl hL hD
 rw [Rc] at h
 exact ⟨_,rfl,fun _=> .of_below hb,h E' _ w' ((hAd.isA.put dst hres).is)⟩
theorem A88 {W:World}{H:World→Prop}{Q:Exit→Act→World→Prop}{q:Bool}{f:FuncId}{xs:List AV}{dst:Option Tmp}{K:List KI}{s:AS}{ins outs:List Fz}(hf:G2 P H f ins outs)(hst:A0p H)(hW:H W)(hx:Jc s xs=some ins)
  (h:G P ⟨W,fun _=>False⟩ Q K (s.put dst (Y3 outs))):Wy P ⟨W,fun _=>False⟩ Q q f xs dst K s:=by
 refine ⟨hf.1,fun E a w hs vs hl hv=>?_⟩
 obtain ⟨h1,h2⟩:=Jw hx
 refine (hf.2 w (hst W w (Q3 hs.base) hW) vs Ab (fun i x hi=>?_)).mono (fun e w' hg=>?_)
 ·obtain ⟨y,hy,hc⟩:=h2 i x hi
  exact L8 hs hc (hv i y hy)
 obtain ⟨hb,rs,fps,rfl,hrl,hro,hfr,hdis⟩:=hg
 have hI:=(hs.call hb).is
 have hno:∀i,i<outs.length→∀b∈fps i,¬ s.avoid E b:=fun i hi b hb' hav=>by
  have:=hs.avoid_lt hav
  have:=(hfr i hi).2 b hb'
  omega
 have hone:∀i y,outs[i]? =some y→Cm E w' (s.avoid E) s.next (Kj y) (rs.getD i undef):=by
  intro i y hy
  have hi:i<outs.length:=(List.getElem?_eq_some_iff.1 hy).1
  have ho:=hro i y hy
  cases y with
  |one c=>exact .c (C5.rep ho (hno i hi))
  |agg cs=>
   obtain ⟨us,gps,hu,hul,hur,hfp⟩:=ho
   rw [hu]
   refine .agg us (by simp [hul]) (fun j x hj=>?_)
   simp only [List.getElem?_map,Option.map_eq_some_iff] at hj
   obtain ⟨c,hc,rfl⟩:=hj
   have hj:j<cs.length:=(List.getElem?_eq_some_iff.1 hc).1
   exact .c ((hur j c hc).rep (fun b hb'=>hno i hi b (by rw [hfp];exact Dc hj hb')))
  |ptr cs=>exact ho.elim
  |fn f caps=>exact ho.elim
 have hres:Cm E w' (s.avoid E) s.next (Y3 outs) (Ii rs):=by
  have:=Hx (E:=E) (A:=s.avoid E) (N:=s.next) (w:=w') outs (outs.map Kj) rs hrl Bw (fun i x hi=>by
   simp only [List.getElem?_map,Option.map_eq_some_iff] at hi
   obtain ⟨y,hy,rfl⟩:=hi
   exact hone i y hy)
  match outs,this with
  | [],this=>exact this
  | [o],this=>exact this
  |o1::o2::r,this=>exact this
 exact ⟨_,rfl,fun _=> .of_below hb,h E _ w' (hI.put dst hres)⟩
theorem B21 {H:World→Prop}{f:FuncId}{fn:Func}{c:Code}{ins outs:List Fz}(hf:P.funcs[f]? =some fn)(hb:fn.body=some c)(hn:(fn.name== "runtime.NumGoroutine")=false)
  (h:∀W,H W→G P ⟨W,fun _=>False⟩ (bodyPost P fn fun e w'=>Kg W w' outs e) [.code c] (F6 fn.ntmps ins)):G2 P H f ins outs:=by
 refine ⟨⟨fn,hf,hn,by simp [hb]⟩,fun w hH vs hl hv=>calls_of_wp hf hb ?_⟩
 refine h w hH ⟨fun _=> .slice none 0 0,fun _=>[]⟩ _ w ?_
 have nav:∀b,¬ (F6 fn.ntmps ins).avoid ⟨fun _=> .slice none 0 0,fun _=>[]⟩ b:=by
  rintro b (⟨x,hx,_⟩|⟨y,hy,_⟩)
  ·simp [F6] at hx
  simp [F6] at hy
 have nb:∀x,x∉(F6 fn.ntmps ins).boxes:=by simp [F6]
 have no:∀x,x∉(F6 fn.ntmps ins).own:=by simp [F6]
 refine ⟨rfl,by simp [F6],by simp [F6,hl],fun i x hx=>?_,fun x hx=>absurd hx (nb x),fun x hx=>absurd hx (nb x),by simp [F6],fun y hy=>absurd hy (no y),by simp [F6],fun y hy=>absurd hy (no y),fun x hx=>absurd hx (nb x),fun _ _=>rfl,
  ⟨rfl,rfl,rfl,Nat.le_refl _,fun _ _ _=>rfl⟩,fun b hb=>absurd hb (nav b)⟩
 simp only [F6] at hx
 by_cases hi:i<ins.length
 ·rw [List.getElem?_append_left (by simpa using hi)] at hx
  simp only [List.getElem?_map,Option.map_eq_some_iff] at hx
  obtain ⟨y,hy,rfl⟩:=hx
  have hr:=hv i y hy
  have hiv:i<vs.length:=by omega
  have e:(vs.toArray++Array.replicate (fn.ntmps-vs.toArray.size) undef).getD i undef=vs.getD i undef:=by
   simp [Array.getD,List.getD,hiv,show i<vs.length+(fn.ntmps-vs.length) by omega]
  rw [e]
  cases y with
  |one c=>exact .c (hr.move (fun _ _ _=>rfl) (fun b _ hb=>absurd hb (nav b)))
  |agg cs=>
   obtain ⟨us,hu,hul,hur⟩:=hr
   rw [hu]
   refine .agg us (by simp [hul]) (fun j x hj=>?_)
   simp only [List.getElem?_map,Option.map_eq_some_iff] at hj
   obtain ⟨c,hc,rfl⟩:=hj
   exact .c ((hur j c hc).move (fun _ _ _=>rfl) (fun b _ hb=>absurd hb (nav b)))
  |ptr cs=>exact hr.den (fun b hb=>absurd hb (nav b))
  |fn f caps=>
   obtain ⟨us,hu,hul,hur⟩:=hr
   rw [hu]
   refine .fn us (by simp [hul]) (fun j x hj=>?_)
   simp only [List.getElem?_map,Option.map_eq_some_iff] at hj
   obtain ⟨c,hc,rfl⟩:=hj
   have hr:=hur j c hc
   cases c with
   |one c=>exact .c (L5.move hr (fun _ _ _=>rfl) (fun b _ hb=>absurd hb (nav b)))
   |ptr cs=>exact Ll.den hr (fun b hb=>absurd hb (nav b))
 rw [List.getElem?_append_right (by simp;omega)] at hx
 obtain rfl:AV.any=x:=by
  have:=List.mem_of_getElem? hx
  simpa using (List.eq_of_mem_replicate this).symm
 exact .any _
theorem Kw (hT:C7 P T)(wr:Bool){H:World→Prop}{f:FuncId}{fn:Func}{c:Code}{ins outs:List Fz}(hf:P.funcs[f]? =some fn)(hb:fn.body=some c)(hn:(fn.name== "runtime.NumGoroutine")=false)
  (h:∀W,H W→Wv P ⟨W,fun _=>False⟩ (bodyPost P fn fun e w'=>Kg W w' outs e) (M6 T wr 100000 [.code c] (F6 fn.ntmps ins))):G2 P H f ins outs:=
 B21 hf hb hn fun W hW=>(go hT wr (h W hW)).rec id
theorem B49 {W:World}{H:World→Prop}{Q:Exit→Act→World→Prop}{q:Bool}{f:FuncId}{xs:List AV}{dst:Option Tmp}{K:List KI}{s:AS}{ins outs:List Fz}(hf:G2 P H f ins outs)(hst:A0p H)(hW:H W)(hx:Jc s xs=some ins)
  (h:GW P ⟨W,fun _=>False⟩ Q K ((H0 outs s).2.put dst (H0 outs s).1)):CW P ⟨W,fun _=>False⟩ Q q f xs dst K s:=⟨A6o hf hst hW hx (h.rec id)⟩
theorem F0 {W:World}{H:World→Prop}{Q:Exit→Act→World→Prop}{q:Bool}{f:FuncId}{xs:List AV}{dst:Option Tmp}{K:List KI}{s:AS}{ins outs:List Fz}(hf:G2 P H f ins outs)(hst:A0p H)(hW:H W)(hx:Jc s xs=some ins)
  (h:GW P ⟨W,fun _=>False⟩ Q K (s.put dst (Y3 outs))):CW P ⟨W,fun _=>False⟩ Q q f xs dst K s:=⟨A88 hf hst hW hx (h.rec id)⟩
end Go.Sx
set_option maxRecDepth 100000
namespace Go.Sx
open Go
def Hj (u:Nat):Nat→Nat
 | 0=>u
 |k+1=>Hj u k / 10
def Wl (u:Nat):Nat→List UInt8
 | 0=>[]
 |k+1=>UInt8.ofNat (48+Hj u k % 10)::Wl u k
theorem A2j (u k:Nat):(Wl u k).length=k:=by
 induction k with
 |zero=>rfl
 |succ k ih=>simp [Wl,ih]
theorem A5l (u k:Nat):Hj u k=u / 10 ^ k:=by
 induction k with
 |zero=>simp [Hj]
 |succ k ih=>rw [Hj,ih,Nat.div_div_eq_div_mul,Nat.pow_succ]
def B2f (u k:Nat):Prop:=(0<Hj u k∧Lib.decDigits u=Lib.decDigits (Hj u k)++Wl u k)∨(Hj u k=0∧Lib.decDigits u=Wl u k)
theorem A60 {u:Nat}(h:0<u):B2f u 0:= .inl ⟨h,by simp [Hj,Wl]⟩
theorem Xa {u k:Nat}(h:B2f u k)(hm:0<Hj u k):B2f u (k+1):=by
 rcases h with ⟨_,h⟩|⟨h,_⟩
 ·by_cases hs:Hj u k<10
  ·refine .inr ⟨by rw [Hj];omega,?_⟩
   rw [h,Lib.decDigits,dif_pos hs,Wl,Nat.mod_eq_of_lt hs];rfl
  refine .inl ⟨by rw [Hj];omega,?_⟩
  rw [h,Lib.decDigits,dif_neg hs,Wl,Hj];simp
 omega
theorem B3n (u k:Nat):Hj u k≤u:=by rw [A5l];exact Nat.div_le_self _ _
theorem B5p {u k:Nat}(hu:u≤9223372036854775808)(hm:0<Hj u k):k<19:=by
 rw [A5l] at hm
 by_cases h:k<19
 ·exact h
 exfalso
 have h1:10 ^ 19≤10 ^ k:=Nat.pow_le_pow_right Aw Ab
 have h2:u<10 ^ k:=Nat.lt_of_lt_of_le Ab h1
 rw [Nat.div_eq_of_lt h2] at hm
 omega
theorem B52 {σ:Int}(hσ:σ=1∨σ= -1)(m:Nat):(σ * (m:Int)).tdiv 10=σ * ((m / 10:Nat):Int):=by
 rcases hσ with rfl|rfl
 ·simp only [Int.one_mul];rw [Int.tdiv_eq_ediv_of_nonneg Ab];omega
 rw [show (-1:Int) * (m:Int)= -(m:Int) by omega,Int.neg_tdiv,Int.tdiv_eq_ediv_of_nonneg Ab];omega
theorem B53 {σ:Int}(hσ:σ=1∨σ= -1)(m:Nat):(σ * (m:Int)).tmod 10=σ * ((m % 10:Nat):Int):=by
 rcases hσ with rfl|rfl
 ·simp only [Int.one_mul];rw [Int.tmod_eq_emod_of_nonneg Ab];omega
 rw [show (-1:Int) * (m:Int)= -(m:Int) by omega,Int.neg_tmod,Int.tmod_eq_emod_of_nonneg Ab];omega
def P7 (n:Int):ByteArray:=⟨(Lib.itoa n).toArray⟩
end Go.Sx
set_option maxRecDepth 100000
namespace Go.Sx
open Go
open Go.RowKit (Below)
variable {P : Program}
theorem Ny {w w':World}{x:Value}(hb:Below w.heap.size w w')(h:x.oneCell'=true):Kg w w' [.one (.val x)] (.returned x):=
 ⟨hb,[x],fun _=>[],rfl,rfl,fun i y hi=>by
  cases i with
  |zero=>simp only [List.getElem?_cons_zero,Option.some.injEq] at hi;subst hi;exact .val x h
  |succ i=>simp at hi,fun i hi=>⟨List.nodup_nil,fun b hb=>by cases hb⟩,fun i j hi hj hne b hb=>by cases hb⟩
theorem Zp {w:World}{A:Nat→Prop}{x v:Value}(h:L5 w A (.val x) v):v=x:=by
 cases h;rfl
theorem A27 (w:World)(k:Nat)(os:Array Obj):Below w.heap.size w (Sort.grow (w.drewN k) os):=
 ⟨rfl,rfl,rfl,by rw [Sort.size_grow];exact Nat.le_add_right _ _,fun i hi=>(Sort.heap_grow_old (w.drewN k) os hi)⟩
theorem A8d {n:String}{cs:Array Value}{w w':World}(hb:Below w.heap.size w w')(h:w.var? P n=some cs):w'.var? P n=some cs:=by
 unfold World.var? at h ⊢
 cases hg:P.globalNamed n with
 |none=>rw [hg] at h;cases h
 |some g=>
  rw [hg] at h
  simp only [Option.bind_some] at h ⊢
  have hlt:g<w.heap.size:=by
   by_cases hlt:g<w.heap.size
   ·exact hlt
   exfalso;rw [Array.getElem?_eq_none Ab] at h;cases h
  rw [hb.block g hlt];exact h
theorem A0x {α:Type} [Inhabited α] {es:Nat}{e:α→List Ac}{x:α}{row:Nat→List Ac}(h0:row 0=e x):
  Gy (.sl 1 es row) (Is es e [x]):=by
 refine ⟨rfl,rfl,fun i hi=>?_⟩
 match i,hi with
 | 0,_=>rw [h0];exact Fx.rfl' _
theorem bsz (a:Array UInt8):(ByteArray.mk a).size=a.size:=rfl
theorem D7 {n:Int}(h:Ee .i64 n):(P7 n).size≤21:=by
 rw [P7,bsz,List.size_toArray];exact Lib.itoa_length_le n h.1 h.2
theorem Yl (b:UInt8)(l:List UInt8):(ByteArray.mk #[b])++(ByteArray.mk l.toArray)=ByteArray.mk (b::l).toArray:=by
 apply ByteArray.ext
 simp [ByteArray.data_append]
theorem Bn {n lo hi:Int}:Do n lo hi=false↔¬ (lo≤n∧n≤hi):=by
 rw [←As];simp
theorem B4r (n:Int):Ee .i64 (IntKind.wrap .i64 n):=by
 show _∧_
 simp only [IntKind.wrap,IntKind.bits,IntKind.signed,Bool.true_and]
 split
 ·rename_i h;simp at h;omega
 rename_i h;simp at h;omega
end Go.Sx
set_option maxRecDepth 100000
namespace Go.Sx
open Go
open Go.RowKit (Below)
variable {P : Program} {T : List (TypeId × TI)}
theorem B6g (hT:C7 P T)(wr:Bool){J:Type}{B:Ax}{Q:Exit→Act→World→Prop}{c:Code}{K:List KI}{s:AS}(fs:List Nat)(us:J→List (Nat×AV))(bs:J→List Bx)(os:J→List Ow)(φ:J→Prop)
  (h1:Wv P B Q (M6 T wr 100000 (.code c:: .loop (Inv B (fun j=>s.upd fs (us j) (bs j) (os j)) φ (fun _=>0) 1)::K) s))
  (h2:∀j,φ j→Wv P B Q (upK s.slots 0 fs (us j) fun slots=>M6 T wr 100000 K {s with slots:=slots,boxes:=bs j,own:=os j})):GW P B Q (.code c::K) s:=by
 refine ⟨fun E a w hs=>?_⟩
 have g1:G P B Q (.code c:: .loop (Inv B (fun j=>s.upd fs (us j) (bs j) (os j)) φ (fun _=>0) 1)::K) s:=(go hT wr h1).rec id
 refine Code.wp_mono (fun e a' w' hq=>?_) (g1 E a w hs)
 cases e with
 |normal=>
  obtain ⟨j,hj,_,E',hE'⟩:=(hq:Inv B (fun j=>s.upd fs (us j) (bs j) (os j)) φ (fun _=>0) 1 a' w')
  have g2:G P B Q K (s.upd fs (us j) (bs j) (os j)):=(go hT wr (by have:=h2 j hj;rw [B18] at this;exact this)).rec id
  exact g2 E' a' w' hE'
 |exit id=>exact hq
 |goto l=>exact hq
 |ret=>exact hq
 |panic c=>exact hq
 |outgrown=>exact hq
theorem B5i (n:Nat)(hT:C7 P T)(wr:Bool){f:FuncId}{fn:Func}{c:Code}{ins outs:List Fz}(hf:P.funcs[f]? =some fn)(hb:fn.body=some c)(hn:(fn.name== "runtime.NumGoroutine")=false)
  (h:∀W,Wv P ⟨W,fun _=>False⟩ (bodyPost P fn fun e w'=>Kg W w' outs e) (M6 T wr n [.code c] (F6 fn.ntmps ins))):Bo P f ins outs:=
 enter hf hb hn fun W=>B1q hT wr n _ _ (A4q _ (h W))
theorem goF (n:Nat)(hT:C7 P T)(wr:Bool){B:Ax}{Q:Exit→Act→World→Prop}{K:List KI}{s:AS}(h:Wv P B Q (M6 T wr n K s)):GW P B Q K s:=
 ⟨B1q hT wr n _ _ (A4q _ h)⟩
theorem B38 {w:World}{A:Nat→Prop}{xs:List ByteArray}{v:Value}(h:L5 w A (G0 xs) v):
  (∃a c,v= .slice a 0 c∧xs=[])∨(∃b o c,v= .slice (some ⟨b,o,none⟩) xs.length c∧xs.length≤c∧∀(j:Nat) x,xs[j]? =some x→w.cell? ⟨b,o+j,none⟩=some (.string x)):=by
 change L5 w A (.sl xs.length 1 fun i=>[vs (xs.getD i default)]) v at h
 generalize hn:xs.length=n at h
 generalize hrow:(fun i=>[vs (xs.getD i default)])=row at h
 cases h with
 |nil=>exact .inl ⟨none,0,rfl,List.eq_nil_of_length_eq_zero hn⟩
 |emp=>exact .inl ⟨_,0,rfl,List.eq_nil_of_length_eq_zero hn⟩
 |sl=>
  rename_i b off cap u hc hn' hA hu hr hl
  refine .inr ⟨b,off,cap,rfl,hn',fun j x hx=>?_⟩
  have hj:j<xs.length:=(List.getElem?_eq_some_iff.1 hx).1
  have h1:=hu j 0 Ab Ab
  have h2:=hr j 0 (vs x) Ab (by rw [←hrow];simp [List.getD,hx])
  rw [Nat.mul_one,Nat.add_zero] at h1
  rw [h1]
  exact congrArg some (Zp h2)
def Gb (l:List ByteArray):ByteArray:=⟨(Lib.join (l.map (·.data.toList)) [32]).toArray⟩
theorem A7g (l:List (List UInt8))(t sep:List UInt8)(h:l≠[]):Lib.join (l++[t]) sep=Lib.join l sep++sep++t:=by
 match l,h with
 |x::r,_=>
  rw [List.cons_append,Lib.join_cons,Lib.join_cons]
  simp [Lib.joinTail]
theorem A7f (t:ByteArray):Gb [t]=t:=by
 simp [Gb,Lib.join_one]
theorem A3u (l:List ByteArray)(t:ByteArray)(h:l≠[]):Gb (l++[t])=Gb l++⟨#[32]⟩++t:=by
 apply ByteArray.ext
 simp only [Gb,List.map_append,List.map_cons,List.map_nil,ByteArray.data_append]
 rw [A7g _ _ _ (by simpa using h)]
 simp
end Go.Sx
set_option maxRecDepth 100000
namespace Go.Sx
open Go
open Go.RowKit (Below)
variable {P : Program} {T : List (TypeId × TI)}
end Go.Sx
set_option maxRecDepth 100000
namespace Go.Sx
open Go
variable {P : Program} {T : List (TypeId × TI)}
end Go.Sx
set_option maxRecDepth 100000
namespace Go.Sx
open Go
def isD (b:UInt8):Prop:=48≤b.toNat∧b.toNat≤57
instance (b:UInt8):Decidable (isD b):=by unfold isD;infer_instance
def B6i (n:Nat) (b:UInt8):Nat:=10 * n+(b.toNat-48)
def B5g (acc:Nat) (l:List UInt8):Nat:=l.foldl B6i acc
def rd (s:ByteArray):Option Nat:=if B5g 0 s.data.toList≤1000000000∧P7 (B5g 0 s.data.toList:Nat)=s then some (B5g 0 s.data.toList) else none
end Go.Sx
set_option maxRecDepth 100000
namespace Go.Sx
open Go
def okB (s:ByteArray):Prop:=∀b∈s.data.toList,32≤b.toNat∧b.toNat≤126
instance (s:ByteArray):Decidable (okB s):=by unfold okB;infer_instance
def B23 (s:ByteArray):List ByteArray:=(Lib.fields s.data.toList).map fun l=>⟨l.toArray⟩
def A8s (s:ByteArray):Prop:=s.size≤600∧okB s∧(B23 s).length≤12
instance (s:ByteArray):Decidable (A8s s):=by unfold A8s;infer_instance
end Go.Sx
set_option maxRecDepth 100000
namespace Go.Sx
open Go
end Go.Sx
set_option maxRecDepth 100000
namespace Go.Sx
open Go
end Go.Sx
set_option maxRecDepth 100000
namespace Go.Sx
open Go
open Go.RowKit (Below)
variable {P : Program} {T : List (TypeId × TI)}
theorem RW.mono {B:Ax}{Q Q':Exit→Act→World→Prop}{s:AS}(h:∀a w,Q .ret a w→Q' .ret a w)(hr:RW B Q s):RW B Q' s:=
 ⟨fun E a w hs=>h a w (hr.rec (fun g=>g E a w hs))⟩
end Go.Sx
