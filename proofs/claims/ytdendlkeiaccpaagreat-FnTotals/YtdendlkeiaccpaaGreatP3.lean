/- Part 3 of the proof that each of the laws FnTotals returns true for every input. No conditions. -/
import Derived.Test.YtdendlkeiaccpaaGreatP2
import Derived.Laws.BytesArg
import Derived.Lib.ItoaNum
import Derived.Sort.Grow
import Derived.Deep.Draws
import Derived.Lib.ItoaLen
import Derived.Lib.Join
import Derived.WideLaws
import Derived.Laws.Strings2
import Derived.Lib.AtoiAll
import Derived.Lib.Fields

set_option linter.unusedSimpArgs false
set_option linter.unusedVariables false
namespace Go.Sx
variable {P : Program} {T : List (TypeId × TI)}
theorem GW.out {B:B0}{Q:Exit→Act→World→Prop}{K:List KI}{s:AS}(h:GW P B Q K s):G P B Q K s:=h.rec fun h=>h
theorem Uo {w:World}{n es:Nat}{row:Nat→List Ae}{b off cap:Nat}{ty:TypeId}{cells:Array Value}{fps:Nat→List Nat}(hn:n≤cap)(hc:cap≤maxLen)
  (hb:w.heap[b]? =some (.cells cells ty (0,0)))(hs:(off+cap) * es≤cells.size)(hl:∀i,i<n→(row i).length=es)
  (hr:∀i j c,i<n→(row i)[j]? =some c→C1 w c (cells.getD ((off+i) * es+j) undef) (fps (i * es+j)))
  (hnd:(b::(List.range (n * es)).flatMap fps).Nodup)
  {j o:Nat}(hj:j<n)(ho:o<es){c:Ae}{g:List Nat}(hg:C1 w c (cells.getD ((off+j) * es+o) undef) g)(hgn:g.Nodup)
  (hgd:∀x∈g,x≠b∧∀k,k<n * es→k≠j * es+o→x∉fps k){c':Ae}(hu:O2 n es row j o [c] c'):
  C1 w c' (.slice (some ⟨b,off * es,none⟩) n cap) (b::(List.range (n * es)).flatMap (fun k=>if k=j * es+o then g else fps k))∧
   (b::(List.range (n * es)).flatMap (fun k=>if k=j * es+o then g else fps k)).Nodup:=by
 obtain ⟨row',rfl,hu1,hu2⟩:=hu
 obtain ⟨hb0,hnd1⟩:=List.nodup_cons.1 hnd
 constructor
 ·refine .sl n es row' b off cap ty cells _ hn hc hb hs (fun i hi=>?_) (fun i m d hi hd=>?_)
  ·by_cases e:i=j
   ·subst e
    rw [hu2]
    simp [Cy,hl i hi]
    omega
   rw [hu1 i hi e];exact hl i hi
  by_cases e:i=j
  ·subst e
   rw [hu2] at hd
   have hl1:(List.take o (row i)).length=o:=by simp [hl i hi];omega
   simp only [Cy] at hd
   by_cases h1:m=o
   ·subst h1
    rw [if_pos rfl]
    rw [List.append_assoc,List.getElem?_append_right Ab,hl1,Nat.sub_self] at hd
    simp only [List.cons_append,List.getElem?_cons_zero,Option.some.injEq] at hd
    subst hd
    exact hg
   rw [if_neg Ab]
   refine hr i m d hi ?_
   by_cases h2:m<o
   ·rw [List.append_assoc,List.getElem?_append_left Ab,List.getElem?_take,if_pos h2] at hd
    exact hd
   rw [List.getElem?_append_right (by simp [hl i hi];omega)] at hd
   simp only [List.length_append,hl1,List.getElem?_drop,List.length_singleton] at hd
   rwa [show o+1+(m-(o+1))=m by omega] at hd
  rw [hu1 i hi e] at hd
  have hml:m<es:=by have:=(List.getElem?_eq_some_iff.1 hd).1;rw [hl i hi] at this;exact this
  have hne:i * es+m≠j * es+o:=by
   intro h
   rcases Nat.lt_or_gt_of_ne e with h'|h'
   ·have:(i+1) * es≤j * es:=Nat.mul_le_mul_right _ h'
    rw [Nat.add_mul] at this
    omega
   have:(j+1) * es≤i * es:=Nat.mul_le_mul_right _ h'
   rw [Nat.add_mul] at this
   omega
  rw [if_neg hne]
  exact hr i m d hi hd
 obtain ⟨f1,f2⟩:=C4.1 hnd1
 refine List.nodup_cons.2 ⟨fun h=>?_,C4.2 ⟨fun k hk=>?_,?_⟩⟩
 ·obtain ⟨k,hk,hx⟩:=List.mem_flatMap.1 h
  split at hx
  ·exact (hgd b hx).1 rfl
  exact hb0 (Db (List.mem_range.1 hk) hx)
 ·split
  ·exact hgn
  exact f1 k hk
 refine List.Pairwise.imp_of_mem ?_ ((List.nodup_range (n:=n * es)).and f2)
 intro p q hp hq ⟨hne,hpq⟩ z hz hz'
 split at hz
 ·split at hz'
  ·omega
  exact (hgd z hz).2 q (List.mem_range.1 hq) (by assumption) hz'
 split at hz'
 ·exact (hgd z hz').2 p (List.mem_range.1 hp) (by assumption) hz
 exact hpq z hz hz'
def Kz (c:Ae):Bool:=
 match c with
 | .sl _ _ _=>true
 |_=>false
theorem C7 (hT:Cn P T){B:B0}{Q:Exit→Act→World→Prop}{q:Bool}{all:Array Oper}{o:Oper}{rest:List Oper}{K:List KI}{s:AS}{x:Operand}{t:TypeId}{i:TI}
  (hg:o.guard=none)(ho:o.op= .load t x)(hi:E9 T t=some i)(hag:i.agg=false){k es off n:Nat}{j:Int}{row:Nat→List Ae}
  (hx:s.ev x= .oel k es j off)(hk:Bw s.own k=some (.sl n es row)){c:Ae}(hc:(row j.toNat)[off]? =some c)
  (h:∀v,GW P B Q (.ops q all rest::K) (({s with own:=⟨s.next,c⟩::⟨k,.sl n es fun i=>if i=j.toNat then Cy (row i) off [.val v] else row i⟩::Bl [k] s.own,next:=s.next+1,links:=(s.next,v)::s.links}:AS).put o.dst (.own s.next))):
  GW P B Q (.ops q all (o::rest)::K) s:=by
 refine ⟨Ei hg (fun E a w hs=>?_)⟩
 have hm:=Ck hk
 obtain ⟨hklt,o2,o3⟩:=hs.own _ hm
 simp only at o2 o3 hklt
 have hev:=hs.ev x
 rw [hx] at hev
 generalize hv:a.eval x=v at hev
 cases hev with
 |oel _ b o' n' cap hkl hov h0 hj=>
  rw [hov] at o2
  generalize hfp:E.fp k=fp at o2 o3
  obtain ⟨jn,rfl⟩:=Int.eq_ofNat_of_zero_le h0
  simp only [Int.toNat_natCast,Int.ofNat_lt] at *
  cases o2 with
  |emp=>exact absurd hj (Nat.not_lt_zero _)
  |sl _ _ _ _ offb _ ty cells fps hn hcp hb hcs hl hr=>
   have hoff:off<es:=by have:=(List.getElem?_eq_some_iff.1 hc).1;rwa [hl jn hj] at this
   have hin:=hr jn off c hj hc
   obtain ⟨hb0,hnd1⟩:=List.nodup_cons.1 o3
   obtain ⟨f1,f2⟩:=C4.1 hnd1
   have hpos:jn * es+off<n * es:=Fb hj hoff
   have hcl:(offb+jn) * es+off<cells.size:=by
    have:=Fb (show offb+jn<offb+cap by omega) hoff
    omega
   generalize hu:cells.getD ((offb+jn) * es+off) undef=u at hin
   have hdis:∀z∈fps (jn * es+off),z≠b∧∀k,k<n * es→k≠jn * es+off→z∉fps k:=by
    intro z hz
    refine ⟨fun e=>hb0 (e▸Db hpos hz),fun k hk hne hz'=>?_⟩
    have hp:=List.pairwise_iff_getElem.1 f2
    rcases Nat.lt_or_gt_of_ne hne with h'|h'
    ·have:=hp k (jn * es+off) (by simpa using hk) (by simpa using hpos) h' z
     simp only [List.getElem_range] at this
     exact this hz' hz
    have:=hp (jn * es+off) k (by simpa using hpos) (by simpa using hk) h' z
    simp only [List.getElem_range] at this
    exact this hz hz'
   have hone:u.oneCell'=true:=hin.one
   obtain ⟨s1,s2⟩:=Uo hn hcp hb hcs hl hr o3 hj hoff (c:= .val u) (g:=[]) (by rw [hu];exact .val u hone) Cg Cg
    (c':= .sl n es fun i=>if i=jn then Cy (row i) off [.val u] else row i) ⟨_,rfl,fun i _ hne=>by simp [hne],by simp⟩
   have hI:=hs.drop [k]
   have key:∀z,z∈b::(List.range (n * es)).flatMap fps→s.avoid E z∧¬ ({s with own:=Bl [k] s.own}:AS).avoid E z∧B.fresh z:=by
    intro z hz
    have hzk:z∈E.fp k:=by rw [hfp];exact hz
    have hav:s.avoid E z:= .inr ⟨_,hm,hzk⟩
    refine ⟨hav,?_,hs.fresh z hav⟩
    rintro (⟨r,hr',rfl⟩|⟨r,hr',hz'⟩)
    ·exact hs.sepB r hr' _ hm hzk
    obtain ⟨q1,q2⟩:=C5.1 hr'
    exact hs.sep _ hm r q1 (fun e=>q2 (by simp at e;simp [e])) z hzk hz'
   have sub1:∀z,z∈b::(List.range (n * es)).flatMap (fun k=>if k=jn * es+off then [] else fps k)→z∈b::(List.range (n * es)).flatMap fps:=by
    intro z hz
    rcases List.mem_cons.1 hz with rfl|hz
    ·simp
    obtain ⟨p,hp,hz⟩:=List.mem_flatMap.1 hz
    split at hz
    ·simp at hz
    exact List.mem_cons_of_mem _ (List.mem_flatMap.2 ⟨p,hp,hz⟩)
   have hI3:=hI.addAt (k:=k) hklt (fun y' hy=>fun e=>(C5.1 hy).2 (by rw [e];simp)) (by rw [hov];exact s1) s2 (fun z hz=>key z (sub1 z hz))
   have hav3:∀z,z∈fps (jn * es+off)→¬ ({s with own:=⟨k,.sl n es fun i=>if i=jn then Cy (row i) off [.val u] else row i⟩::Bl [k] s.own}:AS).avoid (E.setFp k (b::(List.range (n * es)).flatMap (fun k=>if k=jn * es+off then [] else fps k))) z:=by
    intro z hz
    have hzin:z∈b::(List.range (n * es)).flatMap fps:=List.mem_cons_of_mem _ (Db hpos hz)
    rintro (⟨r,hr',rfl⟩|⟨r,hr',hz'⟩)
    ·exact (key _ hzin).2.1 (.inl ⟨r,hr',rfl⟩)
    rcases List.mem_cons.1 hr' with rfl|hr'
    ·simp only [Cz.setFp,if_true] at hz'
     rcases List.mem_cons.1 hz' with rfl|hz'
     ·exact (hdis _ hz).1 rfl
     obtain ⟨p,hp,hz'⟩:=List.mem_flatMap.1 hz'
     split at hz'
     ·simp at hz'
     exact (hdis z hz).2 p (List.mem_range.1 hp) (by assumption) hz'
    have hne:r.key≠k:=fun e=>(C5.1 hr').2 (by rw [e];simp)
    simp only [Cz.setFp,hne,if_false] at hz'
    exact (key z hzin).2.1 (.inr ⟨r,hr',hz'⟩)
   obtain ⟨k1,k2⟩:=hI3.addOwn hin (f1 _ (List.mem_range.2 hpos)) (fun z hz=>⟨(key z (List.mem_cons_of_mem _ (Db hpos hz))).1,hav3 z hz,(key z (List.mem_cons_of_mem _ (Db hpos hz))).2.2⟩)
   have k3:({s with own:=⟨s.next,c⟩::⟨k,.sl n es fun i=>if i=jn then Cy (row i) off [.val u] else row i⟩::Bl [k] s.own,next:=s.next+1,links:=(s.next,u)::s.links}:AS).isA B
     ((E.setFp k (b::(List.range (n * es)).flatMap (fun k=>if k=jn * es+off then [] else fps k))).withOwn s.next u (fps (jn * es+off))) (s.avoid E) a w:=by
    refine ⟨k1.defers,fun p hp=>?_,k1.size,k1.slots,k1.boxes,k1.boxes2,k1.keys,k1.own,k1.ownkeys,k1.sep,k1.sepB,k1.one,k1.base,k1.fresh,k1.sub⟩
    rcases List.mem_cons.1 hp with rfl|hp
    ·exact ⟨Nat.lt_succ_self _,by simp [Cz.withOwn]⟩
    exact k1.links p hp
   refine ⟨u,fun w' hkw=>?_,(h u).out _ _ w ((k3.put o.dst k2).is)⟩
   obtain ⟨dst,op',ty',pos,after,guard⟩:=o
   simp only at ho
   subst ho
   obtain ⟨f,d,z,S⟩:=TI.of_spec (hT t i hi)
   have hd:Gt d=false:=by rw [←S.agg];exact hag
   have h1:=S.one hd
   have hrun:=Fv (hT t i hi) w' b (offb * es+jn * es+off) ((List.range i.size).map fun _=>u) Cg (fun p hp=>by
    obtain rfl:p=0:=by omega
    refine hkw.cell ?_
    rw [show offb * es+jn * es+off+0=(offb+jn) * es+off by rw [Nat.add_mul];omega,cell_of_row w b _ cells ty (0,0) hb]
    simp only [h1,List.range_one,List.map_cons,List.map_nil,List.getD_cons_zero]
    rw [←hu,Array.getD_eq_getD_getElem?]
    simp [hcl])
   simp only [execOp,hv,Instr.loadAt,Instr.sureAddr,Sem.run_bind,Sem.run_pure,Result.andThen_ok,hrun,hag,h1]
   rfl
theorem B1i {B:B0}{Q:Exit→Act→World→Prop}{K:List KI}{s:AS}(k k2:Nat){n es:Nat}{row:Nat→List Ae}{j off:Nat}{v:Value}{c:Ae}(hk:Bw s.own k=some (.sl n es row))
  (hj:j<n)(hc:(row j)[off]? =some (.val v))(h2:Bw s.own k2=some c)(hl:En s.links k2=some v)(hne:Nat.beq k k2=false)(c':Ae)(hu:O2 n es row j off [c] c')
  (h:GW P B Q K {s with own:=⟨k,c'⟩::Bl [k,k2] s.own}):GW P B Q K s:=by
 refine ⟨fun E a w hs=>?_⟩
 have hm:=Ck hk
 have hm2:=Ck h2
 have hkk:k≠k2:=fun e=>by subst e;simp at hne
 obtain ⟨hklt,o2,o3⟩:=hs.own _ hm
 obtain ⟨hklt2,p2,p3⟩:=hs.own _ hm2
 simp only at o2 o3 hklt p2 p3 hklt2
 have hlv:=(hs.links _ (Hn hl)).2
 simp only at hlv
 have hI:=hs.drop [k,k2]
 have key:∀z,(z∈E.fp k∨z∈E.fp k2)→s.avoid E z∧¬ ({s with own:=Bl [k,k2] s.own}:AS).avoid E z∧B.fresh z:=by
  intro z hz
  have:∃y∈s.own,y.key∈[k,k2]∧z∈E.fp y.key:=by
   rcases hz with hz|hz
   ·exact ⟨_,hm,by simp,hz⟩
   exact ⟨_,hm2,by simp,hz⟩
  obtain ⟨y,hy,hyk,hz⟩:=this
  have hav:s.avoid E z:= .inr ⟨_,hy,hz⟩
  refine ⟨hav,?_,hs.fresh z hav⟩
  rintro (⟨r,hr',rfl⟩|⟨r,hr',hz'⟩)
  ·exact hs.sepB r hr' _ hy hz
  obtain ⟨q1,q2⟩:=C5.1 hr'
  exact hs.sep _ hy r q1 (fun e=>q2 (e▸hyk)) z hz hz'
 have hsep:=hs.sep _ hm _ hm2 hkk
 generalize hov:E.ov k=vv,hfp:E.fp k=fp at o2 o3
 cases o2 with
 |nil=>omega
 |emp=>omega
 |sl _ _ _ b offb cap ty cells fps hn hcp hb hcs hl' hr=>
  have hoff:off<es:=by have:=(List.getElem?_eq_some_iff.1 hc).1;rwa [hl' j hj] at this
  have hin:=hr j off _ hj hc
  generalize hu':cells.getD ((offb+j) * es+off) undef=u at hin
  have huv:u=v:=by
   revert hin
   generalize fps (j * es+off)=g
   intro hin
   cases hin;rfl
  obtain ⟨s1,s2⟩:=Uo hn hcp hb hcs hl' hr o3 hj hoff (c:=c) (g:=E.fp k2) (by rw [hu',huv,←hlv];exact p2) p3 (fun z hz=>by
   refine ⟨fun e=>?_,fun p hp _ hz'=>?_⟩
   ·subst e
    exact hsep z (by simp only [hfp];simp) hz
   exact hsep z (by simp only [hfp];exact List.mem_cons_of_mem _ (Db hp hz')) hz) hu
  have hI3:=hI.addAt (k:=k) hklt (fun y' hy=>fun e=>(C5.1 hy).2 (by rw [e];simp)) (by rw [hov];exact s1) s2 (fun z hz=>by
   rcases List.mem_cons.1 hz with rfl|hz
   ·exact key z (.inl (by rw [hfp];simp))
   obtain ⟨p,hp,hz⟩:=List.mem_flatMap.1 hz
   split at hz
   ·exact key z (.inr hz)
   exact key z (.inl (by rw [hfp];exact List.mem_cons_of_mem _ (List.mem_flatMap.2 ⟨p,hp,hz⟩))))
  exact h.out _ a w hI3.is
theorem B5r {B:B0}{Q:Exit→Act→World→Prop}{K:List KI}{s:AS}(i es:Nat)(row:Nat→List Ae)(hi:Gm s.slots i= .c (.val (.slice none 0 0)))
  (h:GW P B Q K {s with slots:=Cm s.slots i (.own s.next),own:=⟨s.next,.sl 0 es row⟩::s.own,next:=s.next+1}):GW P B Q K s:=by
 refine ⟨fun E a w hs=>?_⟩
 have hI:s.isA B E (s.avoid E) a w:=⟨hs.defers,hs.links,hs.size,hs.slots,hs.boxes,hs.boxes2,hs.keys,hs.own,hs.ownkeys,hs.sep,hs.sepB,hs.one,hs.base,hs.fresh,fun _ h=>h⟩
 obtain ⟨k1,k2⟩:=hI.addOwn (.nil es row) Cg Cg
 have k3:=k1.is
 refine h.out (E.withOwn s.next (.slice none 0 0) []) a w ⟨k3.defers,k3.links,by rw [k3.size];exact (Ci _ _ _).symm,fun m z hz=>?_,k3.boxes,k3.boxes2,k3.keys,k3.own,k3.ownkeys,k3.sep,k3.sepB,k3.one,k3.base,k3.fresh⟩
 simp only at hz
 rw [Dh] at hz
 split at hz
 ·rename_i hm
  obtain ⟨rfl,hm⟩:=hm
  obtain rfl:=Option.some.inj hz
  have hd:=hs.slots i (.c (.val (.slice none 0 0))) (by rw [Co,List.getElem?_eq_getElem hm] at hi;rw [List.getElem?_eq_getElem hm];simpa using hi)
  rw [Bn hd]
  have:Cu (E.withOwn s.next (.slice none 0 0) []) w _ _ (.own s.next) (.slice none 0 0):=k2
  exact this.move (Nat.le_refl _) (fun _ _=>⟨rfl,rfl⟩) (fun _ _ _=>rfl) (fun b _ hb=>k1.sub b hb)
 exact k3.slots m z hz
end Go.Sx
namespace Go.Sx
abbrev Ap (xs:List Int):Ae:=Kt 1 (fun n=>[vi n]) xs
abbrev Eg (xs:List Bool):Ae:=Kt 1 (fun b=>[vb b]) xs
structure Bs where
 epoch:Int
 turn:Int
 deriving Inhabited,DecidableEq
def Bs.c (x:Bs):List Ae:=[vi x.epoch,vi x.turn]
structure Bq where
 stamp:Bs
 n:Int
 deriving Inhabited,DecidableEq
def Bq.c (x:Bq):List Ae:=[vi x.stamp.epoch,vi x.stamp.turn,vi x.n]
abbrev Cw (xs:List Bq):Ae:=Kt 3 Bq.c xs
structure A9 where
 op:Int
 stamp:Bs
 key:Int
 val:Int
 deriving Inhabited,DecidableEq
def A9.c (x:A9):List Ae:=[vi x.op,vi x.stamp.epoch,vi x.stamp.turn,vi x.key,vi x.val]
abbrev Aa (xs:List A9):Ae:=Kt 5 A9.c xs
structure B8 where
 cap:Int
 queue:List A9
 credits:Int
 back:Int
 sent:Int
 got:Int
 deriving Inhabited,DecidableEq
def B8.c (x:B8):List Ae:=[vi x.cap,Aa x.queue,vi x.credits,vi x.back,vi x.sent,vi x.got]
abbrev Ct (xs:List B8):Ae:=Kt 6 B8.c xs
structure An where
 kind:Int
 a:Int
 b:Int
 outs:List Int
 deriving Inhabited,DecidableEq
def An.c (x:An):List Ae:=[vi x.kind,vi x.a,vi x.b,Ap x.outs]
abbrev Br (xs:List An):Ae:=Kt 4 An.c xs
structure Ao where
 nodes:List An
 workers:Int
 cap:Int
 deriving Inhabited,DecidableEq
def Ao.c (x:Ao):List Ae:=[Br x.nodes,vi x.workers,vi x.cap]
structure Be where
 op:Int
 epoch:Int
 key:Int
 val:Int
 deriving Inhabited,DecidableEq
def Be.c (x:Be):List Ae:=[vi x.op,vi x.epoch,vi x.key,vi x.val]
abbrev Bg (xs:List Be):Ae:=Kt 4 Be.c xs
structure Fi where
 epoch:Int
 capped:Bool
 deriving Inhabited,DecidableEq
def Fi.c (x:Fi):List Ae:=[vi x.epoch,vb x.capped]
abbrev Il (xs:List Fi):Ae:=Kt 2 Fi.c xs
structure Ac where
 queue:List A9
 staged:List A9
 inputs:List A9
 cells:List Be
 sums:List Int
 black:List Bool
 caps:List Bool
 dones:List Fi
 deriving Inhabited,DecidableEq
def Ac.c (x:Ac):List Ae:=[Aa x.queue,Aa x.staged,Aa x.inputs,Bg x.cells,Ap x.sums,Eg x.black,Eg x.caps,Il x.dones]
abbrev Ar (xs:List Ac):Ae:=Kt 8 Ac.c xs
structure Di where
 going:Bool
 at_:Int
 sum:Int
 black:Bool
 capped:Bool
 deriving Inhabited,DecidableEq
def Di.c (x:Di):List Ae:=[vb x.going,vi x.at_,vi x.sum,vb x.black,vb x.capped]
abbrev C9 (xs:List Di):Ae:=Kt 5 Di.c xs
structure Fm where
 to_:Int
 epoch:Int
 capped:Bool
 deriving Inhabited,DecidableEq
def Fm.c (x:Fm):List Ae:=[vi x.to_,vi x.epoch,vb x.capped]
abbrev Ch (xs:List Fm):Ae:=Kt 3 Fm.c xs
structure A6 where
 graph:Ao
 workers:List Ac
 links:List B8
 tokens:List Di
 news:List Fm
 deriving Inhabited,DecidableEq
def A6.c (x:A6):List Ae:=[Br x.graph.nodes,vi x.graph.workers,vi x.graph.cap,Ar x.workers,Ct x.links,C9 x.tokens,Ch x.news]
structure D5 where
 kind:Int
 a:Int
 b:Int
 deriving Inhabited,DecidableEq
def D5.c (x:D5):List Ae:=[vi x.kind,vi x.a,vi x.b]
abbrev F7 (xs:List D5):Ae:=Kt 3 D5.c xs
structure Ke where
 graph:Ao
 inputs:List A9
 picks:List D5
 rounds:Int
 deriving Inhabited,DecidableEq
def Ke.c (x:Ke):List Ae:=[Br x.graph.nodes,vi x.graph.workers,vi x.graph.cap,Aa x.inputs,F7 x.picks,vi x.rounds]
def wS {α:Type} (w:α→Nat) (xs:List α):Nat:=xs.length+(xs.map w).sum
def Bs.ok (x:Bs):Prop:=Et .i64 x.epoch∧Et .i64 x.turn
def Bq.ok (x:Bq):Prop:=x.stamp.ok∧Et .i64 x.n
def A9.ok (x:A9):Prop:=Et .i64 x.op∧x.stamp.ok∧Et .i64 x.key∧Et .i64 x.val
def B8.w (x:B8):Nat:=x.queue.length
def B8.ok (x:B8):Prop:=Et .i64 x.cap∧(x.queue.length≤maxLen∧∀y∈x.queue,y.ok)∧Et .i64 x.credits∧Et .i64 x.back∧Et .i64 x.sent∧Et .i64 x.got
def An.w (x:An):Nat:=x.outs.length
def An.ok (x:An):Prop:=Et .i64 x.kind∧Et .i64 x.a∧Et .i64 x.b∧(x.outs.length≤maxLen∧∀y∈x.outs,Et .i64 y)
def Ao.w (x:Ao):Nat:=wS An.w x.nodes
def Ao.ok (x:Ao):Prop:=(x.nodes.length≤maxLen∧∀y∈x.nodes,y.ok)∧Et .i64 x.workers∧Et .i64 x.cap
def Be.ok (x:Be):Prop:=Et .i64 x.op∧Et .i64 x.epoch∧Et .i64 x.key∧Et .i64 x.val
def Fi.ok (x:Fi):Prop:=Et .i64 x.epoch
def Ac.w (x:Ac):Nat:=x.queue.length+x.staged.length+x.inputs.length+x.cells.length+x.sums.length+x.black.length+x.caps.length+x.dones.length
def Ac.ok (x:Ac):Prop:=(x.queue.length≤maxLen∧∀y∈x.queue,y.ok)∧(x.staged.length≤maxLen∧∀y∈x.staged,y.ok)∧(x.inputs.length≤maxLen∧∀y∈x.inputs,y.ok)∧(x.cells.length≤maxLen∧∀y∈x.cells,y.ok)∧(x.sums.length≤maxLen∧∀y∈x.sums,Et .i64 y)∧x.black.length≤maxLen∧x.caps.length≤maxLen∧(x.dones.length≤maxLen∧∀y∈x.dones,y.ok)
def Di.ok (x:Di):Prop:=Et .i64 x.at_∧Et .i64 x.sum
def Fm.ok (x:Fm):Prop:=Et .i64 x.to_∧Et .i64 x.epoch
def A6.w (x:A6):Nat:=x.graph.w+wS Ac.w x.workers+wS B8.w x.links+x.tokens.length+x.news.length
def A6.ok (x:A6):Prop:=x.graph.ok∧(x.workers.length≤maxLen∧∀y∈x.workers,y.ok)∧(x.links.length≤maxLen∧∀y∈x.links,y.ok)∧(x.tokens.length≤maxLen∧∀y∈x.tokens,y.ok)∧(x.news.length≤maxLen∧∀y∈x.news,y.ok)
def D5.ok (x:D5):Prop:=Et .i64 x.kind∧Et .i64 x.a∧Et .i64 x.b
def Ke.w (x:Ke):Nat:=x.graph.w+x.inputs.length+x.picks.length
def Ke.ok (x:Ke):Prop:=x.graph.ok∧(x.inputs.length≤maxLen∧∀y∈x.inputs,y.ok)∧(x.picks.length≤maxLen∧∀y∈x.picks,y.ok)∧Et .i64 x.rounds
theorem Zh {α:Type} [Inhabited α] (w:α→Nat)(xs:List α)(k:Nat)(hk:k<xs.length):((xs.take (k+1)).map w).sum=((xs.take k).map w).sum+w (xs.getD k default):=by
 rw [List.take_add_one,List.map_append,List.sum_append,List.getElem?_eq_getElem hk]
 simp [List.getD,hk]
theorem Gv {α:Type} [Inhabited α] (w:α→Nat)(xs:List α)(k:Nat)(hk:k<xs.length):((xs.take k).map w).sum+w (xs.getD k default)≤(xs.map w).sum:=by
 rw [←Zh w xs k hk]
 conv=>rhs;rw [←List.take_append_drop (k+1) xs,List.map_append,List.sum_append]
 omega
theorem B1m {α:Type}(w:α→Nat)(xs:List α):wS w xs=xs.length+(xs.map w).sum:=rfl
end Go.Sx
namespace Go.Sx
variable {P : Program} {T : List (TypeId × TI)}
def Rm (c c':Ae):Prop:=c'=c∨(c= .val (.slice none 0 0)∧∃es row,c'= .sl 0 es row)
def Fh (cs cs':List Ae):Prop:=
 match cs,cs' with
 | [],[]=>True
 |c::cs,c'::cs'=>Rm c c'∧Fh cs cs'
 |_,_=>False
theorem Fh.get {cs cs':List Ae}(h:Fh cs cs'):cs'.length=cs.length∧∀(i:Nat) (c':Ae),cs'[i]? =some c'→∃c,cs[i]? =some c∧Rm c c':=by
 induction cs generalizing cs' with
 |nil=>cases cs'<;>simp_all [Fh]
 |cons c cs ih=>
  cases cs' with
  |nil=>simp [Fh] at h
  |cons c' cs'=>
   obtain ⟨h1,h2⟩:=h
   obtain ⟨g1,g2⟩:=ih h2
   refine ⟨by simp [g1],fun i d hd=>?_⟩
   cases i with
   |zero=>simp only [List.getElem?_cons_zero,Option.some.injEq] at hd;subst hd;exact ⟨c,by simp,h1⟩
   |succ i=>simpa using g2 i d (by simpa using hd)
theorem Rm.own {w:World}{c c':Ae}{v:Value}{fp:List Nat}(h:Rm c c')(ho:C1 w c v fp):C1 w c' v fp:=by
 rcases h with rfl|⟨rfl,es,row,rfl⟩
 ·exact ho
 cases ho;exact .nil es row
theorem Rm.refl (c:Ae):Rm c c:= .inl rfl
theorem Rm.nil (es:Nat)(row:Nat→List Ae):Rm (.val (.slice none 0 0)) (.sl 0 es row):= .inr ⟨rfl,es,row,rfl⟩
def Ge (c c':Ae):Prop:=
 match c,c' with
 | .sl n es row,.sl n' es' row'=>n'=n∧es'=es∧∀i,i<n→Fh (row i) (row' i)
 |_,_=>False
theorem Ge.own {w:World}{c c':Ae}{v:Value}{fp:List Nat}(h:Ge c c')(ho:C1 w c v fp):C1 w c' v fp:=by
 cases ho with
 |val x hx=>cases c'<;>exact h.elim
 |nil es row=>
  cases c' with
  |val=>exact h.elim
  |sl n' es' row'=>
   obtain ⟨rfl,rfl,_⟩:=h
   exact .nil _ row'
 |emp es row b0 o0=>
  cases c' with
  |val=>exact h.elim
  |sl n' es' row'=>
   obtain ⟨rfl,rfl,_⟩:=h
   exact .emp _ row' b0 o0
 |sl n es row b off cap ty cells fps hn hc hb hs hl hr=>
  cases c' with
  |val=>exact h.elim
  |sl n' es' row'=>
   obtain ⟨rfl,rfl,h⟩:=h
   refine .sl _ _ row' b off cap ty cells fps hn hc hb hs (fun i hi=>?_) (fun i j d hi hd=>?_)
   ·rw [(h i hi).get.1];exact hl i hi
   obtain ⟨c,h1,h2⟩:=(h i hi).get.2 j d hd
   exact h2.own (hr i j c hi h1)
def Fy (l:List Ow) (k:Nat) (c:Ae):List Ow:=
 match l with
 | []=>[]
 |y::r=>match Nat.beq y.key k with
  |true=>⟨k,c⟩::Fy r k c
  |false=>y::Fy r k c
theorem Nx {l:List Ow}{k:Nat}{c:Ae}{y:Ow}(h:y∈Fy l k c):(y.key=k∧y.cell=c∧∃z∈l,z.key=k)∨(y∈l∧y.key≠k):=by
 induction l with
 |nil=>simp [Fy] at h
 |cons x r ih=>
  unfold Fy at h
  split at h
  ·rename_i e
   have e:=Nat.eq_of_beq_eq_true e
   rcases List.mem_cons.1 h with rfl|h
   ·exact .inl ⟨rfl,rfl,x,by simp,e⟩
   rcases ih h with ⟨h1,h2,z,hz,h3⟩|⟨h1,h2⟩
   ·exact .inl ⟨h1,h2,z,List.mem_cons_of_mem _ hz,h3⟩
   exact .inr ⟨List.mem_cons_of_mem _ h1,h2⟩
  rename_i e
  rcases List.mem_cons.1 h with rfl|h
  ·exact .inr ⟨by simp,fun e'=>by rw [e',Nat.beq_refl] at e;cases e⟩
  rcases ih h with ⟨h1,h2,z,hz,h3⟩|⟨h1,h2⟩
  ·exact .inl ⟨h1,h2,z,List.mem_cons_of_mem _ hz,h3⟩
  exact .inr ⟨List.mem_cons_of_mem _ h1,h2⟩
theorem Pa (l:List Ow)(k:Nat)(c:Ae):(Fy l k c).map (·.key)=l.map (·.key):=by
 induction l with
 |nil=>rfl
 |cons x r ih=>
  unfold Fy
  split
  ·rename_i e
   have e:=Nat.eq_of_beq_eq_true e
   simp [ih,e]
  simp [ih]
theorem Ff {l:List Ow}{k:Nat}{c:Ae}{y:Ow}(h:y∈Fy l k c):∃z∈l,z.key=y.key:=by
 rcases Nx h with ⟨h1,_,z,hz,h3⟩|⟨h1,_⟩
 ·exact ⟨z,hz,h3.trans h1.symm⟩
 exact ⟨y,h1,rfl⟩
theorem Dv {B:B0}{Q:Exit→Act→World→Prop}{K:List KI}{s:AS}(k:Nat)(c':Ae){c:Ae}(hk:Bw s.own k=some c)(hc:Ge c c')
  (h:GW P B Q K {s with own:=Fy s.own k c'}):GW P B Q K s:=by
 refine ⟨fun E a w hs=>?_⟩
 have hm:=Ck hk
 have av:∀b,({s with own:=Fy s.own k c'}:AS).avoid E b→s.avoid E b:=by
  rintro b (hb|⟨y,hy,hb⟩)
  ·exact .inl hb
  obtain ⟨z,hz,e⟩:=Ff hy
  exact .inr ⟨z,hz,by rw [e];exact hb⟩
 have mv:∀x v,Cu E w (s.avoid E) s.next x v→Cu E w (({s with own:=Fy s.own k c'}:AS).avoid E) s.next x v:=fun x v hx=>
  hx.move (Nat.le_refl _) (fun _ _=>⟨rfl,rfl⟩) (fun _ _ _=>rfl) (fun b _ hb=>av b hb)
 refine h.out E a w ⟨hs.defers,hs.links,hs.size,fun i x hx=>mv _ _ (hs.slots i x hx),fun x hx=>?_,hs.boxes2,hs.keys,fun y hy=>?_,by rw [Pa];exact hs.ownkeys,fun y hy z hz hne=>?_,fun x hx y hy=>?_,hs.one,hs.base,fun b hb=>hs.fresh b (av b hb)⟩
 ·obtain ⟨h1,vs,ty,h2,h3,h4⟩:=hs.boxes x hx
  exact ⟨h1,vs,ty,h2,h3,fun i y hy=>mv _ _ (h4 i y hy)⟩
 ·rcases Nx hy with ⟨h1,h2,_⟩|⟨h1,_⟩
  ·obtain ⟨g1,g2,g3⟩:=hs.own _ hm
   rw [h1,h2]
   exact ⟨g1,hc.own g2,g3⟩
  exact hs.own y h1
 ·obtain ⟨y',hy',e1⟩:=Ff hy
  obtain ⟨z',hz',e2⟩:=Ff hz
  rw [←e1,←e2]
  exact hs.sep y' hy' z' hz' (by rw [e1,e2];exact hne)
 obtain ⟨y',hy',e1⟩:=Ff hy
 rw [←e1]
 exact hs.sepB x hx y' hy'
theorem Pr {α:Type} [Inhabited α] {es:Nat}{e:α→List Ae}{row:Nat→List Ae}{xs:List α}(h:∀i,i<xs.length→Fh (row i) (e (xs.getD i default))):Ge (.sl xs.length es row) (Kt es e xs):=
 ⟨rfl,rfl,h⟩
end Go.Sx
namespace Go.Sx
variable {P : Program} {T : List (TypeId × TI)}
def Wk (cs cs':List Ae):Prop:=cs'.length=cs.length∧∀(i:Nat) (c':Ae),cs'[i]? =some c'→∃c,cs[i]? =some c∧∀w A v,Mh w A c v→Mh w A c' v
theorem Wk.refl (cs:List Ae):Wk cs cs:=⟨rfl,fun _ c h=>⟨c,h,fun _ _ _ h=>h⟩⟩
theorem Wk.append {a a' b b':List Ae}(h:Wk a a')(k:Wk b b'):Wk (a++b) (a'++b'):=by
 refine ⟨by simp [h.1,k.1],fun i c hc=>?_⟩
 by_cases hi:i<a'.length
 ·rw [List.getElem?_append_left hi] at hc
  rw [List.getElem?_append_left (by rw [←h.1];exact hi)]
  exact h.2 i c hc
 rw [List.getElem?_append_right Ab] at hc
 rw [List.getElem?_append_right (by rw [←h.1];omega),←h.1]
 exact k.2 _ c hc
theorem B56 {α:Type} [Inhabited α] {es n:Nat}{row:Nat→List Ae}{e:α→List Ae}{ok:α→Prop}(h:∀i,i<n→∃x,ok x∧Wk (row i) (e x)):
  ∃xs:List α,xs.length=n∧(∀y∈xs,ok y)∧Wk [.sl n es row] [Kt es e xs]:=by
 have hex:∀i,∃x,i<n→ok x∧Wk (row i) (e x):=fun i=>by
  by_cases hi:i<n
  ·obtain ⟨x,hx⟩:=h i hi;exact ⟨x,fun _=>hx⟩
  exact ⟨default,fun h=>absurd h hi⟩
 let g:=fun i=>Classical.choose (hex i)
 have hg:∀i,i<n→ok (g i)∧Wk (row i) (e (g i)):=fun i=>Classical.choose_spec (hex i)
 have hget:∀i,i<n→((List.range n).map g).getD i default=g i:=fun i hi=>by simp [List.getD,hi]
 refine ⟨(List.range n).map g,by simp,fun y hy=>?_,rfl,fun i c hc=>?_⟩
 ·obtain ⟨i,hi,rfl⟩:=List.mem_map.1 hy
  exact (hg i (List.mem_range.1 hi)).1
 cases i with
 |succ i=>simp at hc
 |zero=>
  simp only [List.getElem?_cons_zero,Option.some.injEq] at hc
  subst hc
  refine ⟨_,rfl,fun w A v hr=>?_⟩
  have hlen:((List.range n).map g).length=n:=by simp
  unfold Kt
  rw [hlen]
  cases hr with
  |nil=>exact .nil _ _
  |emp _ _ a=>exact .emp _ _ a
  |sl _ _ _ b off cap u hA hn hc hl hu hr=>
   refine .sl n es _ b off cap u hA hn hc (fun i hi=>?_) hu (fun i j c hi hc=>?_)
   ·rw [hget i hi,(hg i hi).2.1];exact hl i hi
   rw [hget i hi] at hc
   obtain ⟨c0,h1,h2⟩:=(hg i hi).2.2 j c hc
   exact h2 _ _ _ (hr i j c0 hi h1)
theorem Wk.repL {w:World}{xs ys:List Ae}{cs:List Value}(h:Wk xs ys)(hr:Ol w xs cs):Ol w ys cs:=by
 refine ⟨h.1.trans hr.1,fun i c hc=>?_⟩
 obtain ⟨c0,h1,h2⟩:=h.2 i c hc
 exact h2 _ _ _ (hr.2 i c0 h1)
theorem Ol.arg1 {w:World}{c:Ae}{v:Value}(h:Ol w [c] [v]):Ib w (fun _=>False) (.one c) v:=h.2 0 c rfl
end Go.Sx
namespace Go.Sx
def Ey (row:Nat→List Ae) (j:Nat) (r:List Ae):Nat→List Ae:=fun i=>if i=j then r else row i
theorem Gd (row:Nat→List Ae)(j:Nat)(r:List Ae):Ey row j r j=r:=by simp [Ey]
theorem Me (row:Nat→List Ae)(j i:Nat)(r:List Ae)(h:i≠j):Ey row j r i=row i:=by simp [Ey,h]
theorem Xn {n es:Nat}{row:Nat→List Ae}{j off:Nat}{cs r:List Ae}(h:Cy (row j) off cs=r):O2 n es row j off cs (.sl n es (Ey row j r)):=
 ⟨_,rfl,fun _ _ hi=>Me _ _ _ _ hi,by rw [Gd,h]⟩
theorem Fh.refl (cs:List Ae):Fh cs cs:=by
 induction cs with
 |nil=>trivial
 |cons c cs ih=>exact ⟨.refl c,ih⟩
theorem A3x {n es:Nat}{row:Nat→List Ae}{j off:Nat}{cs r r':List Ae}(h:Cy r off cs=r'):O2 n es (Ey row j r) j off cs (.sl n es (Ey row j r')):=
 ⟨_,rfl,fun _ _ hi=>by rw [Me _ _ _ _ hi,Me _ _ _ _ hi],by rw [Gd,Gd,h]⟩
theorem B2e (row:Nat→List Ae)(j off:Nat)(v:Value){r:List Ae}(hr:row j=r):(fun i=>if i=j then Cy (row i) off [.val v] else row i)=Ey row j (Cy r off [.val v]):=by
 funext i
 unfold Ey
 by_cases h:i=j
 ·subst h;rw [if_pos rfl,if_pos rfl,hr]
 rw [if_neg h,if_neg h]
theorem B1j {P:Program}{B:B0}{Q:Exit→Act→World→Prop}{K:List KI}{s:AS}(k k2:Nat){n es:Nat}{row:Nat→List Ae}{j:Nat}(off:Nat){r:List Ae}{v:Value}{c:Ae}(hk:Bw s.own k=some (.sl n es (Ey row j r)))
  (hj:j<n)(hc:r[off]? =some (.val v))(h2:Bw s.own k2=some c)(hl:En s.links k2=some v)(hne:Nat.beq k k2=false){r':List Ae}(hr:Cy r off [c]=r')
  (h:GW P B Q K {s with own:=⟨k,.sl n es (Ey row j r')⟩::Bl [k,k2] s.own}):GW P B Q K s:=
 B1i k k2 hk hj (off:=off) (by rw [Gd];exact hc) h2 hl hne _ (A3x hr) h
theorem getD_set_self {α:Type}(l:List α)(j:Nat)(x d:α)(h:j<l.length):(l.set j x).getD j d=x:=by simp [List.getD,h]
theorem getD_set_ne {α:Type}(l:List α)(i j:Nat)(x d:α)(h:i≠j):(l.set j x).getD i d=l.getD i d:=by simp [List.getD,List.getElem?_set_ne (Ne.symm h)]
theorem Fg {α:Type} [Inhabited α] {es:Nat}{e:α→List Ae}{xs:List α}{j off:Nat}{x2:α}{r cs:List Ae}(hj:j<xs.length)(h:Cy r off cs=e x2):
  O2 xs.length es (Ey (fun i=>e (xs.getD i default)) j r) j off cs (Kt es e (xs.set j x2)):=by
 refine ⟨_,by rw [Kt,List.length_set],fun i _ hne=>?_,?_⟩
 ·simp only [getD_set_ne _ _ _ _ _ hne,Me _ _ _ _ hne]
 simp only [getD_set_self _ _ _ _ hj,Gd,h]
end Go.Sx
namespace Go.Sx
def B5j (_:Int):Nat:=1
def B5c (_:Bool):Nat:=1
def Bs.cnt (_:Bs):Nat:=1+1
def Bq.cnt (_:Bq):Nat:=1+1+1
def A9.cnt (_:A9):Nat:=1+1+1+1+1
def B8.cnt (x:B8):Nat:=1+(x.queue.map A9.cnt).sum+1+1+1+1
def An.cnt (x:An):Nat:=1+1+1+(x.outs.map B5j).sum
def Be.cnt (_:Be):Nat:=1+1+1+1
def Fi.cnt (_:Fi):Nat:=1+1
def Ac.cnt (x:Ac):Nat:=(x.queue.map A9.cnt).sum+(x.staged.map A9.cnt).sum+(x.inputs.map A9.cnt).sum+(x.cells.map Be.cnt).sum+(x.sums.map B5j).sum+(x.black.map B5c).sum+(x.caps.map B5c).sum+(x.dones.map Fi.cnt).sum
def Di.cnt (_:Di):Nat:=1+1+1+1+1
def Fm.cnt (_:Fm):Nat:=1+1+1
def D5.cnt (_:D5):Nat:=1+1+1
end Go.Sx
namespace Go.Sx
theorem Hs {α:Type} [Inhabited α] (xs:List α)(k:Nat)(h:k<xs.length):xs.take (k+1)=xs.take k++[xs.getD k default]:=by
 rw [List.take_add_one];simp [List.getD,h]
theorem Hm {α:Type} [Inhabited α] (p:α→Bool)(xs:List α)(k:Nat)(h:k<xs.length):
  (xs.take (k+1)).filter p=(xs.take k).filter p++(if p (xs.getD k default)=true then [xs.getD k default] else []):=by
 rw [Hs xs k h,List.filter_append]
 congr 1
 by_cases hp:p (xs.getD k default)=true
 ·rw [if_pos hp,List.filter_cons_of_pos hp,List.filter_nil]
 rw [if_neg hp,List.filter_cons_of_neg hp,List.filter_nil]
theorem Fe {α:Type}(p:α→Bool)(xs:List α)(k:Nat):((xs.take k).filter p).length≤xs.length:=by
 have h1:=List.length_filter_le p (xs.take k)
 have h2:=List.length_take_le k xs
 have h3:=List.length_take_le' k xs
 omega
theorem A2p {α β:Type} [Inhabited α] (f:β→α→β)(z:β)(xs:List α)(k:Nat)(h:k<xs.length):
  (xs.take (k+1)).foldl f z=f ((xs.take k).foldl f z) (xs.getD k default):=by
 rw [Hs xs k h,List.foldl_append];rfl
theorem A8b {α:Type} [Inhabited α] (p:α→Bool)(xs:List α)(k:Nat)(h:k<xs.length):
  (xs.take (k+1)).any p=((xs.take k).any p||p (xs.getD k default)):=by
 rw [Hs xs k h,List.any_append];simp
theorem B9 {α:Type}{d:α}{xs:List α}{k:Nat}(h:k<xs.length):xs.getD k d∈xs:=by
 rw [List.getD,List.getElem?_eq_getElem h];exact List.getElem_mem h
theorem Mz {α:Type} [Inhabited α] {p:α→Bool}{xs:List α}{k:Nat}(h:k<xs.length)(hp:p (xs.getD k default)=true):xs.any p=true:=
 List.any_eq_true.2 ⟨_,B9 h,hp⟩
theorem E6 {α:Type}(xs:List α)(k:Nat)(h:¬ k<xs.length):xs.take k=xs:=List.take_of_length_le Ab
theorem Ds {α:Type} [Inhabited α] {es:Nat}{e:α→List Ae}{row:Nat→List Ae}:Ge (.sl 0 es row) (Kt es e ([]:List α)):=⟨rfl,rfl,fun _ h=>nomatch h⟩
theorem X4 {b:Bool}{p q:Prop}(hb:b=true)(h:p):(b=true→p)∧(b=false→q):=⟨fun _=>h,fun e=>by rw [hb] at e;cases e⟩
theorem Ru {b:Bool}{p q:Prop}(hb:b=false)(h:q):(b=true→p)∧(b=false→q):=⟨fun e=>(by rw [hb] at e;cases e),fun _=>h⟩
theorem Gl {p q:Prop}(hq:q)(hp:p:=by first|omega|(show _∧_;omega)|((repeat (first|rw [ByteArray.size_append]|rw [bsz]|rw [List.size_toArray]|rw [List.length_cons]|rw [List.length_nil]))<;>omega)|((repeat rw [Int.toNat_natCast])<;>first|omega|(show _∧_;omega))|(simp only [ByteArray.size_append,bsz,List.size_toArray,List.length_cons,List.length_nil];omega)|(simp only [Int.toNat_natCast];first|omega|(show _∧_;omega))|decide):p∧q:=⟨hp,hq⟩
theorem I8 {p q:Prop}(hq:q)(hp:p:=by first|omega|(show _∧_;omega)|((repeat (first|rw [ByteArray.size_append]|rw [bsz]|rw [List.size_toArray]|rw [List.length_cons]|rw [List.length_nil]))<;>omega)|((repeat rw [Int.toNat_natCast])<;>first|omega|(show _∧_;omega))|(simp only [ByteArray.size_append,bsz,List.size_toArray,List.length_cons,List.length_nil];omega)|(simp only [Int.toNat_natCast];first|omega|(show _∧_;omega))|decide|(simp only [beq_iff_eq,beq_eq_false_iff_ne,bne_iff_ne,bne_eq_false_iff_eq,Bool.not_eq_true',Bool.not_eq_false',Go.Sx.Au,Go.Sx.Bo,decide_eq_true_eq,decide_eq_false_iff_not,ne_eq,Int.not_lt,Int.not_le,ge_iff_le,gt_iff_lt,Int.toNat_zero,Int.toNat_one,Int.toNat_natCast] at * <;>first|omega|(show _∧_;omega))):p∧q:=⟨hp,hq⟩
theorem skf {b:Bool}{p q:Prop}(h:q)(hb:b=false:=by first|with_reducible rfl|assumption|(simp;done)|fail):(b=true→p)∧(b=false→q):=Ru hb h
theorem skt {b:Bool}{p q:Prop}(h:p)(hb:b=true:=by first|with_reducible rfl|assumption|(simp;done)|fail):(b=true→p)∧(b=false→q):=X4 hb h
theorem Oo {b:Bool}{p q:Prop}(h:q)(hb:b=false:=by first|with_reducible rfl|assumption):(b=true→p)∧(b=false→q):=Ru hb h
theorem Oq {b:Bool}{p q:Prop}(h:p)(hb:b=true:=by first|with_reducible rfl|assumption):(b=true→p)∧(b=false→q):=X4 hb h
end Go.Sx
namespace Go.Sx
variable {P : Program} {T : List (TypeId × TI)}
theorem A2f (hT:Cn P T){B:B0}{Q:Exit→Act→World→Prop}{q:Bool}{all:Array Oper}{o:Oper}{rest:List Oper}{K:List KI}{s:AS}{t e:TypeId}{len:Nat}{parts:Array (Nat×Operand)}{i j:TI}
  (hg:o.guard=none)(ho:o.op= .buildSlice t len parts)(hi:E9 T t=some i)(hie:i.elem=some e)(hj:E9 T e=some j)(hsm:(Nat.ble (len * j.size) 10000&&Nat.blt 0 j.size)=true)
  {l:List AV}(hcs:Ls T (Gb len 0 j.size e) s parts.toList (repL len (G3 j))=some l){cs:List Ae}{ks:List Nat}(hc:Mp s.own l=some (cs,ks))(hkd:F9 ks=true)
  (h:G P B Q (.ops q all rest::K) (({s with own:=⟨s.next,.sl len j.size fun i=>(cs.drop (i * j.size)).take j.size⟩::Bl ks s.own,next:=s.next+1}:AS).put o.dst (.own s.next))):G P B Q (.ops q all (o::rest)::K) s:=by
 refine Jo hg (by rw [ho];simp [Du]) (fun E a w hs=>?_)
 obtain ⟨f,d,z,S⟩:=TI.of_spec (hT e j hj)
 have hzs:z.cells.size=j.size:=by have:=S.zlen;rw [←S.cells] at this;simpa using this
 simp only [Bool.and_eq_true] at hsm
 have hpos:=Fj hsm.2
 have hsmall:=Nat.le_of_ble_eq_true hsm.1
 have hlen:len≤len * j.size:=Nat.le_mul_of_pos_right _ hpos
 have hz0:DL E w (s.avoid E) s.next (repL len (G3 j)) ((Array.range (len * j.size)).map (z.cells[· % z.cells.size]!)):=by
  refine ⟨by simp [Hp,G3,S.zlen],fun k y hy=>?_⟩
  have hzl:(G3 j).length=j.size:=by simp [G3,S.zlen]
  have hk:k<len * j.size:=by have:=(List.getElem?_eq_some_iff.1 hy).1;rwa [Hp,hzl] at this
  rw [A1h _ _ _ (by rw [hzl];exact hk),hzl] at hy
  have:=(T3 (hT e j hj) S.cells E w (s.avoid E) s.next).2 _ _ hy
  have hm:k % j.size<z.cells.size:=by rw [hzs];exact Nat.mod_lt _ (Nat.pos_of_ne_zero (fun h=>by rw [h] at hk;simp at hk))
  have e1:((Array.range (len * j.size)).map (z.cells[· % z.cells.size]!)).getD k undef=z.cells.getD (k % j.size) undef:=by
   have:=Jy z.cells (len * j.size) k hk
   rw [show (Array.range (len * j.size)).map (z.cells[· % z.cells.size]!)=madeCells z.cells (len * j.size) from rfl,this,hzs]
   rw [getElem!_pos z.cells _ hm]
   simp only [Array.getD,hm,dif_pos]
   rfl
  rw [e1]
  exact this
 obtain ⟨cs',hfill,hDL⟩:=Yc hT hs (Gb len 0 j.size e) (fun k=>some (k * j.size,j.size)) (fun k o u hk j' hj'=>by
  obtain ⟨rfl,rfl⟩:=Oc _ _ _ _ _ _ _ hk
  rw [hj] at hj'
  obtain rfl:=Option.some.inj hj'
  simp) parts.toList _ _ l hcs hz0
 have hll:l.length=len * j.size:=by
  have:=O4 hcs
  rw [this,Hp]
  simp [G3,S.zlen]
 have hcsl:cs'.size=len * j.size:=by have:=hDL.1;omega
 have hrun:(Instr.buildSlice t len (parts.map fun p=>(p.1,a.eval p.2))).run P w= .ok (.slice (some ⟨w.heap.size,0,none⟩) len len) (w.alloc (.cells cs' e)):=by
  have hnot:¬ (16777216<len * j.size):=by omega
  have hfill':Instr.fill (fun k=>some (k * j.size,j.size)) ((Array.range (len * j.size)).map (z.cells[· % z.cells.size]!)) (parts.map fun p=>(p.1,a.eval p.2)).toList=some cs':=by
   rw [Array.toList_map];exact hfill
  by_cases h0:len * j.size=0
  ·simp [Instr.buildSlice,run_underlying (Dm (hT t i hi) hie),C6 (hT e j hj),h0,newRow,Array.range_zero']
   simp [h0,Array.range_zero'] at hfill'
   rw [hfill']
   simp
  simp [Instr.buildSlice,run_underlying (Dm (hT t i hi) hie),C6 (hT e j hj),hnot,h0,newRow,zeroValue,typeInfo,S.hf,S.hz]
  simp at hfill'
  rw [hfill']
  simp
 have hnd:=Dg hkd
 obtain ⟨q1,q2,gps,q3,q4,q5⟩:=Um hs hc hnd (vs:=cs'.toList) (by simp only [Array.length_toList];omega) (fun m z hz=>by rw [C2];exact hDL.2 m z hz)
 have hcl:cs.length=len * j.size:=by omega
 have hbel:=Iy w (.cells cs' e)
 have hlt:∀b∈(List.range cs.length).flatMap gps,b<w.heap.size:=by
  intro b hb
  obtain ⟨k,hk,hb1⟩:=List.mem_flatMap.1 (q5 b hb)
  obtain ⟨y,hy,rfl⟩:=q2 k hk
  exact (hs.own y hy).2.1.lt b hb1
 have hown:=C1.sl (w:=w.alloc (.cells cs' e)) len j.size (fun i=>(cs.drop (i * j.size)).take j.size) w.heap.size 0 len e cs' gps
  (Nat.le_refl _) (by simp only [maxLen];omega) (heap_alloc_new w _) (by simp [hcsl]) (fun k hk=>by
   have h2:k * j.size+j.size≤len * j.size:=by rw [←Nat.succ_mul];exact Nat.mul_le_mul_right _ hk
   simp [hcl];omega) (fun k m c hk hc'=>by
   have hm:m<j.size:=by have:=(List.getElem?_eq_some_iff.1 hc').1;simp at this;omega
   rw [List.getElem?_take,if_pos hm,List.getElem?_drop] at hc'
   have ho:=q3 _ _ hc'
   rw [C2] at ho
   rw [show (0+k) * j.size+m=k * j.size+m by rw [Nat.zero_add]]
   refine ho.move (fun b hb=>?_)
   have hkl:k * j.size+m<cs.length:=(List.getElem?_eq_some_iff.1 hc').1
   exact Ee w _ _ (hlt b (List.mem_flatMap.2 ⟨_,List.mem_range.2 hkl,hb⟩)))
 rw [←hcl] at hown
 have hfp:(w.heap.size::(List.range cs.length).flatMap gps).Nodup:=List.nodup_cons.2 ⟨fun hm=>Nat.lt_irrefl _ (hlt _ hm),q4⟩
 have hI:=hs.drop ks
 have key:∀b,b∈(List.range cs.length).flatMap gps→s.avoid E b∧¬ ({s with own:=Bl ks s.own}:AS).avoid E b:=by
  intro b hb
  obtain ⟨k,hk1,hb1⟩:=List.mem_flatMap.1 (q5 b hb)
  obtain ⟨y,hy,rfl⟩:=q2 k hk1
  refine ⟨.inr ⟨y,hy,hb1⟩,?_⟩
  rintro (⟨u,hu,rfl⟩|⟨u,hu,hb'⟩)
  ·exact hs.sepB u hu y hy hb1
  obtain ⟨hz1,hz2⟩:=C5.1 hu
  exact hs.sep y hy u hz1 (fun e=>hz2 (e▸hk1)) b hb1 hb'
 have hkept:Zo (fun _=>False) w (w.alloc (.cells cs' e)):=⟨rfl,rfl,rfl,by simp,fun k hk _=>Ee w _ _ hk,Nat.le_refl _⟩
 have hI2:=hI.kept hkept (fun b hb=>hb.elim)
 obtain ⟨k1,k2⟩:=hI2.addOwn hown hfp (fun b hb=>by
  rcases List.mem_cons.1 hb with rfl|hb
  ·refine ⟨.inr (Nat.le_refl _),fun hav=>?_,.inl hs.base.size⟩
   have:=hs.avoid_lt (hI.sub _ hav)
   omega
  exact ⟨.inl (key b hb).1,(key b hb).2,hs.fresh b (key b hb).1⟩)
 have hput:=(k1.put o.dst k2).is
 refine ⟨_,_,.inl (by
  obtain ⟨dst,op',ty',pos,after,guard⟩:=o
  simp only at ho
  subst ho
  simp only [execOp,Sem.run_bind,hrun,Result.andThen_ok];rfl),fun hk=>(by
   exact ⟨by simp,fun k hk=>Ee w _ _ hk⟩),h _ _ _ (by simpa [AS.addOwn] using hput)⟩
theorem Ou (hT:Cn P T){B:B0}{Q:Exit→Act→World→Prop}{q:Bool}{all:Array Oper}{o:Oper}{rest:List Oper}{K:List KI}{s:AS}{t e:TypeId}{len:Nat}{parts:Array (Nat×Operand)}{i j:TI}
  (hg:o.guard=none)(ho:o.op= .buildSlice t len parts)(hi:E9 T t=some i)(hie:i.elem=some e)(hj:E9 T e=some j)(hsm:(Nat.ble (len * j.size) 10000&&Nat.blt 0 j.size)=true)
  {l:List AV}(hcs:Ls T (Gb len 0 j.size e) s parts.toList (repL len (G3 j))=some l){cs:List Ae}{ks:List Nat}(hc:Mp s.own l=some (cs,ks))(hkd:F9 ks=true)
  (h:GW P B Q (.ops q all rest::K) (({s with own:=⟨s.next,.sl len j.size fun i=>(cs.drop (i * j.size)).take j.size⟩::Bl ks s.own,next:=s.next+1}:AS).put o.dst (.own s.next))):GW P B Q (.ops q all (o::rest)::K) s:=
 ⟨A2f hT hg ho hi hie hj hsm hcs hc hkd (h.rec id)⟩
theorem AS.is.reBox {s:AS}{B:B0}{E:Cz}{a:Act}{w:World}(h:s.is B E a w){k:Nat}{b:Bx}(hb:Gj s.boxes k=some b)(cells:List AV)
  (hd:∀vs:Array Value,vs.size=b.cells.length→(∀i y,b.cells[i]? =some y→Cu E w (s.avoid E) s.next y (vs.getD i undef))→vs.size=cells.length∧∀j y,cells[j]? =some y→Cu E w (s.avoid E) s.next y (vs.getD j undef)):
  ({s with boxes:=E8 s.boxes k cells}:AS).is B E a w:=by
 obtain ⟨hm,rfl⟩:=Ex hb
 have av:∀c,({s with boxes:=E8 s.boxes b.key cells}:AS).avoid E c↔s.avoid E c:=by
  intro c
  constructor
  ·rintro (⟨x,hx,rfl⟩|h)
   ·rcases Dq hx h.keys with ⟨h1,_,y,hy,h2⟩|⟨h1,_⟩
    ·exact .inl ⟨y,hy,by rw [h1,h2]⟩
    exact .inl ⟨x,h1,rfl⟩
   exact .inr h
  rintro (⟨x,hx,rfl⟩|h)
  ·obtain ⟨y,hy,e⟩:=Xk (k:=b.key) (cs:=cells) hx
   exact .inl ⟨y,hy,by rw [e]⟩
  exact .inr h
 have mv:∀x v,Cu E w (s.avoid E) s.next x v→Cu E w (({s with boxes:=E8 s.boxes b.key cells}:AS).avoid E) s.next x v:=
  fun x v hx=>hx.move (Nat.le_refl _) (fun _ _=>⟨rfl,rfl⟩) (fun _ _ _=>rfl) (fun c _ hc=>(av c).1 hc)
 refine ⟨h.defers,h.links,h.size,fun i x hx=>mv _ _ (h.slots i x hx),?_,?_,?_,h.own,h.ownkeys,h.sep,?_,h.one,h.base,fun c hc=>h.fresh c ((av c).1 hc)⟩
 ·intro x hx
  rcases Dq hx h.keys with ⟨h1,h2,_⟩|⟨h1,_⟩
  ·obtain ⟨g1,vs,ty,g2,g3,g4⟩:=h.boxes b hm
   obtain ⟨e1,e2⟩:=hd vs g3 g4
   exact ⟨h1▸g1,vs,ty,by rw [h1];exact g2,by rw [h2];exact e1,fun j y hj=>mv _ _ (e2 j y (by rw [←h2];exact hj))⟩
  obtain ⟨g1,vs,ty,g2,g3,g4⟩:=h.boxes x h1
  exact ⟨g1,vs,ty,g2,g3,fun j y hj=>mv _ _ (g4 j y hj)⟩
 ·intro x hx y hy he
  rcases Dq hx h.keys with ⟨h1,_⟩|⟨h1,_⟩<;>rcases Dq hy h.keys with ⟨g1,_⟩|⟨g1,_⟩
  ·rw [h1,g1]
  ·rw [h1] at he ⊢
   exact h.boxes2 b hm y g1 he
  ·rw [g1] at he ⊢
   exact h.boxes2 x h1 b hm he
  exact h.boxes2 x h1 y g1 he
 ·show ((E8 s.boxes b.key cells).map (·.key)).Nodup
  rw [K1]
  exact h.keys
 intro x hx y hy
 rcases Dq hx h.keys with ⟨h1,_⟩|⟨h1,_⟩
 ·rw [h1];exact h.sepB b hm y hy
 exact h.sepB x h1 y hy
theorem A00 {B:B0}{Q:Exit→Act→World→Prop}{K:List KI}{s:AS}(k off es:Nat)(row:Nat→List Ae){b:Bx}(hb:Gj s.boxes k=some b)(hi:Gm b.cells off= .c (.val (.slice none 0 0)))
  (h:GW P B Q K {s with boxes:=E8 s.boxes k (Cm b.cells off (.own s.next)),own:=⟨s.next,.sl 0 es row⟩::s.own,next:=s.next+1}):GW P B Q K s:=by
 refine ⟨fun E a w hs=>?_⟩
 have hI:s.isA B E (s.avoid E) a w:=⟨hs.defers,hs.links,hs.size,hs.slots,hs.boxes,hs.boxes2,hs.keys,hs.own,hs.ownkeys,hs.sep,hs.sepB,hs.one,hs.base,hs.fresh,fun _ h=>h⟩
 obtain ⟨k1,k2⟩:=hI.addOwn (.nil es row) Cg Cg
 have k3:=k1.is
 have k4:=k3.reBox (k:=k) (b:=b) hb (Cm b.cells off (.own s.next)) (fun vs h1 h2=>by
  refine ⟨by rw [Ci];exact h1,fun j y hj=>?_⟩
  rw [Dh] at hj
  split at hj
  ·rename_i hm
   obtain ⟨rfl,hm⟩:=hm
   obtain rfl:=Option.some.inj hj
   have hd:=h2 off (.c (.val (.slice none 0 0))) (by rw [Co,List.getElem?_eq_getElem hm] at hi;rw [List.getElem?_eq_getElem hm];simpa using hi)
   rw [Bn hd]
   exact k2.move (Nat.le_refl _) (fun _ _=>⟨rfl,rfl⟩) (fun _ _ _=>rfl) (fun b _ hb=>k1.sub b hb)
  exact h2 j y hj)
 exact h.out _ _ _ k4
theorem B5 (id:Nat)(hm:P.follows .mixedOrders=true){B:B0}{Q:Exit→Act→World→Prop}{ops:Array Oper}{K:List KI}{s:AS}(ord:List Nat)(hB:A91 ops ord=true)
  (h:GW P B Q (.ops true ops (Ym ops ord)::K) s):GW P B Q (.code (.region id ops true)::K) s:=B5f hm ord hB h
theorem Cc {α:Type} [Inhabited α] {es:Nat}{e:α→List Ae}{row1:Nat→List Ae}{xs:List α}:Ph 0 xs.length es row1 (fun i=>e (xs.getD i default)) (Kt es e xs):=
 ⟨_,by rw [Kt,Nat.zero_add],fun i hi=>by omega,fun i hi=>by simp⟩
theorem Kl {α:Type} [Inhabited α] {e:α→List Ae}(xs:List α)(h:∀x,∀c∈e x,∃v,c= .val v):G4 xs.length (fun i=>e (xs.getD i default)):=fun _ _=>h _
theorem R0 (xs:List Int):G4 xs.length (fun i=>[vi (xs.getD i default)]):=Kl (e:=fun n=>[vi n]) xs fun _x _c hc=>⟨_,List.mem_singleton.1 hc⟩
theorem Ts (xs:List Bool):G4 xs.length (fun i=>[vb (xs.getD i default)]):=Kl (e:=fun n=>[vb n]) xs fun _x _c hc=>⟨_,List.mem_singleton.1 hc⟩
theorem Cd (xs:List A9):G4 xs.length (fun i=>A9.c (xs.getD i default)):=Kl xs fun x c hc=>by
 simp only [A9.c,List.mem_cons,List.not_mem_nil,or_false] at hc
 rcases hc with rfl|rfl|rfl|rfl|rfl<;>exact ⟨_,rfl⟩
theorem Ej (xs:List Be):G4 xs.length (fun i=>Be.c (xs.getD i default)):=Kl xs fun x c hc=>by
 simp only [Be.c,List.mem_cons,List.not_mem_nil,or_false] at hc
 rcases hc with rfl|rfl|rfl|rfl<;>exact ⟨_,rfl⟩
theorem Ga (xs:List Fm):G4 xs.length (fun i=>Fm.c (xs.getD i default)):=Kl xs fun x c hc=>by
 simp only [Fm.c,List.mem_cons,List.not_mem_nil,or_false] at hc
 rcases hc with rfl|rfl|rfl<;>exact ⟨_,rfl⟩
theorem A0m (xs:List Bq):G4 xs.length (fun i=>Bq.c (xs.getD i default)):=Kl xs fun x c hc=>by
 simp only [Bq.c,List.mem_cons,List.not_mem_nil,or_false] at hc
 rcases hc with rfl|rfl|rfl<;>exact ⟨_,rfl⟩
theorem A2n (xs:List Fi):G4 xs.length (fun i=>Fi.c (xs.getD i default)):=Kl xs fun x c hc=>by
 simp only [Fi.c,List.mem_cons,List.not_mem_nil,or_false] at hc
 rcases hc with rfl|rfl<;>exact ⟨_,rfl⟩
theorem N5 (xs:List Di):G4 xs.length (fun i=>Di.c (xs.getD i default)):=Kl xs fun x c hc=>by
 simp only [Di.c,List.mem_cons,List.not_mem_nil,or_false] at hc
 rcases hc with rfl|rfl|rfl|rfl|rfl<;>exact ⟨_,rfl⟩
end Go.Sx
namespace Go.Sx
def Eb (n lo hi:Int):Bool:=if n≥lo then decide (n≤hi) else false
def Ed (n lo hi:Int):Int:=if hi<lo∨n<lo then lo else if hi<n then hi else n
def Eo (key n:Int):Int:=if n<1 then 0 else if key.tmod n<0 then key.tmod n+n else key.tmod n
theorem Au {n lo hi:Int}:Eb n lo hi=true↔lo≤n∧n≤hi:=by
 unfold Eb
 split
 ·simp;omega
 simp;omega
theorem G8 (n lo hi:Int)(h:lo≤hi):lo≤Ed n lo hi∧Ed n lo hi≤hi:=by
 unfold Ed
 split
 ·omega
 split<;>omega
theorem Ir (k:Nat)(h:k<4611686018427387904):IntKind.i64.wrap ((k:Int)+1)=((k+1:Nat):Int):=by
 rw [Gw (by show _∧_;omega)];omega
def Gn {α:Type} (f:α→Int) (xs:List α):Int:=xs.foldl (fun n x=>IntKind.i64.wrap (n+f x)) 0
theorem Io {α:Type} [Inhabited α] (f:α→Int)(xs:List α)(k:Nat)(h:k<xs.length):Gn f (xs.take (k+1))=IntKind.i64.wrap (Gn f (xs.take k)+f (xs.getD k default)):=
 A2p _ _ _ _ h
theorem A6.links_le {x:A6}{n:Nat}(h:x.w≤n):x.links.length≤n:=by simp only [A6.w,wS] at h;omega
theorem A6.workers_le {x:A6}{n:Nat}(h:x.w≤n):x.workers.length≤n:=by simp only [A6.w,wS] at h;omega
theorem A6.news_le {x:A6}{n:Nat}(h:x.w≤n):x.news.length≤n:=by simp only [A6.w,wS] at h;omega
theorem A6.worker_le {x:A6}{n:Nat}(h:x.w≤n){k:Nat}(hk:k<x.workers.length):((x.workers.take k).map Ac.w).sum+(x.workers.getD k default).w≤n:=by
 have:=Gv Ac.w x.workers k hk
 simp only [A6.w,wS] at h;omega
theorem A6.link_le {x:A6}{n:Nat}(h:x.w≤n){k:Nat}(hk:k<x.links.length):((x.links.take k).map B8.w).sum+(x.links.getD k default).w≤n:=by
 have:=Gv B8.w x.links k hk
 simp only [A6.w,wS] at h;omega
theorem Vp {α:Type}(f g:α→Nat)(l:List α)(h:∀x,f x≤g x):(l.map f).sum≤(l.map g).sum:=by
 induction l with
 |nil=>simp
 |cons x r ih=>have:=h x;simp only [List.map_cons,List.sum_cons];omega
def I9 (w:Ac):Nat:=w.queue.length+w.staged.length
theorem Qd (w:Ac):I9 w≤w.w:=by simp only [I9,Ac.w];omega
theorem Bs.eqv (x y:Bs):(x.epoch==y.epoch&&(x.turn==y.turn&&true))=decide (x=y):=by
 obtain ⟨_,_⟩:=x
 obtain ⟨_,_⟩:=y
 rw [Bool.eq_iff_iff];simp [and_assoc]
theorem Bq.eqv (x y:Bq):(x.stamp.epoch==y.stamp.epoch&&(x.stamp.turn==y.stamp.turn&&(x.n==y.n&&true)))=decide (x=y):=by
 obtain ⟨⟨_,_⟩,_⟩:=x
 obtain ⟨⟨_,_⟩,_⟩:=y
 rw [Bool.eq_iff_iff];simp [and_assoc]
theorem A9.eqv (x y:A9):(x.op==y.op&&(x.stamp.epoch==y.stamp.epoch&&(x.stamp.turn==y.stamp.turn&&(x.key==y.key&&(x.val==y.val&&true)))))=decide (x=y):=by
 obtain ⟨_,⟨_,_⟩,_,_⟩:=x
 obtain ⟨_,⟨_,_⟩,_,_⟩:=y
 rw [Bool.eq_iff_iff];simp [and_assoc]
theorem Be.eqv (x y:Be):(x.op==y.op&&(x.epoch==y.epoch&&(x.key==y.key&&(x.val==y.val&&true))))=decide (x=y):=by
 obtain ⟨_,_,_,_⟩:=x
 obtain ⟨_,_,_,_⟩:=y
 rw [Bool.eq_iff_iff];simp [and_assoc]
theorem Fi.eqv (x y:Fi):(x.epoch==y.epoch&&(x.capped==y.capped&&true))=decide (x=y):=by
 obtain ⟨_,_⟩:=x
 obtain ⟨_,_⟩:=y
 rw [Bool.eq_iff_iff];simp [and_assoc]
theorem Di.eqv (x y:Di):(x.going==y.going&&(x.at_==y.at_&&(x.sum==y.sum&&(x.black==y.black&&(x.capped==y.capped&&true)))))=decide (x=y):=by
 obtain ⟨_,_,_,_,_⟩:=x
 obtain ⟨_,_,_,_,_⟩:=y
 rw [Bool.eq_iff_iff];simp [and_assoc]
theorem Fm.eqv (x y:Fm):(x.to_==y.to_&&(x.epoch==y.epoch&&(x.capped==y.capped&&true)))=decide (x=y):=by
 obtain ⟨_,_,_⟩:=x
 obtain ⟨_,_,_⟩:=y
 rw [Bool.eq_iff_iff];simp [and_assoc]
theorem D5.eqv (x y:D5):(x.kind==y.kind&&(x.a==y.a&&(x.b==y.b&&true)))=decide (x=y):=by
 obtain ⟨_,_,_⟩:=x
 obtain ⟨_,_,_⟩:=y
 rw [Bool.eq_iff_iff];simp [and_assoc]
theorem An.eqv (x y:An):decide (x=y)=(x.kind==y.kind&&(x.a==y.a&&(x.b==y.b&&decide (x.outs=y.outs)))):=by
 obtain ⟨_,_,_,_⟩:=x
 obtain ⟨_,_,_,_⟩:=y
 rw [Bool.eq_iff_iff];simp
theorem Ao.eqv (x y:Ao):decide (x=y)=(decide (x.nodes=y.nodes)&&(x.workers==y.workers&&x.cap==y.cap)):=by
 obtain ⟨_,_,_⟩:=x
 obtain ⟨_,_,_⟩:=y
 rw [Bool.eq_iff_iff];simp
theorem Ke.eqv (x y:Ke):decide (x=y)=(decide (x.graph=y.graph)&&(decide (x.inputs=y.inputs)&&(decide (x.picks=y.picks)&&x.rounds==y.rounds))):=by
 obtain ⟨_,_,_,_⟩:=x
 obtain ⟨_,_,_,_⟩:=y
 rw [Bool.eq_iff_iff];simp
def Gz (xs:List A9) (e:Int):List A9:=xs.filter fun r=>r.stamp.epoch==e
def A21 (w:Ac) (e:Int):Bool:=w.inputs.any fun r=>decide (r.stamp.epoch≤e)
def A3z (w:Ac) (e:Int):Nat:=(Gz w.queue e).length+(Gz w.staged e).length
def Jr (w:Ac) (e:Int):Bool:=if A21 w e then false else (A3z w e:Int)==0
def G0 (w:Ac) (e:Int):Bool:=w.dones.any fun d=>d.epoch==e
def K0 (c:A6) (e:Int):Bool:=if 0<c.workers.length then G0 (c.workers.getD 0 default) e else false
theorem P6 (xs:List A9)(e:Int):(Gz xs e).length≤xs.length:=List.length_filter_le _ _
def Gs {α:Type} (p:α→Bool):List α→Nat
 | []=>0
 |x::r=>if p x=true then 0 else Gs p r+1
theorem A84 {α:Type} [Inhabited α] (p:α→Bool)(xs:List α)(k:Nat)(h:(xs.take k).any p=false)(hk:k<xs.length)(hp:p (xs.getD k default)=true):Gs p xs=k:=by
 induction xs generalizing k with
 |nil=>simp at hk
 |cons x r ih=>
  cases k with
  |zero=>
   simp only [List.getD_cons_zero] at hp
   simp [Gs,hp]
  |succ k=>
   simp only [List.take_succ_cons,List.any_cons,Bool.or_eq_false_iff] at h
   have:=ih k h.2 (by simpa using hk) (by simpa using hp)
   simp [Gs,h.1,this]
theorem Hz {α:Type} [Inhabited α] {p:α→Bool}{xs:List α}{k:Nat}(h:(xs.take k).any p=false)(hk:k<xs.length)(hp:p (xs.getD k default)=false):(xs.take (k+1)).any p=false:=by
 rw [A8b p xs k hk,h,hp];rfl
end Go.Sx
namespace Go.Sx
variable {P : Program} {T : List (TypeId × TI)}
abbrev vy (b:UInt8):Ae:= .val (.int .u8 b.toNat)
abbrev B0v (xs:List UInt8):Ae:=Kt 1 (fun b=>[vy b]) xs
end Go.Sx
namespace Go.Sx
variable {P : Program} {T : List (TypeId × TI)} {ops : Array Oper}
end Go.Sx
set_option maxRecDepth 100000
namespace Go.Sx
open Go
theorem L7 {B:B0}{Q:Exit→Act→World→Prop}{s:AS}(k:Nat)(c':Ae){c:Ae}(hk:Bw s.own k=some c)(hc:Ge c c')
  (h:RW B Q {s with own:=Fy s.own k c'}):RW B Q s:=by
 refine ⟨fun E a w hs=>?_⟩
 have hm:=Ck hk
 have av:∀b,({s with own:=Fy s.own k c'}:AS).avoid E b→s.avoid E b:=by
  rintro b (hb|⟨y,hy,hb⟩)
  ·exact .inl hb
  obtain ⟨z,hz,e⟩:=Ff hy
  exact .inr ⟨z,hz,by rw [e];exact hb⟩
 have mv:∀x v,Cu E w (s.avoid E) s.next x v→Cu E w (({s with own:=Fy s.own k c'}:AS).avoid E) s.next x v:=fun x v hx=>
  hx.move (Nat.le_refl _) (fun _ _=>⟨rfl,rfl⟩) (fun _ _ _=>rfl) (fun b _ hb=>av b hb)
 obtain ⟨h⟩:=h
 refine h E a w ⟨hs.defers,hs.links,hs.size,fun i x hx=>mv _ _ (hs.slots i x hx),fun x hx=>?_,hs.boxes2,hs.keys,fun y hy=>?_,by rw [Pa];exact hs.ownkeys,fun y hy z hz hne=>?_,fun x hx y hy=>?_,hs.one,hs.base,fun b hb=>hs.fresh b (av b hb)⟩
 ·obtain ⟨h1,vs,ty,h2,h3,h4⟩:=hs.boxes x hx
  exact ⟨h1,vs,ty,h2,h3,fun i y hy=>mv _ _ (h4 i y hy)⟩
 ·rcases Nx hy with ⟨h1,h2,_⟩|⟨h1,_⟩
  ·obtain ⟨g1,g2,g3⟩:=hs.own _ hm
   rw [h1,h2]
   exact ⟨g1,hc.own g2,g3⟩
  exact hs.own y h1
 ·obtain ⟨y',hy',e1⟩:=Ff hy
  obtain ⟨z',hz',e2⟩:=Ff hz
  rw [←e1,←e2]
  exact hs.sep y' hy' z' hz' (by rw [e1,e2];exact hne)
 obtain ⟨y',hy',e1⟩:=Ff hy
 rw [←e1]
 exact hs.sepB x hx y' hy'
end Go.Sx
set_option maxRecDepth 100000
namespace Go.Sx
open Go
theorem B3m {α:Type} [Inhabited α] {es:Nat}{e:α→List Ae}{xs:List α}{x y:α}{row:Nat→List Ae}(h0:row 0=e x)(h1:row 1=e y):
  Ph xs.length 2 es (fun i=>e (xs.getD i default)) row (Kt es e (xs++[x,y])):=by
 obtain ⟨r,hr,ha,hb⟩:=F8 es e xs [x,y]
 refine ⟨r,hr,ha,fun i hi=>?_⟩
 rw [hb i hi]
 match i,hi with
 | 0,_=>exact h0.symm
 | 1,_=>exact h1.symm
theorem B00 {α:Type} [Inhabited α] {es:Nat}{e:α→List Ae}{xs:List α}{x y z u:α}{row:Nat→List Ae}(h0:row 0=e x)(h1:row 1=e y)(h2:row 2=e z)(h3:row 3=e u):
  Ph xs.length 4 es (fun i=>e (xs.getD i default)) row (Kt es e (xs++[x,y,z,u])):=by
 obtain ⟨r,hr,ha,hb⟩:=F8 es e xs [x,y,z,u]
 refine ⟨r,hr,ha,fun i hi=>?_⟩
 rw [hb i hi]
 match i,hi with
 | 0,_=>exact h0.symm
 | 1,_=>exact h1.symm
 | 2,_=>exact h2.symm
 | 3,_=>exact h3.symm
theorem Fh.rfl':∀l:List Ae,Fh l l
 | []=>trivial
 |_::l=>⟨.inl rfl,Fh.rfl' l⟩
theorem Lu {α:Type}(f:Nat→List α)(k:Nat):(List.range (k+1)).flatMap f=(List.range k).flatMap f++f k:=by
 rw [List.range_succ,List.flatMap_append];simp
def pW (w:Nat):List D5:=[⟨1,w,0⟩,⟨3,w,0⟩,⟨2,w,0⟩,⟨7,w,0⟩]
def pK (w k:Nat):List D5:=if (w:Int)=k then [] else [⟨4,w,k⟩,⟨5,w,k⟩]
def pA (n:Nat):List D5:=(List.range n).flatMap pW
def pB (w j:Nat):List D5:=(List.range j).flatMap (pK w)
def pC (n m:Nat):List D5:=(List.range m).flatMap fun w=>pB w n
def pE (e:Nat):List D5:=(List.range e).map fun e=>⟨6,(e:Nat),0⟩
def Qv (n:Nat):List D5:=pA n++pC n n++pE 4
theorem A44 (k:Nat):pA (k+1)=pA k++pW k:=Lu _ _
theorem A45 (w k:Nat):pB w (k+1)=pB w k++pK w k:=Lu _ _
theorem A46 (n k:Nat):pC n (k+1)=pC n k++pB k n:=Lu _ _
theorem B3a (k:Nat):pE (k+1)=pE k++[⟨6,(k:Nat),0⟩]:=by simp [pE,List.range_succ]
theorem A27 (k:Nat):(pA k).length=4 * k:=by
 induction k with
 |zero=>rfl
 |succ k ih=>rw [A44,List.length_append,ih];rfl
theorem B4v (w k:Nat):(pK w k).length≤2:=by unfold pK;split<;>simp
theorem B0i (w k:Nat):(pB w k).length≤2 * k:=by
 induction k with
 |zero=>exact Nat.le_refl _
 |succ k ih=>rw [A45,List.length_append];have:=B4v w k;omega
theorem A28 (n k:Nat)(hn:n≤4):(pC n k).length≤8 * k:=by
 induction k with
 |zero=>exact Nat.le_refl _
 |succ k ih=>rw [A46,List.length_append];have:=B0i k n;omega
theorem B0j (k:Nat):(pE k).length=k:=by simp [pE]
theorem Tc (n:Nat)(hn:n≤4):(Qv n).length≤52:=by
 have:=A28 n n hn
 simp only [Qv,List.length_append,A27,B0j];omega
end Go.Sx
set_option maxRecDepth 100000
namespace Go.Sx
open Go
variable {P : Program} {T : List (TypeId × TI)}
def bnd (s:AS) (x:Option Operand) (d:Int):Option Int:=
 match x with
 |none=>some d
 |some y=>match s.ev y with
  | .c (.val (.int _ v))=>some v
  |_=>none
def B35 (x:Option Value) (l d:Int):Prop:=(x=none∧l=d)∨∃k,x=some (.int k l)
theorem Su {B:B0}{E:Cz}{a:Act}{w:World}{s:AS}(hs:s.is B E a w){x:Option Operand}{d l:Int}(h:bnd s x d=some l):B35 (x.map a.eval) l d:=by
 cases x with
 |none=>exact .inl ⟨rfl,(Option.some.inj h).symm⟩
 |some y=>
  refine .inr ?_
  simp only [bnd] at h
  have hd:=hs.ev y
  generalize s.ev y=z at h hd
  split at h
  ·rename_i k v
   obtain rfl:=Option.some.inj h
   have e:=Bn hd
   exact ⟨k,by simp [e]⟩
  cases h
def Wn (n es:Nat) (row:Nat→List Ae) (l h:Int) (c:Ae):Prop:=∃row',c= .sl (h-l).toNat es row'∧∀i,i<(h-l).toNat→row' i=row (l.toNat+i)
theorem Z1 {t e:TypeId}{i j:TI}(hi:TI.of P t=some i)(he:i.elem=some e)(hj:TI.of P e=some j){a:Option Addr}{len cap:Nat}{lo hi':Option Value}{l h:Int}
  (hl:B35 lo l 0)(hh:B35 hi' h len)(h0:0≤l)(h1:l≤h)(h2:h≤len)(h3:len≤cap)(w:World):
  (Instr.sliceAt t (.slice a len cap) lo hi' none).run P w= .ok (sliced a l.toNat h.toNat cap j.size) w:=by
 have hu:=Dm hi he
 have hel:P.elem t=e:=by simp [Program.elem,hu]
 have hu':P.underlying t=some (.slice (P.elem t)):=by rw [hel];exact hu
 have hz:∀w,(sizeOf (P.elem t)).run P w= .ok j.size w:=fun w=>by rw [hel];exact C6 hj w
 rw [run_sliceAt_slice w t _ _ _ _ hu']
 rcases hl with ⟨rfl,rfl⟩|⟨k1,rfl⟩<;>rcases hh with ⟨rfl,rfl⟩|⟨k2,rfl⟩
 ·rw [run_slice_all w t a len cap hu',hz];simp [Result.andThen]
 ·rw [run_slice_h w t a len cap hu' k2 h h1 Ab,hz];simp [Result.andThen]
 ·rw [run_slice_l w t a len cap hu' k1 l h0 Ab,hz];simp [Result.andThen]
 rw [run_slice_lh w t a len cap hu' k1 k2 l h h0 h1 Ab,hz];simp [Result.andThen]
theorem B3d {w:World}{A:Nat→Prop}{n es:Nat}{row:Nat→List Ae}{v:Value}(hr:Mh w A (.sl n es row) v){l h:Int}(h0:0≤l)(h1:l≤h)(h2:h≤n){c:Ae}(hc:Wn n es row l h c):
  ∃a cap,v= .slice a n cap∧n≤cap∧Mh w A c (sliced a l.toNat h.toNat cap es):=by
 obtain ⟨row',rfl,hrow⟩:=hc
 cases hr with
 |nil=>
  refine ⟨none,0,rfl,Nat.le_refl _,?_⟩
  have e1:l=0:=by omega
  have e2:h=0:=by omega
  subst e1;subst e2
  exact .nil _ _
 |emp _ _ a=>
  refine ⟨some a,0,rfl,Nat.le_refl _,?_⟩
  have e1:l=0:=by omega
  have e2:h=0:=by omega
  subst e1;subst e2
  exact .emp _ _ a
 |sl _ _ _ b off cap u hA hn hcap hl hu hrr=>
  refine ⟨_,cap,rfl,hn,?_⟩
  obtain ⟨p,rfl⟩:∃p:Nat,l=p:=⟨l.toNat,by omega⟩
  obtain ⟨q,rfl⟩:∃q:Nat,h=q:=⟨h.toNat,by omega⟩
  have e:((q:Int)-p).toNat=q-p:=by omega
  simp only [Int.toNat_natCast] at hrow ⊢
  rw [e] at hrow ⊢
  unfold sliced
  by_cases hcl:cap=p
  ·have e1:q-p=0:=by omega
   have e2:cap-p=0:=by omega
   rw [if_pos hcl,e1,e2]
   exact .emp _ _ _
  rw [if_neg hcl]
  have ea:(some (⟨b,off,none⟩:Addr)).map (fun x=>x.add (p * es))=some ⟨b,off+p * es,none⟩:=by
   simp only [Option.map_some,Addr.add]
   split
   ·rename_i h;rw [h];rfl
   rfl
  have eb:(some (⟨b,off,none⟩:Addr)).map (·.add (p * es))=some ⟨b,off+p * es,none⟩:=ea
  rw [eb]
  refine .sl (q-p) es row' b (off+p * es) (cap-p) (fun i j=>u (p+i) j) (fun h=>hA ?_) Ab Ab (fun i hi=>?_) (fun i j hi hj=>?_) (fun i j c hi hj=>?_)
  ·exact Nat.lt_of_lt_of_le h (Nat.mul_le_mul_right _ Ab)
  ·rw [hrow i hi];exact hl _ Ab
  ·have:=hu (p+i) j Ab hj
   rw [Nat.add_mul] at this
   rw [show off+p * es+i * es+j=off+(p * es+i * es)+j by omega]
   exact this
  rw [hrow i hi] at hj
  exact hrr (p+i) j c Ab hj
theorem Nk (hT:Cn P T){B:B0}{Q:Exit→Act→World→Prop}{q:Bool}{all:Array Oper}{o:Oper}{rest:List Oper}{K:List KI}{s:AS}{t e:TypeId}{x:Operand}{lo hi:Option Operand}{i j:TI}
  (hg:o.guard=none)(ho:o.op= .slice t x lo hi none)(hi':E9 T t=some i)(he:i.elem=some e)(hj:E9 T e=some j)
  {n es:Nat}{row:Nat→List Ae}(hx:s.ev x= .c (.sl n es row))(hes:es=j.size){l h:Int}(hl:bnd s lo 0=some l)(hh:bnd s hi n=some h)
  (hb:0≤l∧l≤h∧h≤n)(c:Ae)(hc:Wn n es row l h c)
  (hgo:GW P B Q (.ops q all rest::K) (s.put o.dst (.c c))):GW P B Q (.ops q all (o::rest)::K) s:=by
 subst hes
 refine ⟨Ei hg (fun E a w hs=>?_)⟩
 have hd:=hs.ev x
 rw [hx] at hd
 cases hd with
 |c hr=>
  obtain ⟨ad,cap,hv,hcap,hrep⟩:=B3d hr hb.1 hb.2.1 hb.2.2 hc
  have h1:=Su hs hl
  have h2:=Su hs hh
  refine ⟨_,fun w' _=>?_,hgo.rec fun hg=>hg _ _ _ (hs.put o.dst (.c hrep))⟩
  have hrun:=Z1 (a:=ad) (hT t i hi') he (hT e j hj) h1 h2 hb.1 hb.2.1 hb.2.2 hcap w'
  obtain ⟨dst,op',ty,pos,after,guard⟩:=o
  simp only at ho
  subst ho
  simp [execOp,hv,hrun]
theorem A5g {α:Type} [Inhabited α] {es:Nat}{e:α→List Ae}{xs:List α}{l h:Int}(h0:0≤l)(h1:l≤h)(h2:h≤xs.length):
  Wn xs.length es (fun i=>e (xs.getD i default)) l h (Kt es e ((xs.drop l.toNat).take (h-l).toNat)):=by
 have hlen:((xs.drop l.toNat).take (h-l).toNat).length=(h-l).toNat:=by simp;omega
 refine ⟨_,by rw [Kt,hlen],fun i hi=>?_⟩
 simp [List.getD,hi]
end Go.Sx
set_option maxRecDepth 100000
namespace Go.Sx
open Go
variable {P : Program} {T : List (TypeId × TI)}
def Xt (P:Program) (H:World→Prop) (f:FuncId) (ins outs:List Fo):Prop:=
 Hu P f∧∀(w:World),H w→∀(vs:List Value),vs.length=ins.length→(∀i x,ins[i]? =some x→Ib w (fun _=>False) x (vs.getD i undef))→
  Calls P f vs.toArray w fun e w'=>Kf w w' outs e
theorem B19 {H:World→Prop}{f:FuncId}{fn:Func}{c:Code}{ins outs:List Fo}(hf:P.funcs[f]? =some fn)(hb:fn.body=some c)(hn:(fn.name== "runtime.NumGoroutine")=false)
  (h:∀W,H W→G P ⟨W,fun _=>False⟩ (bodyPost P fn fun e w'=>Kf W w' outs e) [.code c] (Ev fn.ntmps ins)):Xt P H f ins outs:=by
 refine ⟨⟨fn,hf,hn,by simp [hb]⟩,fun w hH vs hl hv=>calls_of_wp hf hb ?_⟩
 refine h w hH ⟨fun _=> .slice none 0 0,fun _=>[]⟩ _ w ?_
 have nav:∀b,¬ (Ev fn.ntmps ins).avoid ⟨fun _=> .slice none 0 0,fun _=>[]⟩ b:=by
  rintro b (⟨x,hx,_⟩|⟨y,hy,_⟩)
  ·simp [Ev] at hx
  simp [Ev] at hy
 have nb:∀x,x∉(Ev fn.ntmps ins).boxes:=by simp [Ev]
 have no:∀x,x∉(Ev fn.ntmps ins).own:=by simp [Ev]
 refine ⟨rfl,by simp [Ev],by simp [Ev,hl],fun i x hx=>?_,fun x hx=>absurd hx (nb x),fun x hx=>absurd hx (nb x),by simp [Ev],fun y hy=>absurd hy (no y),by simp [Ev],fun y hy=>absurd hy (no y),fun x hx=>absurd hx (nb x),fun _ _=>rfl,
  ⟨rfl,rfl,rfl,Nat.le_refl _,fun _ _ _=>rfl,Nat.le_refl _⟩,fun b hb=>absurd hb (nav b)⟩
 simp only [Ev] at hx
 by_cases hi:i<ins.length
 ·rw [List.getElem?_append_left (by simpa using hi)] at hx
  simp only [List.getElem?_map,Option.map_eq_some_iff] at hx
  obtain ⟨y,hy,rfl⟩:=hx
  have hr:=hv i y hy
  have hiv:i<vs.length:=by omega
  have e:(vs.toArray++Array.replicate (fn.ntmps-vs.toArray.size) undef).getD i undef=vs.getD i undef:=by
   simp [Array.getD,List.getD,hiv,show i<vs.length+(fn.ntmps-vs.length) by omega]
  rw [e]
  cases y with
  |one c=>exact .c (hr.move (fun _ _ _=>rfl) (fun b _ hb=>absurd hb (nav b)))
  |agg cs=>
   obtain ⟨us,hu,hul,hur⟩:=hr
   rw [hu]
   refine .agg us (by simp [hul]) (fun j x hj=>?_)
   simp only [List.getElem?_map,Option.map_eq_some_iff] at hj
   obtain ⟨c,hc,rfl⟩:=hj
   exact .c ((hur j c hc).move (fun _ _ _=>rfl) (fun b _ hb=>absurd hb (nav b)))
  |ptr cs=>exact hr.den (fun b hb=>absurd hb (nav b))
  |fn f caps=>
   obtain ⟨us,hu,hul,hur⟩:=hr
   rw [hu]
   refine .fn us (by simp [hul]) (fun j x hj=>?_)
   simp only [List.getElem?_map,Option.map_eq_some_iff] at hj
   obtain ⟨c,hc,rfl⟩:=hj
   have hr:=hur j c hc
   cases c with
   |one c=>exact .c (Mh.move hr (fun _ _ _=>rfl) (fun b _ hb=>absurd hb (nav b)))
   |ptr cs=>exact Lh.den hr (fun b hb=>absurd hb (nav b))
 rw [List.getElem?_append_right (by simp;omega)] at hx
 obtain rfl:AV.any=x:=by
  have:=List.mem_of_getElem? hx
  simpa using (List.eq_of_mem_replicate this).symm
 exact .any _
theorem A8z (hT:Cn P T)(wr:Bool){H:World→Prop}{f:FuncId}{fn:Func}{c:Code}{ins outs:List Fo}(hf:P.funcs[f]? =some fn)(hb:fn.body=some c)(hn:(fn.name== "runtime.NumGoroutine")=false)
  (h:∀W,H W→Zg P ⟨W,fun _=>False⟩ (bodyPost P fn fun e w'=>Kf W w' outs e) (Ni T wr 100000 [.code c] (Ev fn.ntmps ins))):Xt P H f ins outs:=
 B19 hf hb hn fun W hW=>(go hT wr (h W hW)).rec id
end Go.Sx
set_option maxRecDepth 100000
namespace Go.Sx
open Go
def dec (n:Int):ByteArray:=⟨(Lib.itoa n).toArray⟩
end Go.Sx
set_option maxRecDepth 100000
namespace Go.Sx
open Go
variable {P : Program}
theorem Tf (w:World)(k:Nat)(os:Array Obj):Fx w.heap.size w (Sort.grow (w.drewN k) os):=
 ⟨rfl,rfl,rfl,by rw [Sort.size_grow];exact Nat.le_add_right _ _,fun i hi=>(Sort.heap_grow_old (w.drewN k) os hi),Nat.le_add_right _ _⟩
theorem bsz (a:Array UInt8):(ByteArray.mk a).size=a.size:=rfl
theorem Bo {n lo hi:Int}:Eb n lo hi=false↔¬ (lo≤n∧n≤hi):=by
 rw [←Au];simp
end Go.Sx
set_option maxRecDepth 100000
namespace Go.Sx
open Go
variable {P : Program} {T : List (TypeId × TI)}
theorem B5e (hT:Cn P T)(wr:Bool){J:Type}{B:B0}{Q:Exit→Act→World→Prop}{c:Code}{K:List KI}{s:AS}(fs:List Nat)(us:J→List (Nat×AV))(bs:J→List Bx)(os:J→List Ow)(φ:J→Prop)
  (h1:Zg P B Q (Ni T wr 100000 (.code c:: .loop (Inv B (fun j=>s.upd fs (us j) (bs j) (os j)) φ (fun _=>0) 1)::K) s))
  (h2:∀j,φ j→Zg P B Q (upK s.slots 0 fs (us j) fun slots=>Ni T wr 100000 K {s with slots:=slots,boxes:=bs j,own:=os j})):GW P B Q (.code c::K) s:=by
 refine ⟨fun E a w hs=>?_⟩
 have g1:G P B Q (.code c:: .loop (Inv B (fun j=>s.upd fs (us j) (bs j) (os j)) φ (fun _=>0) 1)::K) s:=(go hT wr h1).rec id
 refine Code.wp_mono (fun e a' w' hq=>?_) (g1 E a w hs)
 cases e with
 |normal=>
  obtain ⟨j,hj,_,E',hE'⟩:=(hq:Inv B (fun j=>s.upd fs (us j) (bs j) (os j)) φ (fun _=>0) 1 a' w')
  have g2:G P B Q K (s.upd fs (us j) (bs j) (os j)):=(go hT wr (by have:=h2 j hj;rw [B1k] at this;exact this)).rec id
  exact g2 E' a' w' hE'
 |exit id=>exact hq
 |goto l=>exact hq
 |ret=>exact hq
 |panic c=>exact hq
 |outgrown=>exact hq
theorem B4g (n:Nat)(hT:Cn P T)(wr:Bool){f:FuncId}{fn:Func}{c:Code}{ins outs:List Fo}(hf:P.funcs[f]? =some fn)(hb:fn.body=some c)(hn:(fn.name== "runtime.NumGoroutine")=false)
  (h:∀W,Zg P ⟨W,fun _=>False⟩ (bodyPost P fn fun e w'=>Kf W w' outs e) (Ni T wr n [.code c] (Ev fn.ntmps ins))):Bi P f ins outs:=
 enter hf hb hn fun W=>B02 hT wr n _ _ (A3y _ (h W))
theorem goF (n:Nat)(hT:Cn P T)(wr:Bool){B:B0}{Q:Exit→Act→World→Prop}{K:List KI}{s:AS}(h:Zg P B Q (Ni T wr n K s)):GW P B Q K s:=
 ⟨B02 hT wr n _ _ (A3y _ h)⟩
end Go.Sx
set_option maxRecDepth 100000
namespace Go.Sx
open Go
variable {P : Program} {T : List (TypeId × TI)}
end Go.Sx
set_option maxRecDepth 100000
namespace Go.Sx
open Go
variable {P : Program} {T : List (TypeId × TI)}
end Go.Sx
set_option maxRecDepth 100000
namespace Go.Sx
open Go
def isD (b:UInt8):Prop:=48≤b.toNat∧b.toNat≤57
instance (b:UInt8):Decidable (isD b):=by unfold isD;infer_instance
def B5g (n:Nat) (b:UInt8):Nat:=10 * n+(b.toNat-48)
def B4e (acc:Nat) (l:List UInt8):Nat:=l.foldl B5g acc
def rd (s:ByteArray):Option Nat:=if B4e 0 s.data.toList≤1000000000∧dec (B4e 0 s.data.toList:Nat)=s then some (B4e 0 s.data.toList) else none
end Go.Sx
set_option maxRecDepth 100000
namespace Go.Sx
open Go
def okB (s:ByteArray):Prop:=∀b∈s.data.toList,32≤b.toNat∧b.toNat≤126
instance (s:ByteArray):Decidable (okB s):=by unfold okB;infer_instance
def B2a (s:ByteArray):List ByteArray:=(Lib.fields s.data.toList).map fun l=>⟨l.toArray⟩
def A72 (s:ByteArray):Prop:=s.size≤600∧okB s∧(B2a s).length≤12
instance (s:ByteArray):Decidable (A72 s):=by unfold A72;infer_instance
end Go.Sx
set_option maxRecDepth 100000
namespace Go.Sx
open Go
end Go.Sx
set_option maxRecDepth 100000
namespace Go.Sx
open Go
end Go.Sx
set_option maxRecDepth 100000
namespace Go.Sx
open Go
variable {P : Program} {T : List (TypeId × TI)}
theorem RW.mono {B:B0}{Q Q':Exit→Act→World→Prop}{s:AS}(h:∀a w,Q .ret a w→Q' .ret a w)(hr:RW B Q s):RW B Q' s:=
 ⟨fun E a w hs=>h a w (hr.rec (fun g=>g E a w hs))⟩
end Go.Sx
