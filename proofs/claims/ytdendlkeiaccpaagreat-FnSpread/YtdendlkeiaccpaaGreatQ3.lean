/- Part 3 of the proof that each of the laws FnSpread returns true for every input. No conditions. -/
import Derived.Test.YtdendlkeiaccpaaGreatQ2
import Derived.Laws.BytesArg
import Derived.Lib.ItoaNum
import Derived.Sort.Grow
import Derived.Deep.Draws
import Derived.Lib.ItoaLen
import Derived.Lib.Join
import Derived.WideLaws
import Derived.Laws.Strings2
import Derived.Lib.AtoiAll
import Derived.Lib.Fields

set_option linter.unusedSimpArgs false
set_option linter.unusedVariables false
namespace Go.Sx
variable {P : Program} {T : List (TypeId × TI)}
theorem GW.out {B:Be}{Q:Exit→Act→World→Prop}{K:List KI}{s:AS}(h:GW P B Q K s):G P B Q K s:=h.rec fun h=>h
theorem A1s {w:World}{n es:Nat}{row:Nat→List Ai}{b off cap:Nat}{ty:TypeId}{cells:Array Value}{fps:Nat→List Nat}(hn:n≤cap)(hc:cap≤maxLen)
  (hb:w.heap[b]? =some (.cells cells ty (0,0)))(hs:(off+cap) * es≤cells.size)(hl:∀i,i<n→(row i).length=es)
  (hr:∀i j c,i<n→(row i)[j]? =some c→D3 w c (cells.getD ((off+i) * es+j) undef) (fps (i * es+j)))
  (hnd:(b::(List.range (n * es)).flatMap fps).Nodup)
  {j o:Nat}(hj:j<n)(ho:o<es){c:Ai}{g:List Nat}(hg:D3 w c (cells.getD ((off+j) * es+o) undef) g)(hgn:g.Nodup)
  (hgd:∀x∈g,x≠b∧∀k,k<n * es→k≠j * es+o→x∉fps k){c':Ai}(hu:Qj n es row j o [c] c'):
  D3 w c' (.slice (some ⟨b,off * es,none⟩) n cap) (b::(List.range (n * es)).flatMap (fun k=>if k=j * es+o then g else fps k))∧
   (b::(List.range (n * es)).flatMap (fun k=>if k=j * es+o then g else fps k)).Nodup:=by
 obtain ⟨row',rfl,hu1,hu2⟩:=hu;obtain ⟨hb0,hnd1⟩:=List.nodup_cons.1 hnd
 constructor
 ·refine .sl n es row' b off cap ty cells _ hn hc hb hs (fun i hi=>?_) (fun i m d hi hd=>?_)
  ·by_cases e:i=j
   ·subst e
    rw [hu2]
    simp [Ds,hl i hi]
    omega
   rw [hu1 i hi e];exact hl i hi
  by_cases e:i=j
  ·subst e
   rw [hu2] at hd;have hl1:(List.take o (row i)).length=o:=by simp [hl i hi];omega
   simp only [Ds] at hd
   by_cases h1:m=o
   ·subst h1
    rw [if_pos rfl];rw [List.append_assoc,List.getElem?_append_right Ad,hl1,Nat.sub_self] at hd;simp only [List.cons_append,List.getElem?_cons_zero,Option.some.injEq] at hd;subst hd;exact hg
   rw [if_neg Ad];refine hr i m d hi ?_
   by_cases h2:m<o
   ·rw [List.append_assoc,List.getElem?_append_left Ad,List.getElem?_take,if_pos h2] at hd
    exact hd
   rw [List.getElem?_append_right (by simp [hl i hi];omega)] at hd;simp only [List.length_append,hl1,List.getElem?_drop,List.length_singleton] at hd
   rwa [show o+1+(m-(o+1))=m by omega] at hd
  rw [hu1 i hi e] at hd;have hml:m<es:=by have:=(List.getElem?_eq_some_iff.1 hd).1;rw [hl i hi] at this;exact this
  have hne:i * es+m≠j * es+o:=by
   intro h
   rcases Nat.lt_or_gt_of_ne e with h'|h'
   ·have:(i+1) * es≤j * es:=Nat.mul_le_mul_right _ h'
    rw [Nat.add_mul] at this;omega
   have:(j+1) * es≤i * es:=Nat.mul_le_mul_right _ h'
   rw [Nat.add_mul] at this;omega
  rw [if_neg hne];exact hr i m d hi hd
 obtain ⟨f1,f2⟩:=Cw.1 hnd1;refine List.nodup_cons.2 ⟨fun h=>?_,Cw.2 ⟨fun k hk=>?_,?_⟩⟩
 ·obtain ⟨k,hk,hx⟩:=List.mem_flatMap.1 h
  split at hx
  ·exact (hgd b hx).1 rfl
  exact hb0 (Ek (List.mem_range.1 hk) hx)
 ·split
  ·exact hgn
  exact f1 k hk
 refine List.Pairwise.imp_of_mem ?_ ((List.nodup_range (n:=n * es)).and f2);intro p q hp hq ⟨hne,hpq⟩ z hz hz'
 split at hz
 ·split at hz'
  ·omega
  exact (hgd z hz).2 q (List.mem_range.1 hq) (by assumption) hz'
 split at hz'
 ·exact (hgd z hz').2 p (List.mem_range.1 hp) (by assumption) hz
 exact hpq z hz hz'
def O8 (c:Ai):Bool:=
 match c with
 | .sl _ _ _=>true
 |_=>false
theorem Cu (hT:Cs P T){B:Be}{Q:Exit→Act→World→Prop}{q:Bool}{all:Array Oper}{o:Oper}{rest:List Oper}{K:List KI}{s:AS}{x:Operand}{t:TypeId}{i:TI}
  (hg:o.guard=none)(ho:o.op= .load t x)(hi:find T t=some i)(hag:i.agg=false){k es off n:Nat}{j:Int}{row:Nat→List Ai}
  (hx:s.ev x= .oel k es j off)(hk:Cb s.own k=some (.sl n es row)){c:Ai}(hc:(row j.toNat)[off]? =some c)
  (h:∀v,GW P B Q (.ops q all rest::K) (({s with own:=⟨s.next,c⟩::⟨k,.sl n es fun i=>if i=j.toNat then Ds (row i) off [.val v] else row i⟩::Bz [k] s.own,next:=s.next+1,links:=(s.next,v)::s.links}:AS).put o.dst (.own s.next))):
  GW P B Q (.ops q all (o::rest)::K) s:=by
 refine ⟨Er hg (fun E a w hs=>?_)⟩;have hm:=Cp hk;obtain ⟨hklt,o2,o3⟩:=hs.own _ hm
 simp only at o2 o3 hklt
 have hev:=hs.ev x;rw [hx] at hev;generalize hv:a.eval x=v at hev
 cases hev with
 |oel _ b o' n' cap hkl hov h0 hj=>
  rw [hov] at o2;generalize hfp:E.fp k=fp at o2 o3;obtain ⟨jn,rfl⟩:=Int.eq_ofNat_of_zero_le h0;simp only [Int.toNat_natCast,Int.ofNat_lt] at *
  cases o2 with
  |emp=>exact absurd hj (Nat.not_lt_zero _)
  |sl _ _ _ _ offb _ ty cells fps hn hcp hb hcs hl hr=>
   have hoff:off<es:=by have:=(List.getElem?_eq_some_iff.1 hc).1;rwa [hl jn hj] at this
   have hin:=hr jn off c hj hc;obtain ⟨hb0,hnd1⟩:=List.nodup_cons.1 o3;obtain ⟨f1,f2⟩:=Cw.1 hnd1;have hpos:jn * es+off<n * es:=Fz hj hoff
   have hcl:(offb+jn) * es+off<cells.size:=by
    have:=Fz (show offb+jn<offb+cap by omega) hoff
    omega
   generalize hu:cells.getD ((offb+jn) * es+off) undef=u at hin
   have hdis:∀z∈fps (jn * es+off),z≠b∧∀k,k<n * es→k≠jn * es+off→z∉fps k:=by
    intro z hz;refine ⟨fun e=>hb0 (e▸Ek hpos hz),fun k hk hne hz'=>?_⟩;have hp:=List.pairwise_iff_getElem.1 f2
    rcases Nat.lt_or_gt_of_ne hne with h'|h'
    ·have:=hp k (jn * es+off) (by simpa using hk) (by simpa using hpos) h' z
     simp only [List.getElem_range] at this;exact this hz' hz
    have:=hp (jn * es+off) k (by simpa using hpos) (by simpa using hk) h' z
    simp only [List.getElem_range] at this;exact this hz hz'
   have hone:u.oneCell'=true:=hin.one
   obtain ⟨s1,s2⟩:=A1s hn hcp hb hcs hl hr o3 hj hoff (c:= .val u) (g:=[]) (by rw [hu];exact .val u hone) C8 C8
    (c':= .sl n es fun i=>if i=jn then Ds (row i) off [.val u] else row i) ⟨_,rfl,fun i _ hne=>by simp [hne],by simp⟩
   have hI:=hs.drop [k]
   have key:∀z,z∈b::(List.range (n * es)).flatMap fps→s.avoid E z∧¬ ({s with own:=Bz [k] s.own}:AS).avoid E z∧B.fresh z:=by
    intro z hz;have hzk:z∈E.fp k:=by rw [hfp];exact hz
    have hav:s.avoid E z:= .inr ⟨_,hm,hzk⟩;refine ⟨hav,?_,hs.fresh z hav⟩
    rintro (⟨r,hr',rfl⟩|⟨r,hr',hz'⟩)
    ·exact hs.sepB r hr' _ hm hzk
    obtain ⟨q1,q2⟩:=Cr.1 hr';exact hs.sep _ hm r q1 (fun e=>q2 (by simp at e;simp [e])) z hzk hz'
   have sub1:∀z,z∈b::(List.range (n * es)).flatMap (fun k=>if k=jn * es+off then [] else fps k)→z∈b::(List.range (n * es)).flatMap fps:=by
    intro z hz
    rcases List.mem_cons.1 hz with rfl|hz
    ·simp
    obtain ⟨p,hp,hz⟩:=List.mem_flatMap.1 hz
    split at hz
    ·simp at hz
    exact List.mem_cons_of_mem _ (List.mem_flatMap.2 ⟨p,hp,hz⟩)
   have hI3:=hI.addAt (k:=k) hklt (fun y' hy=>fun e=>(Cr.1 hy).2 (by rw [e];simp)) (by rw [hov];exact s1) s2 (fun z hz=>key z (sub1 z hz))
   have hav3:∀z,z∈fps (jn * es+off)→¬ ({s with own:=⟨k,.sl n es fun i=>if i=jn then Ds (row i) off [.val u] else row i⟩::Bz [k] s.own}:AS).avoid (E.setFp k (b::(List.range (n * es)).flatMap (fun k=>if k=jn * es+off then [] else fps k))) z:=by
    intro z hz;have hzin:z∈b::(List.range (n * es)).flatMap fps:=List.mem_cons_of_mem _ (Ek hpos hz)
    rintro (⟨r,hr',rfl⟩|⟨r,hr',hz'⟩)
    ·exact (key _ hzin).2.1 (.inl ⟨r,hr',rfl⟩)
    rcases List.mem_cons.1 hr' with rfl|hr'
    ·simp only [E7.setFp,if_true] at hz'
     rcases List.mem_cons.1 hz' with rfl|hz'
     ·exact (hdis _ hz).1 rfl
     obtain ⟨p,hp,hz'⟩:=List.mem_flatMap.1 hz'
     split at hz'
     ·simp at hz'
     exact (hdis z hz).2 p (List.mem_range.1 hp) (by assumption) hz'
    have hne:r.key≠k:=fun e=>(Cr.1 hr').2 (by rw [e];simp);simp only [E7.setFp,hne,if_false] at hz';exact (key z hzin).2.1 (.inr ⟨r,hr',hz'⟩)
   obtain ⟨k1,k2⟩:=hI3.addOwn hin (f1 _ (List.mem_range.2 hpos)) (fun z hz=>⟨(key z (List.mem_cons_of_mem _ (Ek hpos hz))).1,hav3 z hz,(key z (List.mem_cons_of_mem _ (Ek hpos hz))).2.2⟩)
   have k3:({s with own:=⟨s.next,c⟩::⟨k,.sl n es fun i=>if i=jn then Ds (row i) off [.val u] else row i⟩::Bz [k] s.own,next:=s.next+1,links:=(s.next,u)::s.links}:AS).isA B
     ((E.setFp k (b::(List.range (n * es)).flatMap (fun k=>if k=jn * es+off then [] else fps k))).withOwn s.next u (fps (jn * es+off))) (s.avoid E) a w:=by
    refine ⟨k1.defers,fun p hp=>?_,k1.size,k1.slots,k1.boxes,k1.boxes2,k1.keys,k1.own,k1.ownkeys,k1.sep,k1.sepB,k1.one,k1.base,k1.fresh,k1.sub⟩
    rcases List.mem_cons.1 hp with rfl|hp
    ·exact ⟨Nat.lt_succ_self _,by simp [E7.withOwn]⟩
    exact k1.links p hp
   refine ⟨u,fun w' hkw=>?_,(h u).out _ _ w ((k3.put o.dst k2).is)⟩;obtain ⟨dst,op',ty',pos,after,guard⟩:=o
   simp only at ho
   subst ho;obtain ⟨f,d,z,S⟩:=TI.of_spec (hT t i hi);have hd:Is d=false:=by rw [←S.agg];exact hag
   have h1:=S.one hd
   have hrun:=Hp (hT t i hi) w' b (offb * es+jn * es+off) ((List.range i.size).map fun _=>u) C8 (fun p hp=>by
    obtain rfl:p=0:=by omega
    refine hkw.cell ?_;rw [show offb * es+jn * es+off+0=(offb+jn) * es+off by rw [Nat.add_mul];omega,cell_of_row w b _ cells ty (0,0) hb]
    simp only [h1,List.range_one,List.map_cons,List.map_nil,List.getD_cons_zero];rw [←hu,Array.getD_eq_getD_getElem?]
    simp [hcl])
   simp only [execOp,hv,Instr.loadAt,Instr.sureAddr,Sem.run_bind,Sem.run_pure,Result.andThen_ok,hrun,hag,h1];rfl
theorem C0l {B:Be}{Q:Exit→Act→World→Prop}{K:List KI}{s:AS}(k k2:Nat){n es:Nat}{row:Nat→List Ai}{j off:Nat}{v:Value}{c:Ai}(hk:Cb s.own k=some (.sl n es row))
  (hj:j<n)(hc:(row j)[off]? =some (.val v))(h2:Cb s.own k2=some c)(hl:Ed s.links k2=some v)(hne:Nat.beq k k2=false)(c':Ai)(hu:Qj n es row j off [c] c')
  (h:GW P B Q K {s with own:=⟨k,c'⟩::Bz [k,k2] s.own}):GW P B Q K s:=by
 refine ⟨fun E a w hs=>?_⟩;have hm:=Cp hk;have hm2:=Cp h2;have hkk:k≠k2:=fun e=>by subst e;simp at hne
 obtain ⟨hklt,o2,o3⟩:=hs.own _ hm;obtain ⟨hklt2,p2,p3⟩:=hs.own _ hm2
 simp only at o2 o3 hklt p2 p3 hklt2
 have hlv:=(hs.links _ (Fy hl)).2
 simp only at hlv
 have hI:=hs.drop [k,k2]
 have key:∀z,(z∈E.fp k∨z∈E.fp k2)→s.avoid E z∧¬ ({s with own:=Bz [k,k2] s.own}:AS).avoid E z∧B.fresh z:=by
  intro z hz
  have:∃y∈s.own,y.key∈[k,k2]∧z∈E.fp y.key:=by
   rcases hz with hz|hz
   ·exact ⟨_,hm,by simp,hz⟩
   exact ⟨_,hm2,by simp,hz⟩
  obtain ⟨y,hy,hyk,hz⟩:=this;have hav:s.avoid E z:= .inr ⟨_,hy,hz⟩;refine ⟨hav,?_,hs.fresh z hav⟩
  rintro (⟨r,hr',rfl⟩|⟨r,hr',hz'⟩)
  ·exact hs.sepB r hr' _ hy hz
  obtain ⟨q1,q2⟩:=Cr.1 hr';exact hs.sep _ hy r q1 (fun e=>q2 (e▸hyk)) z hz hz'
 have hsep:=hs.sep _ hm _ hm2 hkk;generalize hov:E.ov k=vv,hfp:E.fp k=fp at o2 o3
 cases o2 with
 |nil=>omega
 |emp=>omega
 |sl _ _ _ b offb cap ty cells fps hn hcp hb hcs hl' hr=>
  have hoff:off<es:=by have:=(List.getElem?_eq_some_iff.1 hc).1;rwa [hl' j hj] at this
  have hin:=hr j off _ hj hc;generalize hu':cells.getD ((offb+j) * es+off) undef=u at hin
  have huv:u=v:=by
   revert hin
   generalize fps (j * es+off)=g;intro hin
   cases hin;rfl
  obtain ⟨s1,s2⟩:=A1s hn hcp hb hcs hl' hr o3 hj hoff (c:=c) (g:=E.fp k2) (by rw [hu',huv,←hlv];exact p2) p3 (fun z hz=>by
   refine ⟨fun e=>?_,fun p hp _ hz'=>?_⟩
   ·subst e
    exact hsep z (by simp only [hfp];simp) hz
   exact hsep z (by simp only [hfp];exact List.mem_cons_of_mem _ (Ek hp hz')) hz) hu
  have hI3:=hI.addAt (k:=k) hklt (fun y' hy=>fun e=>(Cr.1 hy).2 (by rw [e];simp)) (by rw [hov];exact s1) s2 (fun z hz=>by
   rcases List.mem_cons.1 hz with rfl|hz
   ·exact key z (.inl (by rw [hfp];simp))
   obtain ⟨p,hp,hz⟩:=List.mem_flatMap.1 hz
   split at hz
   ·exact key z (.inr hz)
   exact key z (.inl (by rw [hfp];exact List.mem_cons_of_mem _ (List.mem_flatMap.2 ⟨p,hp,hz⟩))))
  exact h.out _ a w hI3.is
theorem Yl {B:Be}{Q:Exit→Act→World→Prop}{K:List KI}{s:AS}(i es:Nat)(row:Nat→List Ai)(hi:Hs s.slots i= .c (.val (.slice none 0 0)))
  (h:GW P B Q K {s with slots:=D6 s.slots i (.own s.next),own:=⟨s.next,.sl 0 es row⟩::s.own,next:=s.next+1}):GW P B Q K s:=by
 refine ⟨fun E a w hs=>?_⟩;have hI:s.isA B E (s.avoid E) a w:=⟨hs.defers,hs.links,hs.size,hs.slots,hs.boxes,hs.boxes2,hs.keys,hs.own,hs.ownkeys,hs.sep,hs.sepB,hs.one,hs.base,hs.fresh,fun _ h=>h⟩
 obtain ⟨k1,k2⟩:=hI.addOwn (.nil es row) C8 C8;have k3:=k1.is;refine h.out (E.withOwn s.next (.slice none 0 0) []) a w ⟨k3.defers,k3.links,by rw [k3.size];exact (Cn _ _ _).symm,fun m z hz=>?_,k3.boxes,k3.boxes2,k3.keys,k3.own,k3.ownkeys,k3.sep,k3.sepB,k3.one,k3.base,k3.fresh⟩
 simp only at hz
 rw [Dv] at hz
 split at hz
 ·rename_i hm
  obtain ⟨rfl,hm⟩:=hm;obtain rfl:=Option.some.inj hz;have hd:=hs.slots i (.c (.val (.slice none 0 0))) (by rw [Dc,List.getElem?_eq_getElem hm] at hi;rw [List.getElem?_eq_getElem hm];simpa using hi);rw [Bo hd]
  have:Dr (E.withOwn s.next (.slice none 0 0) []) w _ _ (.own s.next) (.slice none 0 0):=k2
  exact this.move (Nat.le_refl _) (fun _ _=>⟨rfl,rfl⟩) (fun _ _ _=>rfl) (fun b _ hb=>k1.sub b hb)
 exact k3.slots m z hz
end Go.Sx
namespace Go.Sx
abbrev Bh (xs:List Int):Ai:=Kv 1 (fun n=>[vi n]) xs
abbrev Dw (xs:List Bool):Ai:=Kv 1 (fun b=>[vb b]) xs
structure Fo where
 epoch:Int
 turn:Int
 deriving Inhabited,DecidableEq
def Fo.c (x:Fo):List Ai:=[vi x.epoch,vi x.turn]
structure C5z where
 stamp:Fo
 n:Int
 deriving Inhabited,DecidableEq
structure Aa where
 op:Int
 stamp:Fo
 key:Int
 val:Int
 deriving Inhabited,DecidableEq
def Aa.c (x:Aa):List Ai:=[vi x.op,vi x.stamp.epoch,vi x.stamp.turn,vi x.key,vi x.val]
abbrev Af (xs:List Aa):Ai:=Kv 5 Aa.c xs
structure Ca where
 cap:Int
 queue:List Aa
 credits:Int
 back:Int
 sent:Int
 got:Int
 deriving Inhabited,DecidableEq
def Ca.c (x:Ca):List Ai:=[vi x.cap,Af x.queue,vi x.credits,vi x.back,vi x.sent,vi x.got]
abbrev C4 (xs:List Ca):Ai:=Kv 6 Ca.c xs
structure Bw where
 kind:Int
 a:Int
 b:Int
 outs:List Int
 deriving Inhabited,DecidableEq
def Bw.c (x:Bw):List Ai:=[vi x.kind,vi x.a,vi x.b,Bh x.outs]
abbrev Bg (xs:List Bw):Ai:=Kv 4 Bw.c xs
structure Ah where
 nodes:List Bw
 workers:Int
 cap:Int
 deriving Inhabited,DecidableEq
def Ah.c (x:Ah):List Ai:=[Bg x.nodes,vi x.workers,vi x.cap]
structure Ae where
 op:Int
 epoch:Int
 key:Int
 val:Int
 deriving Inhabited,DecidableEq
def Ae.c (x:Ae):List Ai:=[vi x.op,vi x.epoch,vi x.key,vi x.val]
abbrev Ak (xs:List Ae):Ai:=Kv 4 Ae.c xs
structure F6 where
 epoch:Int
 capped:Bool
 deriving Inhabited,DecidableEq
def F6.c (x:F6):List Ai:=[vi x.epoch,vb x.capped]
abbrev G1 (xs:List F6):Ai:=Kv 2 F6.c xs
structure Ab where
 queue:List Aa
 staged:List Aa
 inputs:List Aa
 cells:List Ae
 sums:List Int
 black:List Bool
 caps:List Bool
 dones:List F6
 deriving Inhabited,DecidableEq
def Ab.c (x:Ab):List Ai:=[Af x.queue,Af x.staged,Af x.inputs,Ak x.cells,Bh x.sums,Dw x.black,Dw x.caps,G1 x.dones]
abbrev Ar (xs:List Ab):Ai:=Kv 8 Ab.c xs
structure Fs where
 going:Bool
 at_:Int
 sum:Int
 black:Bool
 capped:Bool
 deriving Inhabited,DecidableEq
def Fs.c (x:Fs):List Ai:=[vb x.going,vi x.at_,vi x.sum,vb x.black,vb x.capped]
abbrev Bm (xs:List Fs):Ai:=Kv 5 Fs.c xs
structure Di where
 to_:Int
 epoch:Int
 capped:Bool
 deriving Inhabited,DecidableEq
def Di.c (x:Di):List Ai:=[vi x.to_,vi x.epoch,vb x.capped]
abbrev Cc (xs:List Di):Ai:=Kv 3 Di.c xs
structure A3 where
 graph:Ah
 workers:List Ab
 links:List Ca
 tokens:List Fs
 news:List Di
 deriving Inhabited,DecidableEq
def A3.c (x:A3):List Ai:=[Bg x.graph.nodes,vi x.graph.workers,vi x.graph.cap,Ar x.workers,C4 x.links,Bm x.tokens,Cc x.news]
structure D7 where
 kind:Int
 a:Int
 b:Int
 deriving Inhabited,DecidableEq
def D7.c (x:D7):List Ai:=[vi x.kind,vi x.a,vi x.b]
abbrev El (xs:List D7):Ai:=Kv 3 D7.c xs
structure C5r where
 graph:Ah
 inputs:List Aa
 picks:List D7
 rounds:Int
 deriving Inhabited,DecidableEq
def wS {α:Type} (w:α→Nat) (xs:List α):Nat:=xs.length+(xs.map w).sum
def Fo.ok (x:Fo):Prop:=Gk .i64 x.epoch∧Gk .i64 x.turn
def Aa.ok (x:Aa):Prop:=Gk .i64 x.op∧x.stamp.ok∧Gk .i64 x.key∧Gk .i64 x.val
def Ca.w (x:Ca):Nat:=x.queue.length
def Ca.ok (x:Ca):Prop:=Gk .i64 x.cap∧(x.queue.length≤maxLen∧∀y∈x.queue,y.ok)∧Gk .i64 x.credits∧Gk .i64 x.back∧Gk .i64 x.sent∧Gk .i64 x.got
def Bw.w (x:Bw):Nat:=x.outs.length
def Bw.ok (x:Bw):Prop:=Gk .i64 x.kind∧Gk .i64 x.a∧Gk .i64 x.b∧(x.outs.length≤maxLen∧∀y∈x.outs,Gk .i64 y)
def Ah.w (x:Ah):Nat:=wS Bw.w x.nodes
def Ah.ok (x:Ah):Prop:=(x.nodes.length≤maxLen∧∀y∈x.nodes,y.ok)∧Gk .i64 x.workers∧Gk .i64 x.cap
def Ae.ok (x:Ae):Prop:=Gk .i64 x.op∧Gk .i64 x.epoch∧Gk .i64 x.key∧Gk .i64 x.val
def F6.ok (x:F6):Prop:=Gk .i64 x.epoch
def Ab.w (x:Ab):Nat:=x.queue.length+x.staged.length+x.inputs.length+x.cells.length+x.sums.length+x.black.length+x.caps.length+x.dones.length
def Ab.ok (x:Ab):Prop:=(x.queue.length≤maxLen∧∀y∈x.queue,y.ok)∧(x.staged.length≤maxLen∧∀y∈x.staged,y.ok)∧(x.inputs.length≤maxLen∧∀y∈x.inputs,y.ok)∧(x.cells.length≤maxLen∧∀y∈x.cells,y.ok)∧(x.sums.length≤maxLen∧∀y∈x.sums,Gk .i64 y)∧x.black.length≤maxLen∧x.caps.length≤maxLen∧(x.dones.length≤maxLen∧∀y∈x.dones,y.ok)
def Fs.ok (x:Fs):Prop:=Gk .i64 x.at_∧Gk .i64 x.sum
def Di.ok (x:Di):Prop:=Gk .i64 x.to_∧Gk .i64 x.epoch
def A3.w (x:A3):Nat:=x.graph.w+wS Ab.w x.workers+wS Ca.w x.links+x.tokens.length+x.news.length
def A3.ok (x:A3):Prop:=x.graph.ok∧(x.workers.length≤maxLen∧∀y∈x.workers,y.ok)∧(x.links.length≤maxLen∧∀y∈x.links,y.ok)∧(x.tokens.length≤maxLen∧∀y∈x.tokens,y.ok)∧(x.news.length≤maxLen∧∀y∈x.news,y.ok)
def D7.ok (x:D7):Prop:=Gk .i64 x.kind∧Gk .i64 x.a∧Gk .i64 x.b
theorem B37 {α:Type} [Inhabited α] (w:α→Nat)(xs:List α)(k:Nat)(hk:k<xs.length):((xs.take (k+1)).map w).sum=((xs.take k).map w).sum+w (xs.getD k default):=by
 rw [List.take_add_one,List.map_append,List.sum_append,List.getElem?_eq_getElem hk]
 simp [List.getD,hk]
theorem I5 {α:Type} [Inhabited α] (w:α→Nat)(xs:List α)(k:Nat)(hk:k<xs.length):((xs.take k).map w).sum+w (xs.getD k default)≤(xs.map w).sum:=by
 rw [←B37 w xs k hk]
 conv=>rhs;rw [←List.take_append_drop (k+1) xs,List.map_append,List.sum_append]
 omega
theorem C0q {α:Type}(w:α→Nat)(xs:List α):wS w xs=xs.length+(xs.map w).sum:=rfl
end Go.Sx
namespace Go.Sx
variable {P : Program} {T : List (TypeId × TI)}
def Xk (c c':Ai):Prop:=c'=c∨(c= .val (.slice none 0 0)∧∃es row,c'= .sl 0 es row)
def Gb (cs cs':List Ai):Prop:=
 match cs,cs' with
 | [],[]=>True
 |c::cs,c'::cs'=>Xk c c'∧Gb cs cs'
 |_,_=>False
theorem Gb.get {cs cs':List Ai}(h:Gb cs cs'):cs'.length=cs.length∧∀(i:Nat) (c':Ai),cs'[i]? =some c'→∃c,cs[i]? =some c∧Xk c c':=by
 induction cs generalizing cs' with
 |nil=>cases cs'<;>simp_all [Gb]
 |cons c cs ih=>
  cases cs' with
  |nil=>simp [Gb] at h
  |cons c' cs'=>
   obtain ⟨h1,h2⟩:=h;obtain ⟨g1,g2⟩:=ih h2;refine ⟨by simp [g1],fun i d hd=>?_⟩
   cases i with
   |zero=>simp only [List.getElem?_cons_zero,Option.some.injEq] at hd;subst hd;exact ⟨c,by simp,h1⟩
   |succ i=>simpa using g2 i d (by simpa using hd)
theorem Xk.own {w:World}{c c':Ai}{v:Value}{fp:List Nat}(h:Xk c c')(ho:D3 w c v fp):D3 w c' v fp:=by
 rcases h with rfl|⟨rfl,es,row,rfl⟩
 ·exact ho
 cases ho;exact .nil es row
theorem Xk.refl (c:Ai):Xk c c:= .inl rfl
theorem Xk.nil (es:Nat)(row:Nat→List Ai):Xk (.val (.slice none 0 0)) (.sl 0 es row):= .inr ⟨rfl,es,row,rfl⟩
def Ii (c c':Ai):Prop:=
 match c,c' with
 | .sl n es row,.sl n' es' row'=>n'=n∧es'=es∧∀i,i<n→Gb (row i) (row' i)
 |_,_=>False
theorem Ii.own {w:World}{c c':Ai}{v:Value}{fp:List Nat}(h:Ii c c')(ho:D3 w c v fp):D3 w c' v fp:=by
 cases ho with
 |val x hx=>cases c'<;>exact h.elim
 |nil es row=>
  cases c' with
  |val=>exact h.elim
  |sl n' es' row'=>
   obtain ⟨rfl,rfl,_⟩:=h;exact .nil _ row'
 |emp es row b0 o0=>
  cases c' with
  |val=>exact h.elim
  |sl n' es' row'=>
   obtain ⟨rfl,rfl,_⟩:=h;exact .emp _ row' b0 o0
 |sl n es row b off cap ty cells fps hn hc hb hs hl hr=>
  cases c' with
  |val=>exact h.elim
  |sl n' es' row'=>
   obtain ⟨rfl,rfl,h⟩:=h;refine .sl _ _ row' b off cap ty cells fps hn hc hb hs (fun i hi=>?_) (fun i j d hi hd=>?_)
   ·rw [(h i hi).get.1];exact hl i hi
   obtain ⟨c,h1,h2⟩:=(h i hi).get.2 j d hd;exact h2.own (hr i j c hi h1)
def Ht (l:List Ow) (k:Nat) (c:Ai):List Ow:=
 match l with
 | []=>[]
 |y::r=>match Nat.beq y.key k with
  |true=>⟨k,c⟩::Ht r k c
  |false=>y::Ht r k c
theorem Sj {l:List Ow}{k:Nat}{c:Ai}{y:Ow}(h:y∈Ht l k c):(y.key=k∧y.cell=c∧∃z∈l,z.key=k)∨(y∈l∧y.key≠k):=by
 induction l with
 |nil=>simp [Ht] at h
 |cons x r ih=>
  unfold Ht at h
  split at h
  ·rename_i e
   have e:=Nat.eq_of_beq_eq_true e
   rcases List.mem_cons.1 h with rfl|h
   ·exact .inl ⟨rfl,rfl,x,by simp,e⟩
   rcases ih h with ⟨h1,h2,z,hz,h3⟩|⟨h1,h2⟩
   ·exact .inl ⟨h1,h2,z,List.mem_cons_of_mem _ hz,h3⟩
   exact .inr ⟨List.mem_cons_of_mem _ h1,h2⟩
  rename_i e
  rcases List.mem_cons.1 h with rfl|h
  ·exact .inr ⟨by simp,fun e'=>by rw [e',Nat.beq_refl] at e;cases e⟩
  rcases ih h with ⟨h1,h2,z,hz,h3⟩|⟨h1,h2⟩
  ·exact .inl ⟨h1,h2,z,List.mem_cons_of_mem _ hz,h3⟩
  exact .inr ⟨List.mem_cons_of_mem _ h1,h2⟩
theorem U8 (l:List Ow)(k:Nat)(c:Ai):(Ht l k c).map (·.key)=l.map (·.key):=by
 induction l with
 |nil=>rfl
 |cons x r ih=>
  unfold Ht
  split
  ·rename_i e
   have e:=Nat.eq_of_beq_eq_true e
   simp [ih,e]
  simp [ih]
theorem H8 {l:List Ow}{k:Nat}{c:Ai}{y:Ow}(h:y∈Ht l k c):∃z∈l,z.key=y.key:=by
 rcases Sj h with ⟨h1,_,z,hz,h3⟩|⟨h1,_⟩
 ·exact ⟨z,hz,h3.trans h1.symm⟩
 exact ⟨y,h1,rfl⟩
theorem Es {B:Be}{Q:Exit→Act→World→Prop}{K:List KI}{s:AS}(k:Nat)(c':Ai){c:Ai}(hk:Cb s.own k=some c)(hc:Ii c c')
  (h:GW P B Q K {s with own:=Ht s.own k c'}):GW P B Q K s:=by
 refine ⟨fun E a w hs=>?_⟩;have hm:=Cp hk
 have av:∀b,({s with own:=Ht s.own k c'}:AS).avoid E b→s.avoid E b:=by
  rintro b (hb|⟨y,hy,hb⟩)
  ·exact .inl hb
  obtain ⟨z,hz,e⟩:=H8 hy;exact .inr ⟨z,hz,by rw [e];exact hb⟩
 have mv:∀x v,Dr E w (s.avoid E) s.next x v→Dr E w (({s with own:=Ht s.own k c'}:AS).avoid E) s.next x v:=fun x v hx=>
  hx.move (Nat.le_refl _) (fun _ _=>⟨rfl,rfl⟩) (fun _ _ _=>rfl) (fun b _ hb=>av b hb)
 refine h.out E a w ⟨hs.defers,hs.links,hs.size,fun i x hx=>mv _ _ (hs.slots i x hx),fun x hx=>?_,hs.boxes2,hs.keys,fun y hy=>?_,by rw [U8];exact hs.ownkeys,fun y hy z hz hne=>?_,fun x hx y hy=>?_,hs.one,hs.base,fun b hb=>hs.fresh b (av b hb)⟩
 ·obtain ⟨h1,vs,ty,h2,h3,h4⟩:=hs.boxes x hx
  exact ⟨h1,vs,ty,h2,h3,fun i y hy=>mv _ _ (h4 i y hy)⟩
 ·rcases Sj hy with ⟨h1,h2,_⟩|⟨h1,_⟩
  ·obtain ⟨g1,g2,g3⟩:=hs.own _ hm
   rw [h1,h2];exact ⟨g1,hc.own g2,g3⟩
  exact hs.own y h1
 ·obtain ⟨y',hy',e1⟩:=H8 hy
  obtain ⟨z',hz',e2⟩:=H8 hz;rw [←e1,←e2];exact hs.sep y' hy' z' hz' (by rw [e1,e2];exact hne)
 obtain ⟨y',hy',e1⟩:=H8 hy;rw [←e1];exact hs.sepB x hx y' hy'
theorem A7o {α:Type} [Inhabited α] {es:Nat}{e:α→List Ai}{row:Nat→List Ai}{xs:List α}(h:∀i,i<xs.length→Gb (row i) (e (xs.getD i default))):Ii (.sl xs.length es row) (Kv es e xs):=
 ⟨rfl,rfl,h⟩
theorem B4p {α:Type} [Inhabited α] {es:Nat}{e:α→List Ai}{z:List Ai}(n:Nat)(h:Gb z (e default)):Ii (.sl n es fun _=>z) (Kv es e (List.replicate n default)):=
 ⟨List.length_replicate,rfl,fun i hi=>by
  have:(List.replicate n (default:α)).getD i default=default:=by simp [List.getD,hi]
  show Gb z (e ((List.replicate n default).getD i default))
  rw [this];exact h⟩
end Go.Sx
namespace Go.Sx
variable {P : Program} {T : List (TypeId × TI)}
def Wk (cs cs':List Ai):Prop:=cs'.length=cs.length∧∀(i:Nat) (c':Ai),cs'[i]? =some c'→∃c,cs[i]? =some c∧∀w A v,Qi w A c v→Qi w A c' v
theorem Wk.refl (cs:List Ai):Wk cs cs:=⟨rfl,fun _ c h=>⟨c,h,fun _ _ _ h=>h⟩⟩
theorem C5p {α:Type} [Inhabited α] {es n:Nat}{row:Nat→List Ai}{e:α→List Ai}{ok:α→Prop}(h:∀i,i<n→∃x,ok x∧Wk (row i) (e x)):
  ∃xs:List α,xs.length=n∧(∀y∈xs,ok y)∧Wk [.sl n es row] [Kv es e xs]:=by
 have hex:∀i,∃x,i<n→ok x∧Wk (row i) (e x):=fun i=>by
  by_cases hi:i<n
  ·obtain ⟨x,hx⟩:=h i hi;exact ⟨x,fun _=>hx⟩
  exact ⟨default,fun h=>absurd h hi⟩
 let g:=fun i=>Classical.choose (hex i)
 have hg:∀i,i<n→ok (g i)∧Wk (row i) (e (g i)):=fun i=>Classical.choose_spec (hex i);have hget:∀i,i<n→((List.range n).map g).getD i default=g i:=fun i hi=>by simp [List.getD,hi]
 refine ⟨(List.range n).map g,by simp,fun y hy=>?_,rfl,fun i c hc=>?_⟩
 ·obtain ⟨i,hi,rfl⟩:=List.mem_map.1 hy
  exact (hg i (List.mem_range.1 hi)).1
 cases i with
 |succ i=>simp at hc
 |zero=>
  simp only [List.getElem?_cons_zero,Option.some.injEq] at hc;subst hc;refine ⟨_,rfl,fun w A v hr=>?_⟩;have hlen:((List.range n).map g).length=n:=by simp
  unfold Kv;rw [hlen]
  cases hr with
  |nil=>exact .nil _ _
  |emp _ _ a=>exact .emp _ _ a
  |sl _ _ _ b off cap u hA hn hc hl hu hr=>
   refine .sl n es _ b off cap u hA hn hc (fun i hi=>?_) hu (fun i j c hi hc=>?_)
   ·rw [hget i hi,(hg i hi).2.1];exact hl i hi
   rw [hget i hi] at hc;obtain ⟨c0,h1,h2⟩:=(hg i hi).2.2 j c hc;exact h2 _ _ _ (hr i j c0 hi h1)
theorem Wk.repL {w:World}{xs ys:List Ai}{cs:List Value}(h:Wk xs ys)(hr:Ti w xs cs):Ti w ys cs:=by
 refine ⟨h.1.trans hr.1,fun i c hc=>?_⟩;obtain ⟨c0,h1,h2⟩:=h.2 i c hc;exact h2 _ _ _ (hr.2 i c0 h1)
theorem Ti.arg1 {w:World}{c:Ai}{v:Value}(h:Ti w [c] [v]):Ms w (fun _=>False) (.one c) v:=h.2 0 c rfl
end Go.Sx
namespace Go.Sx
def Ga (row:Nat→List Ai) (j:Nat) (r:List Ai):Nat→List Ai:=fun i=>if i=j then r else row i
theorem Dg (row:Nat→List Ai)(j:Nat)(r:List Ai):Ga row j r j=r:=by simp [Ga]
theorem Lg (row:Nat→List Ai)(j i:Nat)(r:List Ai)(h:i≠j):Ga row j r i=row i:=by simp [Ga,h]
theorem A4w {n es:Nat}{row:Nat→List Ai}{j off:Nat}{cs r:List Ai}(h:Ds (row j) off cs=r):Qj n es row j off cs (.sl n es (Ga row j r)):=
 ⟨_,rfl,fun _ _ hi=>Lg _ _ _ _ hi,by rw [Dg,h]⟩
theorem Gb.refl (cs:List Ai):Gb cs cs:=by
 induction cs with
 |nil=>trivial
 |cons c cs ih=>exact ⟨.refl c,ih⟩
theorem B2i {n es:Nat}{row:Nat→List Ai}{j off:Nat}{cs r r':List Ai}(h:Ds r off cs=r'):Qj n es (Ga row j r) j off cs (.sl n es (Ga row j r')):=
 ⟨_,rfl,fun _ _ hi=>by rw [Lg _ _ _ _ hi,Lg _ _ _ _ hi],by rw [Dg,Dg,h]⟩
theorem B24 (row:Nat→List Ai)(j off:Nat)(v:Value){r:List Ai}(hr:row j=r):(fun i=>if i=j then Ds (row i) off [.val v] else row i)=Ga row j (Ds r off [.val v]):=by
 funext i
 unfold Ga
 by_cases h:i=j
 ·subst h;rw [if_pos rfl,if_pos rfl,hr]
 rw [if_neg h,if_neg h]
theorem C3w {P:Program}{T:List (TypeId×TI)}(hT:Cs P T){B:Be}{Q:Exit→Act→World→Prop}{q:Bool}{all:Array Oper}{o:Oper}{rest:List Oper}{K:List KI}{s:AS}{x:Operand}{t:TypeId}{i:TI}
  (hg:o.guard=none)(ho:o.op= .load t x)(hi:find T t=some i)(hag:i.agg=false){k es off n j:Nat}{row:Nat→List Ai}
  (hx:s.ev x= .oel k es (j:Int) off)(hk:Cb s.own k=some (.sl n es row)){r:List Ai}(hr:row j=r){c:Ai}(hc:r[off]? =some c)
  (h:∀v,GW P B Q (.ops q all rest::K) (({s with own:=⟨s.next,c⟩::⟨k,.sl n es (Ga row j (Ds r off [.val v]))⟩::Bz [k] s.own,next:=s.next+1,links:=(s.next,v)::s.links}:AS).put o.dst (.own s.next))):
  GW P B Q (.ops q all (o::rest)::K) s:=
 Cu hT hg ho hi hag hx hk (c:=c) (by rw [Int.toNat_natCast,hr];exact hc) fun v=>by
  have:=h v
  rw [←B24 row j off v hr] at this;rw [Int.toNat_natCast];exact this
theorem C0m {P:Program}{B:Be}{Q:Exit→Act→World→Prop}{K:List KI}{s:AS}(k k2:Nat){n es:Nat}{row:Nat→List Ai}{j:Nat}(off:Nat){r:List Ai}{v:Value}{c:Ai}(hk:Cb s.own k=some (.sl n es (Ga row j r)))
  (hj:j<n)(hc:r[off]? =some (.val v))(h2:Cb s.own k2=some c)(hl:Ed s.links k2=some v)(hne:Nat.beq k k2=false){r':List Ai}(hr:Ds r off [c]=r')
  (h:GW P B Q K {s with own:=⟨k,.sl n es (Ga row j r')⟩::Bz [k,k2] s.own}):GW P B Q K s:=
 C0l k k2 hk hj (off:=off) (by rw [Dg];exact hc) h2 hl hne _ (B2i hr) h
theorem getD_set_self {α:Type}(l:List α)(j:Nat)(x d:α)(h:j<l.length):(l.set j x).getD j d=x:=by simp [List.getD,h]
theorem getD_set_ne {α:Type}(l:List α)(i j:Nat)(x d:α)(h:i≠j):(l.set j x).getD i d=l.getD i d:=by simp [List.getD,List.getElem?_set_ne (Ne.symm h)]
theorem Ji {α:Type} [Inhabited α] {es:Nat}{e:α→List Ai}{xs:List α}{j off:Nat}{x1 x2:α}{cs:List Ai}(hj:j<xs.length)(h:Ds (e x1) off cs=e x2):
  Qj (xs.set j x1).length es (fun i=>e ((xs.set j x1).getD i default)) j off cs (Kv es e (xs.set j x2)):=by
 refine ⟨_,by rw [Kv,List.length_set,List.length_set],fun i _ hne=>?_,?_⟩
 ·simp only [getD_set_ne _ _ _ _ _ hne]
 simp only [getD_set_self _ _ _ _ hj,h]
theorem G6 {α:Type} [Inhabited α] {es:Nat}{e:α→List Ai}{xs:List α}{j off:Nat}{x2:α}{r cs:List Ai}(hj:j<xs.length)(h:Ds r off cs=e x2):
  Qj xs.length es (Ga (fun i=>e (xs.getD i default)) j r) j off cs (Kv es e (xs.set j x2)):=by
 refine ⟨_,by rw [Kv,List.length_set],fun i _ hne=>?_,?_⟩
 ·simp only [getD_set_ne _ _ _ _ _ hne,Lg _ _ _ _ hne]
 simp only [getD_set_self _ _ _ _ hj,Dg,h]
end Go.Sx
namespace Go.Sx
end Go.Sx
namespace Go.Sx
theorem Fj {α:Type} [Inhabited α] (xs:List α)(k:Nat)(h:k<xs.length):xs.take (k+1)=xs.take k++[xs.getD k default]:=by
 rw [List.take_add_one];simp [List.getD,h]
theorem E4 {α:Type} [Inhabited α] (p:α→Bool)(xs:List α)(k:Nat)(h:k<xs.length):
  (xs.take (k+1)).filter p=(xs.take k).filter p++(if p (xs.getD k default)=true then [xs.getD k default] else []):=by
 rw [Fj xs k h,List.filter_append]
 congr 1
 by_cases hp:p (xs.getD k default)=true
 ·rw [if_pos hp,List.filter_cons_of_pos hp,List.filter_nil]
 rw [if_neg hp,List.filter_cons_of_neg hp,List.filter_nil]
theorem Dd {α:Type}(p:α→Bool)(xs:List α)(k:Nat):((xs.take k).filter p).length≤xs.length:=by
 have h1:=List.length_filter_le p (xs.take k);have h2:=List.length_take_le k xs;have h3:=List.length_take_le' k xs;omega
theorem B8z {α β:Type} [Inhabited α] (f:α→β)(xs:List α)(k:Nat)(h:k<xs.length):
  (xs.take (k+1)).map f=(xs.take k).map f++[f (xs.getD k default)]:=by
 rw [Fj xs k h,List.map_append];rfl
theorem B65 {α:Type} [Inhabited α] (p:α→Bool)(xs:List α)(k:Nat)(h:k<xs.length):
  (xs.take (k+1)).any p=((xs.take k).any p||p (xs.getD k default)):=by
 rw [Fj xs k h,List.any_append];simp
theorem Zk {α:Type} [Inhabited α] (p:α→Bool)(xs:List α)(k:Nat)(h:k<xs.length):
  (xs.take (k+1)).all p=((xs.take k).all p&&p (xs.getD k default)):=by
 rw [Fj xs k h,List.all_append];simp
theorem At {α:Type}{d:α}{xs:List α}{k:Nat}(h:k<xs.length):xs.getD k d∈xs:=by
 rw [List.getD,List.getElem?_eq_getElem h];exact List.getElem_mem h
theorem Lu {α:Type} [Inhabited α] {p:α→Bool}{xs:List α}{k:Nat}(h:k<xs.length)(hp:p (xs.getD k default)=true):xs.any p=true:=
 List.any_eq_true.2 ⟨_,At h,hp⟩
theorem Da {α:Type}(xs:List α)(k:Nat)(h:¬ k<xs.length):xs.take k=xs:=List.take_of_length_le Ad
theorem Cq {α:Type} [Inhabited α] {es:Nat}{e:α→List Ai}{row:Nat→List Ai}:Ii (.sl 0 es row) (Kv es e ([]:List α)):=⟨rfl,rfl,fun _ h=>nomatch h⟩
theorem B3a {b:Bool}{p q:Prop}(hb:b=true)(h:p):(b=true→p)∧(b=false→q):=⟨fun _=>h,fun e=>by rw [hb] at e;cases e⟩
theorem A1c {b:Bool}{p q:Prop}(hb:b=false)(h:q):(b=true→p)∧(b=false→q):=⟨fun e=>(by rw [hb] at e;cases e),fun _=>h⟩
theorem Gi {p q:Prop}(hq:q)(hp:p:=by first|omega|(show _∧_;omega)|((repeat (first|rw [ByteArray.size_append]|rw [bsz]|rw [List.size_toArray]|rw [List.length_cons]|rw [List.length_nil]))<;>omega)|((repeat rw [Int.toNat_natCast])<;>first|omega|(show _∧_;omega))|(simp only [ByteArray.size_append,bsz,List.size_toArray,List.length_cons,List.length_nil];omega)|(simp only [Int.toNat_natCast];first|omega|(show _∧_;omega))|decide):p∧q:=⟨hp,hq⟩
theorem Ft {p q:Prop}(hq:q)(hp:p:=by first|omega|(show _∧_;omega)|((repeat (first|rw [ByteArray.size_append]|rw [bsz]|rw [List.size_toArray]|rw [List.length_cons]|rw [List.length_nil]))<;>omega)|((repeat rw [Int.toNat_natCast])<;>first|omega|(show _∧_;omega))|(simp only [ByteArray.size_append,bsz,List.size_toArray,List.length_cons,List.length_nil];omega)|(simp only [Int.toNat_natCast];first|omega|(show _∧_;omega))|decide|(simp only [beq_iff_eq,beq_eq_false_iff_ne,bne_iff_ne,bne_eq_false_iff_eq,Bool.not_eq_true',Bool.not_eq_false',Go.Sx.Al,Go.Sx.B4,decide_eq_true_eq,decide_eq_false_iff_not,ne_eq,Int.not_lt,Int.not_le,ge_iff_le,gt_iff_lt,Int.toNat_zero,Int.toNat_one,Int.toNat_natCast] at * <;>first|omega|(show _∧_;omega))):p∧q:=⟨hp,hq⟩
theorem skf {b:Bool}{p q:Prop}(h:q)(hb:b=false:=by first|with_reducible rfl|assumption|(simp;done)|fail):(b=true→p)∧(b=false→q):=A1c hb h
theorem skt {b:Bool}{p q:Prop}(h:p)(hb:b=true:=by first|with_reducible rfl|assumption|(simp;done)|fail):(b=true→p)∧(b=false→q):=B3a hb h
theorem L4 {b:Bool}{p q:Prop}(h:q)(hb:b=false:=by first|with_reducible rfl|assumption):(b=true→p)∧(b=false→q):=A1c hb h
theorem L5 {b:Bool}{p q:Prop}(h:p)(hb:b=true:=by first|with_reducible rfl|assumption):(b=true→p)∧(b=false→q):=B3a hb h
end Go.Sx
namespace Go.Sx
variable {P : Program} {T : List (TypeId × TI)}
theorem B0l (hT:Cs P T){B:Be}{Q:Exit→Act→World→Prop}{q:Bool}{all:Array Oper}{o:Oper}{rest:List Oper}{K:List KI}{s:AS}{t e:TypeId}{len:Nat}{parts:Array (Nat×Operand)}{i j:TI}
  (hg:o.guard=none)(ho:o.op= .buildSlice t len parts)(hi:find T t=some i)(hie:i.elem=some e)(hj:find T e=some j)(hsm:(Nat.ble (len * j.size) 10000&&Nat.blt 0 j.size)=true)
  {l:List AV}(hcs:Pl T (Ih len 0 j.size e) s parts.toList (repL len (I6 j))=some l){cs:List Ai}{ks:List Nat}(hc:Qm s.own l=some (cs,ks))(hkd:Gv ks=true)
  (h:G P B Q (.ops q all rest::K) (({s with own:=⟨s.next,.sl len j.size fun i=>(cs.drop (i * j.size)).take j.size⟩::Bz ks s.own,next:=s.next+1}:AS).put o.dst (.own s.next))):G P B Q (.ops q all (o::rest)::K) s:=by
 refine H5 hg (by rw [ho];simp [Eb]) (fun E a w hs=>?_);obtain ⟨f,d,z,S⟩:=TI.of_spec (hT e j hj);have hzs:z.cells.size=j.size:=by have:=S.zlen;rw [←S.cells] at this;simpa using this
 simp only [Bool.and_eq_true] at hsm;have hpos:=Ir hsm.2;have hsmall:=Nat.le_of_ble_eq_true hsm.1;have hlen:len≤len * j.size:=Nat.le_mul_of_pos_right _ hpos
 have hz0:DL E w (s.avoid E) s.next (repL len (I6 j)) ((Array.range (len * j.size)).map (z.cells[· % z.cells.size]!)):=by
  refine ⟨by simp [K2,I6,S.zlen],fun k y hy=>?_⟩;have hzl:(I6 j).length=j.size:=by simp [I6,S.zlen]
  have hk:k<len * j.size:=by have:=(List.getElem?_eq_some_iff.1 hy).1;rwa [K2,hzl] at this
  rw [A9f _ _ _ (by rw [hzl];exact hk),hzl] at hy
  have:=(Z3 (hT e j hj) S.cells E w (s.avoid E) s.next).2 _ _ hy
  have hm:k % j.size<z.cells.size:=by rw [hzs];exact Nat.mod_lt _ (Nat.pos_of_ne_zero (fun h=>by rw [h] at hk;simp at hk))
  have e1:((Array.range (len * j.size)).map (z.cells[· % z.cells.size]!)).getD k undef=z.cells.getD (k % j.size) undef:=by
   have:=N4 z.cells (len * j.size) k hk
   rw [show (Array.range (len * j.size)).map (z.cells[· % z.cells.size]!)=madeCells z.cells (len * j.size) from rfl,this,hzs]
   rw [getElem!_pos z.cells _ hm];simp only [Array.getD,hm,dif_pos];rfl
  rw [e1];exact this
 obtain ⟨cs',hfill,hDL⟩:=A5n hT hs (Ih len 0 j.size e) (fun k=>some (k * j.size,j.size)) (fun k o u hk j' hj'=>by
  obtain ⟨rfl,rfl⟩:=Ta _ _ _ _ _ _ _ hk;rw [hj] at hj';obtain rfl:=Option.some.inj hj'
  simp) parts.toList _ _ l hcs hz0
 have hll:l.length=len * j.size:=by
  have:=Sr hcs
  rw [this,K2]
  simp [I6,S.zlen]
 have hcsl:cs'.size=len * j.size:=by have:=hDL.1;omega
 have hrun:(Instr.buildSlice t len (parts.map fun p=>(p.1,a.eval p.2))).run P w= .ok (.slice (some ⟨w.heap.size,0,none⟩) len len) (w.alloc (.cells cs' e)):=by
  have hnot:¬ (16777216<len * j.size):=by omega
  have hfill':Instr.fill (fun k=>some (k * j.size,j.size)) ((Array.range (len * j.size)).map (z.cells[· % z.cells.size]!)) (parts.map fun p=>(p.1,a.eval p.2)).toList=some cs':=by
   rw [Array.toList_map];exact hfill
  by_cases h0:len * j.size=0
  ·simp [Instr.buildSlice,run_underlying (Cm (hT t i hi) hie),C0 (hT e j hj),h0,newRow,Array.range_zero']
   simp [h0,Array.range_zero'] at hfill'
   rw [hfill']
   simp
  simp [Instr.buildSlice,run_underlying (Cm (hT t i hi) hie),C0 (hT e j hj),hnot,h0,newRow,zeroValue,typeInfo,S.hf,S.hz]
  simp at hfill'
  rw [hfill']
  simp
 have hnd:=Eu hkd;obtain ⟨q1,q2,gps,q3,q4,q5⟩:=A1r hs hc hnd (vs:=cs'.toList) (by simp only [Array.length_toList];omega) (fun m z hz=>by rw [Cg];exact hDL.2 m z hz);have hcl:cs.length=len * j.size:=by omega
 have hbel:=Jw w (.cells cs' e)
 have hlt:∀b∈(List.range cs.length).flatMap gps,b<w.heap.size:=by
  intro b hb;obtain ⟨k,hk,hb1⟩:=List.mem_flatMap.1 (q5 b hb);obtain ⟨y,hy,rfl⟩:=q2 k hk;exact (hs.own y hy).2.1.lt b hb1
 have hown:=D3.sl (w:=w.alloc (.cells cs' e)) len j.size (fun i=>(cs.drop (i * j.size)).take j.size) w.heap.size 0 len e cs' gps
  (Nat.le_refl _) (by simp only [maxLen];omega) (heap_alloc_new w _) (by simp [hcsl]) (fun k hk=>by
   have h2:k * j.size+j.size≤len * j.size:=by rw [←Nat.succ_mul];exact Nat.mul_le_mul_right _ hk
   simp [hcl];omega) (fun k m c hk hc'=>by
   have hm:m<j.size:=by have:=(List.getElem?_eq_some_iff.1 hc').1;simp at this;omega
   rw [List.getElem?_take,if_pos hm,List.getElem?_drop] at hc';have ho:=q3 _ _ hc';rw [Cg] at ho;rw [show (0+k) * j.size+m=k * j.size+m by rw [Nat.zero_add]]
   refine ho.move (fun b hb=>?_);have hkl:k * j.size+m<cs.length:=(List.getElem?_eq_some_iff.1 hc').1
   exact Fv w _ _ (hlt b (List.mem_flatMap.2 ⟨_,List.mem_range.2 hkl,hb⟩)))
 rw [←hcl] at hown;have hfp:(w.heap.size::(List.range cs.length).flatMap gps).Nodup:=List.nodup_cons.2 ⟨fun hm=>Nat.lt_irrefl _ (hlt _ hm),q4⟩;have hI:=hs.drop ks
 have key:∀b,b∈(List.range cs.length).flatMap gps→s.avoid E b∧¬ ({s with own:=Bz ks s.own}:AS).avoid E b:=by
  intro b hb;obtain ⟨k,hk1,hb1⟩:=List.mem_flatMap.1 (q5 b hb);obtain ⟨y,hy,rfl⟩:=q2 k hk1;refine ⟨.inr ⟨y,hy,hb1⟩,?_⟩
  rintro (⟨u,hu,rfl⟩|⟨u,hu,hb'⟩)
  ·exact hs.sepB u hu y hy hb1
  obtain ⟨hz1,hz2⟩:=Cr.1 hu;exact hs.sep y hy u hz1 (fun e=>hz2 (e▸hk1)) b hb1 hb'
 have hkept:B4a (fun _=>False) w (w.alloc (.cells cs' e)):=⟨rfl,rfl,rfl,by simp,fun k hk _=>Fv w _ _ hk,Nat.le_refl _⟩
 have hI2:=hI.kept hkept (fun b hb=>hb.elim)
 obtain ⟨k1,k2⟩:=hI2.addOwn hown hfp (fun b hb=>by
  rcases List.mem_cons.1 hb with rfl|hb
  ·refine ⟨.inr (Nat.le_refl _),fun hav=>?_,.inl hs.base.size⟩
   have:=hs.avoid_lt (hI.sub _ hav)
   omega
  exact ⟨.inl (key b hb).1,(key b hb).2,hs.fresh b (key b hb).1⟩)
 have hput:=(k1.put o.dst k2).is
 refine ⟨_,_,.inl (by
  obtain ⟨dst,op',ty',pos,after,guard⟩:=o
  simp only at ho
  subst ho
  simp only [execOp,Sem.run_bind,hrun,Result.andThen_ok];rfl),fun hk=>(by
   exact ⟨by simp,fun k hk=>Fv w _ _ hk⟩),h _ _ _ (by simpa [AS.addOwn] using hput)⟩
theorem Kg (hT:Cs P T){B:Be}{Q:Exit→Act→World→Prop}{q:Bool}{all:Array Oper}{o:Oper}{rest:List Oper}{K:List KI}{s:AS}{t e:TypeId}{len:Nat}{parts:Array (Nat×Operand)}{i j:TI}
  (hg:o.guard=none)(ho:o.op= .buildSlice t len parts)(hi:find T t=some i)(hie:i.elem=some e)(hj:find T e=some j)(hsm:(Nat.ble (len * j.size) 10000&&Nat.blt 0 j.size)=true)
  {l:List AV}(hcs:Pl T (Ih len 0 j.size e) s parts.toList (repL len (I6 j))=some l){cs:List Ai}{ks:List Nat}(hc:Qm s.own l=some (cs,ks))(hkd:Gv ks=true)
  (h:GW P B Q (.ops q all rest::K) (({s with own:=⟨s.next,.sl len j.size fun i=>(cs.drop (i * j.size)).take j.size⟩::Bz ks s.own,next:=s.next+1}:AS).put o.dst (.own s.next))):GW P B Q (.ops q all (o::rest)::K) s:=
 ⟨B0l hT hg ho hi hie hj hsm hcs hc hkd (h.rec id)⟩
theorem AS.is.reBox {s:AS}{B:Be}{E:E7}{a:Act}{w:World}(h:s.is B E a w){k:Nat}{b:Bx}(hb:Fl s.boxes k=some b)(cells:List AV)
  (hd:∀vs:Array Value,vs.size=b.cells.length→(∀i y,b.cells[i]? =some y→Dr E w (s.avoid E) s.next y (vs.getD i undef))→vs.size=cells.length∧∀j y,cells[j]? =some y→Dr E w (s.avoid E) s.next y (vs.getD j undef)):
  ({s with boxes:=F7 s.boxes k cells}:AS).is B E a w:=by
 obtain ⟨hm,rfl⟩:=F3 hb
 have av:∀c,({s with boxes:=F7 s.boxes b.key cells}:AS).avoid E c↔s.avoid E c:=by
  intro c
  constructor
  ·rintro (⟨x,hx,rfl⟩|h)
   ·rcases F4 hx h.keys with ⟨h1,_,y,hy,h2⟩|⟨h1,_⟩
    ·exact .inl ⟨y,hy,by rw [h1,h2]⟩
    exact .inl ⟨x,h1,rfl⟩
   exact .inr h
  rintro (⟨x,hx,rfl⟩|h)
  ·obtain ⟨y,hy,e⟩:=A4m (k:=b.key) (cs:=cells) hx
   exact .inl ⟨y,hy,by rw [e]⟩
  exact .inr h
 have mv:∀x v,Dr E w (s.avoid E) s.next x v→Dr E w (({s with boxes:=F7 s.boxes b.key cells}:AS).avoid E) s.next x v:=
  fun x v hx=>hx.move (Nat.le_refl _) (fun _ _=>⟨rfl,rfl⟩) (fun _ _ _=>rfl) (fun c _ hc=>(av c).1 hc)
 refine ⟨h.defers,h.links,h.size,fun i x hx=>mv _ _ (h.slots i x hx),?_,?_,?_,h.own,h.ownkeys,h.sep,?_,h.one,h.base,fun c hc=>h.fresh c ((av c).1 hc)⟩
 ·intro x hx
  rcases F4 hx h.keys with ⟨h1,h2,_⟩|⟨h1,_⟩
  ·obtain ⟨g1,vs,ty,g2,g3,g4⟩:=h.boxes b hm
   obtain ⟨e1,e2⟩:=hd vs g3 g4;exact ⟨h1▸g1,vs,ty,by rw [h1];exact g2,by rw [h2];exact e1,fun j y hj=>mv _ _ (e2 j y (by rw [←h2];exact hj))⟩
  obtain ⟨g1,vs,ty,g2,g3,g4⟩:=h.boxes x h1;exact ⟨g1,vs,ty,g2,g3,fun j y hj=>mv _ _ (g4 j y hj)⟩
 ·intro x hx y hy he
  rcases F4 hx h.keys with ⟨h1,_⟩|⟨h1,_⟩<;>rcases F4 hy h.keys with ⟨g1,_⟩|⟨g1,_⟩
  ·rw [h1,g1]
  ·rw [h1] at he ⊢
   exact h.boxes2 b hm y g1 he
  ·rw [g1] at he ⊢
   exact h.boxes2 x h1 b hm he
  exact h.boxes2 x h1 y g1 he
 ·show ((F7 s.boxes b.key cells).map (·.key)).Nodup
  rw [Nb];exact h.keys
 intro x hx y hy
 rcases F4 hx h.keys with ⟨h1,_⟩|⟨h1,_⟩
 ·rw [h1];exact h.sepB b hm y hy
 exact h.sepB x h1 y hy
theorem X1 {B:Be}{Q:Exit→Act→World→Prop}{K:List KI}{s:AS}(k off es:Nat)(row:Nat→List Ai){b:Bx}(hb:Fl s.boxes k=some b)(hi:Hs b.cells off= .c (.val (.slice none 0 0)))
  (h:GW P B Q K {s with boxes:=F7 s.boxes k (D6 b.cells off (.own s.next)),own:=⟨s.next,.sl 0 es row⟩::s.own,next:=s.next+1}):GW P B Q K s:=by
 refine ⟨fun E a w hs=>?_⟩;have hI:s.isA B E (s.avoid E) a w:=⟨hs.defers,hs.links,hs.size,hs.slots,hs.boxes,hs.boxes2,hs.keys,hs.own,hs.ownkeys,hs.sep,hs.sepB,hs.one,hs.base,hs.fresh,fun _ h=>h⟩
 obtain ⟨k1,k2⟩:=hI.addOwn (.nil es row) C8 C8;have k3:=k1.is
 have k4:=k3.reBox (k:=k) (b:=b) hb (D6 b.cells off (.own s.next)) (fun vs h1 h2=>by
  refine ⟨by rw [Cn];exact h1,fun j y hj=>?_⟩;rw [Dv] at hj
  split at hj
  ·rename_i hm
   obtain ⟨rfl,hm⟩:=hm;obtain rfl:=Option.some.inj hj;have hd:=h2 off (.c (.val (.slice none 0 0))) (by rw [Dc,List.getElem?_eq_getElem hm] at hi;rw [List.getElem?_eq_getElem hm];simpa using hi);rw [Bo hd];exact k2.move (Nat.le_refl _) (fun _ _=>⟨rfl,rfl⟩) (fun _ _ _=>rfl) (fun b _ hb=>k1.sub b hb)
  exact h2 j y hj)
 exact h.out _ _ _ k4
theorem Ax (id:Nat)(hm:P.follows .mixedOrders=true){B:Be}{Q:Exit→Act→World→Prop}{ops:Array Oper}{K:List KI}{s:AS}(ord:List Nat)(hB:B82 ops ord=true)
  (h:GW P B Q (.ops true ops (A59 ops ord)::K) s):GW P B Q (.code (.region id ops true)::K) s:=C23 hm ord hB h
theorem C9 {α:Type} [Inhabited α] {es:Nat}{e:α→List Ai}{row1:Nat→List Ai}{xs:List α}:Ug 0 xs.length es row1 (fun i=>e (xs.getD i default)) (Kv es e xs):=
 ⟨_,by rw [Kv,Nat.zero_add],fun i hi=>by omega,fun i hi=>by simp⟩
theorem Pq {α:Type} [Inhabited α] {e:α→List Ai}(xs:List α)(h:∀x,∀c∈e x,∃v,c= .val v):F5 xs.length (fun i=>e (xs.getD i default)):=fun _ _=>h _
theorem Oo (xs:List Int):F5 xs.length (fun i=>[vi (xs.getD i default)]):=Pq (e:=fun n=>[vi n]) xs fun _x _c hc=>⟨_,List.mem_singleton.1 hc⟩
theorem Pp (xs:List Bool):F5 xs.length (fun i=>[vb (xs.getD i default)]):=Pq (e:=fun n=>[vb n]) xs fun _x _c hc=>⟨_,List.mem_singleton.1 hc⟩
theorem G5 (xs:List Aa):F5 xs.length (fun i=>Aa.c (xs.getD i default)):=Pq xs fun x c hc=>by
 simp only [Aa.c,List.mem_cons,List.not_mem_nil,or_false] at hc
 rcases hc with rfl|rfl|rfl|rfl|rfl<;>exact ⟨_,rfl⟩
theorem Ex (xs:List Ae):F5 xs.length (fun i=>Ae.c (xs.getD i default)):=Pq xs fun x c hc=>by
 simp only [Ae.c,List.mem_cons,List.not_mem_nil,or_false] at hc
 rcases hc with rfl|rfl|rfl|rfl<;>exact ⟨_,rfl⟩
theorem G4 (xs:List Di):F5 xs.length (fun i=>Di.c (xs.getD i default)):=Pq xs fun x c hc=>by
 simp only [Di.c,List.mem_cons,List.not_mem_nil,or_false] at hc
 rcases hc with rfl|rfl|rfl<;>exact ⟨_,rfl⟩
theorem A0m (xs:List F6):F5 xs.length (fun i=>F6.c (xs.getD i default)):=Pq xs fun x c hc=>by
 simp only [F6.c,List.mem_cons,List.not_mem_nil,or_false] at hc
 rcases hc with rfl|rfl<;>exact ⟨_,rfl⟩
theorem Jy (xs:List Fs):F5 xs.length (fun i=>Fs.c (xs.getD i default)):=Pq xs fun x c hc=>by
 simp only [Fs.c,List.mem_cons,List.not_mem_nil,or_false] at hc
 rcases hc with rfl|rfl|rfl|rfl|rfl<;>exact ⟨_,rfl⟩
end Go.Sx
namespace Go.Sx
def E6 (n lo hi:Int):Bool:=if n≥lo then decide (n≤hi) else false
def Cx (n lo hi:Int):Int:=if hi<lo∨n<lo then lo else if hi<n then hi else n
def Bn (key n:Int):Int:=if n<1 then 0 else if key.tmod n<0 then key.tmod n+n else key.tmod n
theorem Al {n lo hi:Int}:E6 n lo hi=true↔lo≤n∧n≤hi:=by
 unfold E6
 split
 ·simp;omega
 simp;omega
theorem Fe (n lo hi:Int)(h:lo≤hi):lo≤Cx n lo hi∧Cx n lo hi≤hi:=by
 unfold Cx
 split
 ·omega
 split<;>omega
theorem Sz (key n:Int)(h:1≤n):0≤Bn key n∧Bn key n<n:=by
 have h1:=Int.tmod_lt_of_pos key (show 0<n by omega)
 have h2:=Int.lt_tmod_of_pos key (show 0<n by omega)
 unfold Bn;rw [if_neg Ad]
 split<;>omega
def Dh (xs:List Aa) (n:Nat):List (List Aa):=(List.range n).map fun (j:Nat)=>xs.filter fun r=>Bn r.key n==j
theorem Kq (xs:List Aa)(n:Nat):(Dh xs n).length=n:=by simp [Dh]
theorem W2 (xs:List Aa)(n j:Nat)(h:j<n):(Dh xs n).getD j default=xs.filter fun r=>Bn r.key n==j:=by
 simp [Dh,List.getD,h]
theorem A6y (xs:List Aa)(n:Nat)(r:Aa)(j:Nat)(hj:Bn r.key n=j)(h:j<n):
  (Dh xs n).set j ((Dh xs n).getD j default++[r])=Dh (xs++[r]) n:=by
 apply List.ext_getElem?
 intro i;have hl:=Kq xs n;have hl':=Kq (xs++[r]) n
 have key:∀i,i<n→(Dh (xs++[r]) n)[i]? =some ((xs++[r]).filter fun r=>Bn r.key n==i):=fun i hi=>by
  simp [Dh,hi]
 by_cases e:i=j
 ·subst e
  rw [List.getElem?_set_self Ad,key i h,W2 _ _ _ h,List.filter_append,List.filter_cons_of_pos (by rw [hj];simp),List.filter_nil]
 rw [List.getElem?_set_ne Ad]
 by_cases hi:i<n
 ·have h1:(Dh xs n)[i]? =some (xs.filter fun r=>Bn r.key n==i):=by simp [Dh,hi]
  rw [key i hi,h1,List.filter_append,List.filter_cons_of_neg (by rw [hj];simp;omega),List.filter_nil,List.append_nil]
 rw [List.getElem?_eq_none Ad,List.getElem?_eq_none Ad]
theorem A9x (xs:List Aa)(n:Nat):∀y∈Dh xs n,y.length≤xs.length:=by
 intro y hy;obtain ⟨j,_,rfl⟩:=List.mem_map.1 hy;exact List.length_filter_le _ _
theorem B6l (k:Nat)(h:k<4611686018427387904):IntKind.i64.wrap ((k:Int)+1)=((k+1:Nat):Int):=by
 rw [Ix (by show _∧_;omega)];omega
def G0 (c:A3) (w:Int):List Ae:=
 if E6 w 0 (c.workers.length-1) then (c.workers.getD w.toNat default).cells.filter fun x=>Bn x.key c.graph.workers==w else []
theorem A3.links_le {x:A3}{n:Nat}(h:x.w≤n):x.links.length≤n:=by simp only [A3.w,wS] at h;omega
theorem A3.workers_le {x:A3}{n:Nat}(h:x.w≤n):x.workers.length≤n:=by simp only [A3.w,wS] at h;omega
theorem A3.news_le {x:A3}{n:Nat}(h:x.w≤n):x.news.length≤n:=by simp only [A3.w,wS] at h;omega
theorem A3.worker_le {x:A3}{n:Nat}(h:x.w≤n){k:Nat}(hk:k<x.workers.length):((x.workers.take k).map Ab.w).sum+(x.workers.getD k default).w≤n:=by
 have:=I5 Ab.w x.workers k hk
 simp only [A3.w,wS] at h;omega
theorem A3.link_le {x:A3}{n:Nat}(h:x.w≤n){k:Nat}(hk:k<x.links.length):((x.links.take k).map Ca.w).sum+(x.links.getD k default).w≤n:=by
 have:=I5 Ca.w x.links k hk
 simp only [A3.w,wS] at h;omega
def Lm (c:A3) (k:Nat):Bool:=(List.range k).all fun j=>(G0 c j).length==(c.workers.getD j default).cells.length
theorem W3 (c:A3)(k:Nat):Lm c (k+1)=(Lm c k&&((G0 c k).length==(c.workers.getD k default).cells.length)):=by
 simp [Lm,List.range_succ]
def H9 (c:A3):Bool:=Lm c c.workers.length
theorem Tf (c:A3){k:Nat}(h:k<c.workers.length)(hk:((G0 c k).length==(c.workers.getD k default).cells.length)=false):H9 c=false:=by
 unfold H9 Lm;rw [List.all_eq_false];exact ⟨k,List.mem_range.2 h,by rw [hk];decide⟩
theorem B29 (x y:Int):(x==y)=decide (x=y):=by rw [Bool.eq_iff_iff];simp
theorem Qf {α:Type} [Inhabited α] (a b:List α)(k:Nat)(h:a.take k=b.take k)(ha:k<a.length)(hb:k<b.length):a.take (k+1)=b.take (k+1)↔a.getD k default=b.getD k default:=by
 rw [Fj a k ha,Fj b k hb,h]
 simp
theorem Aa.eqv (x y:Aa):(x.op==y.op&&(x.stamp.epoch==y.stamp.epoch&&(x.stamp.turn==y.stamp.turn&&(x.key==y.key&&(x.val==y.val&&true)))))=decide (x=y):=by
 obtain ⟨_,⟨_,_⟩,_,_⟩:=x;obtain ⟨_,⟨_,_⟩,_,_⟩:=y;rw [Bool.eq_iff_iff];simp [and_assoc]
theorem Ae.eqv (x y:Ae):(x.op==y.op&&(x.epoch==y.epoch&&(x.key==y.key&&(x.val==y.val&&true))))=decide (x=y):=by
 obtain ⟨_,_,_,_⟩:=x;obtain ⟨_,_,_,_⟩:=y;rw [Bool.eq_iff_iff];simp [and_assoc]
def Cz (xs:List Aa) (e:Int):List Aa:=xs.filter fun r=>r.stamp.epoch==e
def U2 (w:Ab) (e:Int):Bool:=w.inputs.any fun r=>decide (r.stamp.epoch≤e)
def Ue (w:Ab) (e:Int):Nat:=(Cz w.queue e).length+(Cz w.staged e).length
def Dx (w:Ab) (e:Int):Bool:=if U2 w e then false else (Ue w e:Int)==0
def Cv (w:Ab) (e:Int):Bool:=w.dones.any fun d=>d.epoch==e
def Na (c:A3) (e:Int):Bool:=if 0<c.workers.length then Cv (c.workers.getD 0 default) e else false
theorem Ld (xs:List Aa)(e:Int):(Cz xs e).length≤xs.length:=List.length_filter_le _ _
def Fa {α:Type} (p:α→Bool):List α→Nat
 | []=>0
 |x::r=>if p x=true then 0 else Fa p r+1
def Me {α:Type} (p:α→Bool) (xs:List α):Int:=if xs.any p=true then (Fa p xs:Int) else-1
theorem B73 {α:Type} [Inhabited α] (p:α→Bool)(xs:List α)(k:Nat)(h:(xs.take k).any p=false)(hk:k<xs.length)(hp:p (xs.getD k default)=true):Fa p xs=k:=by
 induction xs generalizing k with
 |nil=>simp at hk
 |cons x r ih=>
  cases k with
  |zero=>
   simp only [List.getD_cons_zero] at hp
   simp [Fa,hp]
  |succ k=>
   simp only [List.take_succ_cons,List.any_cons,Bool.or_eq_false_iff] at h
   have:=ih k h.2 (by simpa using hk) (by simpa using hp)
   simp [Fa,h.1,this]
theorem On {α:Type} [Inhabited α] (p:α→Bool)(xs:List α)(k:Nat)(h:(xs.take k).any p=false)(hk:k<xs.length)(hp:p (xs.getD k default)=true):Me p xs=k:=by
 rw [Me,if_pos (Lu hk hp),B73 p xs k h hk hp]
theorem Jp {α:Type}(p:α→Bool)(xs:List α)(h:xs.any p=false):Me p xs= -1:=by rw [Me,if_neg (by rw [h];decide)]
theorem Ws {α:Type}(p:α→Bool)(xs:List α):decide (Me p xs≥0)=xs.any p:=by
 unfold Me
 cases h:xs.any p with
 |true=>rw [if_pos rfl];exact decide_eq_true Ad
 |false=>rw [if_neg B5];exact decide_eq_false Ad
theorem Fw {α:Type} [Inhabited α] {p:α→Bool}{xs:List α}{k:Nat}(h:(xs.take k).any p=false)(hk:k<xs.length)(hp:p (xs.getD k default)=false):(xs.take (k+1)).any p=false:=by
 rw [B65 p xs k hk,h,hp];rfl
end Go.Sx
namespace Go.Sx
variable {P : Program} {T : List (TypeId × TI)}
abbrev vy (b:UInt8):Ai:= .val (.int .u8 b.toNat)
abbrev B90 (xs:List UInt8):Ai:=Kv 1 (fun b=>[vy b]) xs
end Go.Sx
namespace Go.Sx
variable {P : Program} {T : List (TypeId × TI)} {ops : Array Oper}
end Go.Sx
set_option maxRecDepth 100000
namespace Go.Sx
open Go
theorem Jc {B:Be}{Q:Exit→Act→World→Prop}{s:AS}(k:Nat)(c':Ai){c:Ai}(hk:Cb s.own k=some c)(hc:Ii c c')
  (h:RW B Q {s with own:=Ht s.own k c'}):RW B Q s:=by
 refine ⟨fun E a w hs=>?_⟩;have hm:=Cp hk
 have av:∀b,({s with own:=Ht s.own k c'}:AS).avoid E b→s.avoid E b:=by
  rintro b (hb|⟨y,hy,hb⟩)
  ·exact .inl hb
  obtain ⟨z,hz,e⟩:=H8 hy;exact .inr ⟨z,hz,by rw [e];exact hb⟩
 have mv:∀x v,Dr E w (s.avoid E) s.next x v→Dr E w (({s with own:=Ht s.own k c'}:AS).avoid E) s.next x v:=fun x v hx=>
  hx.move (Nat.le_refl _) (fun _ _=>⟨rfl,rfl⟩) (fun _ _ _=>rfl) (fun b _ hb=>av b hb)
 obtain ⟨h⟩:=h;refine h E a w ⟨hs.defers,hs.links,hs.size,fun i x hx=>mv _ _ (hs.slots i x hx),fun x hx=>?_,hs.boxes2,hs.keys,fun y hy=>?_,by rw [U8];exact hs.ownkeys,fun y hy z hz hne=>?_,fun x hx y hy=>?_,hs.one,hs.base,fun b hb=>hs.fresh b (av b hb)⟩
 ·obtain ⟨h1,vs,ty,h2,h3,h4⟩:=hs.boxes x hx
  exact ⟨h1,vs,ty,h2,h3,fun i y hy=>mv _ _ (h4 i y hy)⟩
 ·rcases Sj hy with ⟨h1,h2,_⟩|⟨h1,_⟩
  ·obtain ⟨g1,g2,g3⟩:=hs.own _ hm
   rw [h1,h2];exact ⟨g1,hc.own g2,g3⟩
  exact hs.own y h1
 ·obtain ⟨y',hy',e1⟩:=H8 hy
  obtain ⟨z',hz',e2⟩:=H8 hz;rw [←e1,←e2];exact hs.sep y' hy' z' hz' (by rw [e1,e2];exact hne)
 obtain ⟨y',hy',e1⟩:=H8 hy;rw [←e1];exact hs.sepB x hx y' hy'
theorem C59 {B:Be}{Q:Exit→Act→World→Prop}{s:AS}(i es:Nat)(row:Nat→List Ai)(hi:Hs s.slots i= .c (.val (.slice none 0 0)))
  (h:RW B Q {s with slots:=D6 s.slots i (.own s.next),own:=⟨s.next,.sl 0 es row⟩::s.own,next:=s.next+1}):RW B Q s:=by
 refine ⟨fun E a w hs=>?_⟩;have hI:s.isA B E (s.avoid E) a w:=⟨hs.defers,hs.links,hs.size,hs.slots,hs.boxes,hs.boxes2,hs.keys,hs.own,hs.ownkeys,hs.sep,hs.sepB,hs.one,hs.base,hs.fresh,fun _ h=>h⟩
 obtain ⟨k1,k2⟩:=hI.addOwn (.nil es row) C8 C8;have k3:=k1.is;obtain ⟨h⟩:=h;refine h (E.withOwn s.next (.slice none 0 0) []) a w ⟨k3.defers,k3.links,by rw [k3.size];exact (Cn _ _ _).symm,fun m z hz=>?_,k3.boxes,k3.boxes2,k3.keys,k3.own,k3.ownkeys,k3.sep,k3.sepB,k3.one,k3.base,k3.fresh⟩
 simp only at hz
 rw [Dv] at hz
 split at hz
 ·rename_i hm
  obtain ⟨rfl,hm⟩:=hm;obtain rfl:=Option.some.inj hz;have hd:=hs.slots i (.c (.val (.slice none 0 0))) (by rw [Dc,List.getElem?_eq_getElem hm] at hi;rw [List.getElem?_eq_getElem hm];simpa using hi);rw [Bo hd]
  have:Dr (E.withOwn s.next (.slice none 0 0) []) w _ _ (.own s.next) (.slice none 0 0):=k2
  exact this.move (Nat.le_refl _) (fun _ _=>⟨rfl,rfl⟩) (fun _ _ _=>rfl) (fun b _ hb=>k1.sub b hb)
 exact k3.slots m z hz
end Go.Sx
set_option maxRecDepth 100000
namespace Go.Sx
open Go
theorem B30 {α:Type} [Inhabited α] {es:Nat}{e:α→List Ai}{xs:List α}{x y:α}{row:Nat→List Ai}(h0:row 0=e x)(h1:row 1=e y):
  Ug xs.length 2 es (fun i=>e (xs.getD i default)) row (Kv es e (xs++[x,y])):=by
 obtain ⟨r,hr,ha,hb⟩:=Vv es e xs [x,y];refine ⟨r,hr,ha,fun i hi=>?_⟩;rw [hb i hi]
 match i,hi with
 | 0,_=>exact h0.symm
 | 1,_=>exact h1.symm
theorem B94 {α:Type} [Inhabited α] {es:Nat}{e:α→List Ai}{xs:List α}{x y z u:α}{row:Nat→List Ai}(h0:row 0=e x)(h1:row 1=e y)(h2:row 2=e z)(h3:row 3=e u):
  Ug xs.length 4 es (fun i=>e (xs.getD i default)) row (Kv es e (xs++[x,y,z,u])):=by
 obtain ⟨r,hr,ha,hb⟩:=Vv es e xs [x,y,z,u];refine ⟨r,hr,ha,fun i hi=>?_⟩;rw [hb i hi]
 match i,hi with
 | 0,_=>exact h0.symm
 | 1,_=>exact h1.symm
 | 2,_=>exact h2.symm
 | 3,_=>exact h3.symm
theorem Gb.rfl':∀l:List Ai,Gb l l
 | []=>trivial
 |_::l=>⟨.inl rfl,Gb.rfl' l⟩
theorem B4o {α:Type} [Inhabited α] {es:Nat}{e:α→List Ai}{x y z u:α}{row:Nat→List Ai}(h0:row 0=e x)(h1:row 1=e y)(h2:row 2=e z)(h3:row 3=e u):
  Ii (.sl 4 es row) (Kv es e [x,y,z,u]):=by
 refine ⟨rfl,rfl,fun i hi=>?_⟩
 match i,hi with
 | 0,_=>rw [h0];exact Gb.rfl' _
 | 1,_=>rw [h1];exact Gb.rfl' _
 | 2,_=>rw [h2];exact Gb.rfl' _
 | 3,_=>rw [h3];exact Gb.rfl' _
theorem Mk {α:Type}(f:Nat→List α)(k:Nat):(List.range (k+1)).flatMap f=(List.range k).flatMap f++f k:=by
 rw [List.range_succ,List.flatMap_append];simp
def pW (w:Nat):List D7:=[⟨1,w,0⟩,⟨3,w,0⟩,⟨2,w,0⟩,⟨7,w,0⟩]
def pK (w k:Nat):List D7:=if (w:Int)=k then [] else [⟨4,w,k⟩,⟨5,w,k⟩]
def pA (n:Nat):List D7:=(List.range n).flatMap pW
def pB (w j:Nat):List D7:=(List.range j).flatMap (pK w)
def pC (n m:Nat):List D7:=(List.range m).flatMap fun w=>pB w n
def pE (e:Nat):List D7:=(List.range e).map fun e=>⟨6,(e:Nat),0⟩
def Mh (n:Nat):List D7:=pA n++pC n n++pE 4
theorem A6d (k:Nat):pA (k+1)=pA k++pW k:=Mk _ _
theorem A6e (w k:Nat):pB w (k+1)=pB w k++pK w k:=Mk _ _
theorem A6f (n k:Nat):pC n (k+1)=pC n k++pB k n:=Mk _ _
theorem B3o (k:Nat):pE (k+1)=pE k++[⟨6,(k:Nat),0⟩]:=by simp [pE,List.range_succ]
theorem A1t (k:Nat):(pA k).length=4 * k:=by
 induction k with
 |zero=>rfl
 |succ k ih=>rw [A6d,List.length_append,ih];rfl
theorem C39 (w k:Nat):(pK w k).length≤2:=by unfold pK;split<;>simp
theorem B1n (w k:Nat):(pB w k).length≤2 * k:=by
 induction k with
 |zero=>exact Nat.le_refl _
 |succ k ih=>rw [A6e,List.length_append];have:=C39 w k;omega
theorem A1u (n k:Nat)(hn:n≤4):(pC n k).length≤8 * k:=by
 induction k with
 |zero=>exact Nat.le_refl _
 |succ k ih=>rw [A6f,List.length_append];have:=B1n k n;omega
theorem B1o (k:Nat):(pE k).length=k:=by simp [pE]
theorem Oi (n:Nat)(hn:n≤4):(Mh n).length≤52:=by
 have:=A1u n n hn
 simp only [Mh,List.length_append,A1t,B1o];omega
theorem C2i (w k:Nat)(h:k<4):(pW w).take (k+1)=(pW w).take k++[⟨([1,3,2,7]:List Int).getD k default,w,0⟩]:=by
 match k,h with
 | 0,_=>rfl
 | 1,_=>rfl
 | 2,_=>rfl
 | 3,_=>rfl
end Go.Sx
set_option maxRecDepth 100000
namespace Go.Sx
open Go
variable {P : Program} {T : List (TypeId × TI)}
def bnd (s:AS) (x:Option Operand) (d:Int):Option Int:=
 match x with
 |none=>some d
 |some y=>match s.ev y with
  | .c (.val (.int _ v))=>some v
  |_=>none
def C3d (x:Option Value) (l d:Int):Prop:=(x=none∧l=d)∨∃k,x=some (.int k l)
theorem Kf {B:Be}{E:E7}{a:Act}{w:World}{s:AS}(hs:s.is B E a w){x:Option Operand}{d l:Int}(h:bnd s x d=some l):C3d (x.map a.eval) l d:=by
 cases x with
 |none=>exact .inl ⟨rfl,(Option.some.inj h).symm⟩
 |some y=>
  refine .inr ?_;simp only [bnd] at h;have hd:=hs.ev y;generalize s.ev y=z at h hd
  split at h
  ·rename_i k v
   obtain rfl:=Option.some.inj h;have e:=Bo hd;exact ⟨k,by simp [e]⟩
  cases h
def Ze (n es:Nat) (row:Nat→List Ai) (l h:Int) (c:Ai):Prop:=∃row',c= .sl (h-l).toNat es row'∧∀i,i<(h-l).toNat→row' i=row (l.toNat+i)
theorem Yy {t e:TypeId}{i j:TI}(hi:TI.of P t=some i)(he:i.elem=some e)(hj:TI.of P e=some j){a:Option Addr}{len cap:Nat}{lo hi':Option Value}{l h:Int}
  (hl:C3d lo l 0)(hh:C3d hi' h len)(h0:0≤l)(h1:l≤h)(h2:h≤len)(h3:len≤cap)(w:World):
  (Instr.sliceAt t (.slice a len cap) lo hi' none).run P w= .ok (sliced a l.toNat h.toNat cap j.size) w:=by
 have hu:=Cm hi he;have hel:P.elem t=e:=by simp [Program.elem,hu]
 have hu':P.underlying t=some (.slice (P.elem t)):=by rw [hel];exact hu
 have hz:∀w,(sizeOf (P.elem t)).run P w= .ok j.size w:=fun w=>by rw [hel];exact C0 hj w
 rw [run_sliceAt_slice w t _ _ _ _ hu']
 rcases hl with ⟨rfl,rfl⟩|⟨k1,rfl⟩<;>rcases hh with ⟨rfl,rfl⟩|⟨k2,rfl⟩
 ·rw [run_slice_all w t a len cap hu',hz];simp [Result.andThen]
 ·rw [run_slice_h w t a len cap hu' k2 h h1 Ad,hz];simp [Result.andThen]
 ·rw [run_slice_l w t a len cap hu' k1 l h0 Ad,hz];simp [Result.andThen]
 rw [run_slice_lh w t a len cap hu' k1 k2 l h h0 h1 Ad,hz];simp [Result.andThen]
theorem C2l {w:World}{A:Nat→Prop}{n es:Nat}{row:Nat→List Ai}{v:Value}(hr:Qi w A (.sl n es row) v){l h:Int}(h0:0≤l)(h1:l≤h)(h2:h≤n){c:Ai}(hc:Ze n es row l h c):
  ∃a cap,v= .slice a n cap∧n≤cap∧Qi w A c (sliced a l.toNat h.toNat cap es):=by
 obtain ⟨row',rfl,hrow⟩:=hc
 cases hr with
 |nil=>
  refine ⟨none,0,rfl,Nat.le_refl _,?_⟩;have e1:l=0:=by omega
  have e2:h=0:=by omega
  subst e1;subst e2;exact .nil _ _
 |emp _ _ a=>
  refine ⟨some a,0,rfl,Nat.le_refl _,?_⟩;have e1:l=0:=by omega
  have e2:h=0:=by omega
  subst e1;subst e2;exact .emp _ _ a
 |sl _ _ _ b off cap u hA hn hcap hl hu hrr=>
  refine ⟨_,cap,rfl,hn,?_⟩;obtain ⟨p,rfl⟩:∃p:Nat,l=p:=⟨l.toNat,by omega⟩;obtain ⟨q,rfl⟩:∃q:Nat,h=q:=⟨h.toNat,by omega⟩;have e:((q:Int)-p).toNat=q-p:=by omega
  simp only [Int.toNat_natCast] at hrow ⊢;rw [e] at hrow ⊢;unfold sliced
  by_cases hcl:cap=p
  ·have e1:q-p=0:=by omega
   have e2:cap-p=0:=by omega
   rw [if_pos hcl,e1,e2];exact .emp _ _ _
  rw [if_neg hcl]
  have ea:(some (⟨b,off,none⟩:Addr)).map (fun x=>x.add (p * es))=some ⟨b,off+p * es,none⟩:=by
   simp only [Option.map_some,Addr.add]
   split
   ·rename_i h;rw [h];rfl
   rfl
  have eb:(some (⟨b,off,none⟩:Addr)).map (·.add (p * es))=some ⟨b,off+p * es,none⟩:=ea;rw [eb];refine .sl (q-p) es row' b (off+p * es) (cap-p) (fun i j=>u (p+i) j) (fun h=>hA ?_) Ad Ad (fun i hi=>?_) (fun i j hi hj=>?_) (fun i j c hi hj=>?_)
  ·exact Nat.lt_of_lt_of_le h (Nat.mul_le_mul_right _ Ad)
  ·rw [hrow i hi];exact hl _ Ad
  ·have:=hu (p+i) j Ad hj
   rw [Nat.add_mul] at this;rw [show off+p * es+i * es+j=off+(p * es+i * es)+j by omega]
   exact this
  rw [hrow i hi] at hj;exact hrr (p+i) j c Ad hj
theorem Q7 (hT:Cs P T){B:Be}{Q:Exit→Act→World→Prop}{q:Bool}{all:Array Oper}{o:Oper}{rest:List Oper}{K:List KI}{s:AS}{t e:TypeId}{x:Operand}{lo hi:Option Operand}{i j:TI}
  (hg:o.guard=none)(ho:o.op= .slice t x lo hi none)(hi':find T t=some i)(he:i.elem=some e)(hj:find T e=some j)
  {n es:Nat}{row:Nat→List Ai}(hx:s.ev x= .c (.sl n es row))(hes:es=j.size){l h:Int}(hl:bnd s lo 0=some l)(hh:bnd s hi n=some h)
  (hb:0≤l∧l≤h∧h≤n)(c:Ai)(hc:Ze n es row l h c)
  (hgo:GW P B Q (.ops q all rest::K) (s.put o.dst (.c c))):GW P B Q (.ops q all (o::rest)::K) s:=by
 subst hes;refine ⟨Er hg (fun E a w hs=>?_)⟩;have hd:=hs.ev x;rw [hx] at hd
 cases hd with
 |c hr=>
  obtain ⟨ad,cap,hv,hcap,hrep⟩:=C2l hr hb.1 hb.2.1 hb.2.2 hc;have h1:=Kf hs hl;have h2:=Kf hs hh;refine ⟨_,fun w' _=>?_,hgo.rec fun hg=>hg _ _ _ (hs.put o.dst (.c hrep))⟩;have hrun:=Yy (a:=ad) (hT t i hi') he (hT e j hj) h1 h2 hb.1 hb.2.1 hb.2.2 hcap w';obtain ⟨dst,op',ty,pos,after,guard⟩:=o
  simp only at ho
  subst ho
  simp [execOp,hv,hrun]
theorem A6r {α:Type} [Inhabited α] {es:Nat}{e:α→List Ai}{xs:List α}{l h:Int}(h0:0≤l)(h1:l≤h)(h2:h≤xs.length):
  Ze xs.length es (fun i=>e (xs.getD i default)) l h (Kv es e ((xs.drop l.toNat).take (h-l).toNat)):=by
 have hlen:((xs.drop l.toNat).take (h-l).toNat).length=(h-l).toNat:=by simp;omega
 refine ⟨_,by rw [Kv,hlen],fun i hi=>?_⟩
 simp [List.getD,hi]
end Go.Sx
set_option maxRecDepth 100000
namespace Go.Sx
open Go
variable {P : Program} {T : List (TypeId × TI)}
def Z8 (P:Program) (H:World→Prop) (f:FuncId) (ins outs:List Gy):Prop:=
 K9 P f∧∀(w:World),H w→∀(vs:List Value),vs.length=ins.length→(∀i x,ins[i]? =some x→Ms w (fun _=>False) x (vs.getD i undef))→
  Calls P f vs.toArray w fun e w'=>Lr w w' outs e
def C4w (H:World→Prop):Prop:=∀w w',Ju w.heap.size w w'→H w→H w'
theorem A49 {W w:World}(h:Be.rel ⟨W,fun _=>False⟩ w):Ju W.heap.size W w:=⟨h.os,h.tape,h.output,h.size,fun k hk=>h.block k hk (fun h=>h),h.drawn⟩
theorem C1a {H:World→Prop}{f:FuncId}{fn:Func}{c:Code}{ins outs:List Gy}(hf:P.funcs[f]? =some fn)(hb:fn.body=some c)(hn:(fn.name== "runtime.NumGoroutine")=false)
  (h:∀W,H W→G P ⟨W,fun _=>False⟩ (bodyPost P fn fun e w'=>Lr W w' outs e) [.code c] (start fn.ntmps ins)):Z8 P H f ins outs:=by
 refine ⟨⟨fn,hf,hn,by simp [hb]⟩,fun w hH vs hl hv=>calls_of_wp hf hb ?_⟩
 refine h w hH ⟨fun _=> .slice none 0 0,fun _=>[]⟩ _ w ?_
 have nav:∀b,¬ (start fn.ntmps ins).avoid ⟨fun _=> .slice none 0 0,fun _=>[]⟩ b:=by
  rintro b (⟨x,hx,_⟩|⟨y,hy,_⟩)
  ·simp [start] at hx
  simp [start] at hy
 have nb:∀x,x∉(start fn.ntmps ins).boxes:=by simp [start]
 have no:∀x,x∉(start fn.ntmps ins).own:=by simp [start]
 refine ⟨rfl,by simp [start],by simp [start,hl],fun i x hx=>?_,fun x hx=>absurd hx (nb x),fun x hx=>absurd hx (nb x),by simp [start],fun y hy=>absurd hy (no y),by simp [start],fun y hy=>absurd hy (no y),fun x hx=>absurd hx (nb x),fun _ _=>rfl,
  ⟨rfl,rfl,rfl,Nat.le_refl _,fun _ _ _=>rfl,Nat.le_refl _⟩,fun b hb=>absurd hb (nav b)⟩
 simp only [start] at hx
 by_cases hi:i<ins.length
 ·rw [List.getElem?_append_left (by simpa using hi)] at hx
  simp only [List.getElem?_map,Option.map_eq_some_iff] at hx;obtain ⟨y,hy,rfl⟩:=hx;have hr:=hv i y hy;have hiv:i<vs.length:=by omega
  have e:(vs.toArray++Array.replicate (fn.ntmps-vs.toArray.size) undef).getD i undef=vs.getD i undef:=by
   simp [Array.getD,List.getD,hiv,show i<vs.length+(fn.ntmps-vs.length) by omega]
  rw [e]
  cases y with
  |one c=>exact .c (hr.move (fun _ _ _=>rfl) (fun b _ hb=>absurd hb (nav b)))
  |agg cs=>
   obtain ⟨us,hu,hul,hur⟩:=hr;rw [hu];refine .agg us (by simp [hul]) (fun j x hj=>?_);simp only [List.getElem?_map,Option.map_eq_some_iff] at hj;obtain ⟨c,hc,rfl⟩:=hj;exact .c ((hur j c hc).move (fun _ _ _=>rfl) (fun b _ hb=>absurd hb (nav b)))
  |ptr cs=>exact hr.den (fun b hb=>absurd hb (nav b))
  |fn f caps=>
   obtain ⟨us,hu,hul,hur⟩:=hr;rw [hu];refine .fn us (by simp [hul]) (fun j x hj=>?_);simp only [List.getElem?_map,Option.map_eq_some_iff] at hj;obtain ⟨c,hc,rfl⟩:=hj;have hr:=hur j c hc
   cases c with
   |one c=>exact .c (Qi.move hr (fun _ _ _=>rfl) (fun b _ hb=>absurd hb (nav b)))
   |ptr cs=>exact O5.den hr (fun b hb=>absurd hb (nav b))
 rw [List.getElem?_append_right (by simp;omega)] at hx
 obtain rfl:AV.any=x:=by
  have:=List.mem_of_getElem? hx
  simpa using (List.eq_of_mem_replicate this).symm
 exact .any _
theorem B7y (hT:Cs P T)(wr:Bool){H:World→Prop}{f:FuncId}{fn:Func}{c:Code}{ins outs:List Gy}(hf:P.funcs[f]? =some fn)(hb:fn.body=some c)(hn:(fn.name== "runtime.NumGoroutine")=false)
  (h:∀W,H W→vcW P ⟨W,fun _=>False⟩ (bodyPost P fn fun e w'=>Lr W w' outs e) (Oz T wr 100000 [.code c] (start fn.ntmps ins))):Z8 P H f ins outs:=
 C1a hf hb hn fun W hW=>(go hT wr (h W hW)).rec id
end Go.Sx
set_option maxRecDepth 100000
namespace Go.Sx
open Go
def dec (n:Int):ByteArray:=⟨(Lib.itoa n).toArray⟩
end Go.Sx
set_option maxRecDepth 100000
namespace Go.Sx
open Go
variable {P : Program}
theorem bsz (a:Array UInt8):(ByteArray.mk a).size=a.size:=rfl
theorem B4 {n lo hi:Int}:E6 n lo hi=false↔¬ (lo≤n∧n≤hi):=by
 rw [←Al];simp
end Go.Sx
set_option maxRecDepth 100000
namespace Go.Sx
open Go
variable {P : Program} {T : List (TypeId × TI)}
theorem C05 (hT:Cs P T)(wr:Bool){J:Type}{B:Be}{Q:Exit→Act→World→Prop}{c:Code}{K:List KI}{s:AS}(fs:List Nat)(us:J→List (Nat×AV))(bs:J→List Bx)(os:J→List Ow)(φ:J→Prop)
  (h1:vcW P B Q (Oz T wr 100000 (.code c:: .loop (Inv B (fun j=>s.upd fs (us j) (bs j) (os j)) φ (fun _=>0) 1)::K) s))
  (h2:∀j,φ j→vcW P B Q (upK s.slots 0 fs (us j) fun slots=>Oz T wr 100000 K {s with slots:=slots,boxes:=bs j,own:=os j})):GW P B Q (.code c::K) s:=by
 refine ⟨fun E a w hs=>?_⟩;have g1:G P B Q (.code c:: .loop (Inv B (fun j=>s.upd fs (us j) (bs j) (os j)) φ (fun _=>0) 1)::K) s:=(go hT wr h1).rec id;refine Code.wp_mono (fun e a' w' hq=>?_) (g1 E a w hs)
 cases e with
 |normal=>
  obtain ⟨j,hj,_,E',hE'⟩:=(hq:Inv B (fun j=>s.upd fs (us j) (bs j) (os j)) φ (fun _=>0) 1 a' w');have g2:G P B Q K (s.upd fs (us j) (bs j) (os j)):=(go hT wr (by have:=h2 j hj;rw [C0n] at this;exact this)).rec id;exact g2 E' a' w' hE'
 |exit id=>exact hq
 |goto l=>exact hq
 |ret=>exact hq
 |panic c=>exact hq
 |outgrown=>exact hq
theorem B7w (n:Nat)(hT:Cs P T)(wr:Bool){f:FuncId}{fn:Func}{c:Code}{ins outs:List Gy}(hf:P.funcs[f]? =some fn)(hb:fn.body=some c)(hn:(fn.name== "runtime.NumGoroutine")=false)
  (h:∀W,vcW P ⟨W,fun _=>False⟩ (bodyPost P fn fun e w'=>Lr W w' outs e) (Oz T wr n [.code c] (start fn.ntmps ins))):B3 P f ins outs:=
 enter hf hb hn fun W=>sound hT wr n _ _ (B2j _ (h W))
theorem goF (n:Nat)(hT:Cs P T)(wr:Bool){B:Be}{Q:Exit→Act→World→Prop}{K:List KI}{s:AS}(h:vcW P B Q (Oz T wr n K s)):GW P B Q K s:=
 ⟨sound hT wr n _ _ (B2j _ h)⟩
end Go.Sx
set_option maxRecDepth 100000
namespace Go.Sx
open Go
variable {P : Program} {T : List (TypeId × TI)}
def Z7 (P:Program) (H:World→Prop) (f:FuncId) (ins:List Gy) {ι:Type} (φ:ι→Prop) (outs:ι→List Gy):Prop:=
 K9 P f∧∀(w:World),H w→∀(vs:List Value),vs.length=ins.length→(∀i x,ins[i]? =some x→Ms w (fun _=>False) x (vs.getD i undef))→
  Calls P f vs.toArray w fun e w'=>∃i,φ i∧Lr w w' (outs i) e
theorem B7d {W:World}{H:World→Prop}{Q:Exit→Act→World→Prop}{q:Bool}{f:FuncId}{xs:List AV}{dst:Option Tmp}{K:List KI}{s:AS}{ins:List Gy}{ι:Type}{φ:ι→Prop}{outs:ι→List Gy}
  (hf:Z7 P H f ins φ outs)(hst:C4w H)(hW:H W)(hx:P9 s xs=some ins)
  (h:∀i,φ i→GW P ⟨W,fun _=>False⟩ Q K (s.put dst (A9g (outs i)))):CW P ⟨W,fun _=>False⟩ Q q f xs dst K s:=by
 refine ⟨⟨hf.1,fun E a w hs vs hl hv=>?_⟩⟩;obtain ⟨h1,h2⟩:=Pa hx;refine (hf.2 w (hst W w (A49 hs.base) hW) vs Ad (fun i x hi=>?_)).mono (fun e w' ⟨k,hk,hg⟩=>?_)
 ·obtain ⟨y,hy,hc⟩:=h2 i x hi
  exact S3 hs hc (hv i y hy)
 ·
  have hone:Z8 P (fun _=>True) f ins (outs k)→True:=fun _=>trivial
  obtain ⟨hb,rs,fps,rfl,hrl,hro,hfr,hdis⟩:=hg;have hI:=(hs.call hb).is
  have hno:∀i,i<(outs k).length→∀b∈fps i,¬ s.avoid E b:=fun i hi b hb' hav=>by
   have:=hs.avoid_lt hav
   have:=(hfr i hi).2 b hb'
   omega
  have hone:∀i y,(outs k)[i]? =some y→Dr E w' (s.avoid E) s.next (Nm y) (rs.getD i undef):=by
   intro i y hy;have hi:i<(outs k).length:=(List.getElem?_eq_some_iff.1 hy).1;have ho:=hro i y hy
   cases y with
   |one c=>exact .c (D3.rep ho (hno i hi))
   |agg cs=>
    obtain ⟨us,gps,hu,hul,hur,hfp⟩:=ho;rw [hu];refine .agg us (by simp [hul]) (fun j x hj=>?_);simp only [List.getElem?_map,Option.map_eq_some_iff] at hj;obtain ⟨c,hc,rfl⟩:=hj;have hj:j<cs.length:=(List.getElem?_eq_some_iff.1 hc).1;exact .c ((hur j c hc).rep (fun b hb'=>hno i hi b (by rw [hfp];exact Ek hj hb')))
   |ptr cs=>exact ho.elim
   |fn f caps=>exact ho.elim
  have hres:Dr E w' (s.avoid E) s.next (A9g (outs k)) (Kp rs):=by
   have:=Jz (E:=E) (A:=s.avoid E) (N:=s.next) (w:=w') (outs k) ((outs k).map Nm) rs hrl C8 (fun i x hi=>by
    simp only [List.getElem?_map,Option.map_eq_some_iff] at hi;obtain ⟨y,hy,rfl⟩:=hi
    exact hone i y hy)
   match (outs k),this with
   | [],this=>exact this
   | [o],this=>exact this
   |o1::o2::r,this=>exact this
  exact ⟨_,rfl,fun _=> .of_below hb,(h k hk).rec fun g=>g E _ w' (hI.put dst hres)⟩
end Go.Sx
set_option maxRecDepth 100000
namespace Go.Sx
open Go
variable {P : Program} {T : List (TypeId × TI)}
end Go.Sx
set_option maxRecDepth 100000
namespace Go.Sx
open Go
def isD (b:UInt8):Prop:=48≤b.toNat∧b.toNat≤57
instance (b:UInt8):Decidable (isD b):=by unfold isD;infer_instance
def C41 (n:Nat) (b:UInt8):Nat:=10 * n+(b.toNat-48)
def C3p (acc:Nat) (l:List UInt8):Nat:=l.foldl C41 acc
def rd (s:ByteArray):Option Nat:=if C3p 0 s.data.toList≤1000000000∧dec (C3p 0 s.data.toList:Nat)=s then some (C3p 0 s.data.toList) else none
end Go.Sx
set_option maxRecDepth 100000
namespace Go.Sx
open Go
def okB (s:ByteArray):Prop:=∀b∈s.data.toList,32≤b.toNat∧b.toNat≤126
instance (s:ByteArray):Decidable (okB s):=by unfold okB;infer_instance
def C1b (s:ByteArray):List ByteArray:=(Lib.fields s.data.toList).map fun l=>⟨l.toArray⟩
def B6u (s:ByteArray):Prop:=s.size≤600∧okB s∧(C1b s).length≤12
instance (s:ByteArray):Decidable (B6u s):=by unfold B6u;infer_instance
end Go.Sx
set_option maxRecDepth 100000
namespace Go.Sx
open Go
end Go.Sx
set_option maxRecDepth 100000
namespace Go.Sx
open Go
end Go.Sx
set_option maxRecDepth 100000
namespace Go.Sx
open Go
variable {P : Program} {T : List (TypeId × TI)}
theorem RW.mono {B:Be}{Q Q':Exit→Act→World→Prop}{s:AS}(h:∀a w,Q .ret a w→Q' .ret a w)(hr:RW B Q s):RW B Q' s:=
 ⟨fun E a w hs=>h a w (hr.rec (fun g=>g E a w hs))⟩
theorem C09 {H:World→Prop}{ι:Type}{φ:ι→Prop}{f:FuncId}{fn:Func}{c:Code}{ins:List Gy}{outs:ι→List Gy}(hf:P.funcs[f]? =some fn)(hb:fn.body=some c)(hn:(fn.name== "runtime.NumGoroutine")=false)
  (h:∀W,H W→G P ⟨W,fun _=>False⟩ (bodyPost P fn fun e w'=>∃i,φ i∧Lr W w' (outs i) e) [.code c] (start fn.ntmps ins)):Z7 P H f ins φ outs:=by
 refine ⟨⟨fn,hf,hn,by simp [hb]⟩,fun w hH vs hl hv=>calls_of_wp hf hb ?_⟩
 refine h w hH ⟨fun _=> .slice none 0 0,fun _=>[]⟩ _ w ?_
 have nav:∀b,¬ (start fn.ntmps ins).avoid ⟨fun _=> .slice none 0 0,fun _=>[]⟩ b:=by
  rintro b (⟨x,hx,_⟩|⟨y,hy,_⟩)
  ·simp [start] at hx
  simp [start] at hy
 have nb:∀x,x∉(start fn.ntmps ins).boxes:=by simp [start]
 have no:∀x,x∉(start fn.ntmps ins).own:=by simp [start]
 refine ⟨rfl,by simp [start],by simp [start,hl],fun i x hx=>?_,fun x hx=>absurd hx (nb x),fun x hx=>absurd hx (nb x),by simp [start],fun y hy=>absurd hy (no y),by simp [start],fun y hy=>absurd hy (no y),fun x hx=>absurd hx (nb x),fun _ _=>rfl,
  ⟨rfl,rfl,rfl,Nat.le_refl _,fun _ _ _=>rfl,Nat.le_refl _⟩,fun b hb=>absurd hb (nav b)⟩
 simp only [start] at hx
 by_cases hi:i<ins.length
 ·rw [List.getElem?_append_left (by simpa using hi)] at hx
  simp only [List.getElem?_map,Option.map_eq_some_iff] at hx;obtain ⟨y,hy,rfl⟩:=hx;have hr:=hv i y hy;have hiv:i<vs.length:=by omega
  have e:(vs.toArray++Array.replicate (fn.ntmps-vs.toArray.size) undef).getD i undef=vs.getD i undef:=by
   simp [Array.getD,List.getD,hiv,show i<vs.length+(fn.ntmps-vs.length) by omega]
  rw [e]
  cases y with
  |one c=>exact .c (hr.move (fun _ _ _=>rfl) (fun b _ hb=>absurd hb (nav b)))
  |agg cs=>
   obtain ⟨us,hu,hul,hur⟩:=hr;rw [hu];refine .agg us (by simp [hul]) (fun j x hj=>?_);simp only [List.getElem?_map,Option.map_eq_some_iff] at hj;obtain ⟨c,hc,rfl⟩:=hj;exact .c ((hur j c hc).move (fun _ _ _=>rfl) (fun b _ hb=>absurd hb (nav b)))
  |ptr cs=>exact hr.den (fun b hb=>absurd hb (nav b))
  |fn f caps=>
   obtain ⟨us,hu,hul,hur⟩:=hr;rw [hu];refine .fn us (by simp [hul]) (fun j x hj=>?_);simp only [List.getElem?_map,Option.map_eq_some_iff] at hj;obtain ⟨c,hc,rfl⟩:=hj;have hr:=hur j c hc
   cases c with
   |one c=>exact .c (Qi.move hr (fun _ _ _=>rfl) (fun b _ hb=>absurd hb (nav b)))
   |ptr cs=>exact O5.den hr (fun b hb=>absurd hb (nav b))
 rw [List.getElem?_append_right (by simp;omega)] at hx
 obtain rfl:AV.any=x:=by
  have:=List.mem_of_getElem? hx
  simpa using (List.eq_of_mem_replicate this).symm
 exact .any _
theorem B7v (hT:Cs P T)(wr:Bool){H:World→Prop}{ι:Type}{φ:ι→Prop}{f:FuncId}{fn:Func}{c:Code}{ins:List Gy}{outs:ι→List Gy}(hf:P.funcs[f]? =some fn)(hb:fn.body=some c)(hn:(fn.name== "runtime.NumGoroutine")=false)
  (h:∀W,H W→vcW P ⟨W,fun _=>False⟩ (bodyPost P fn fun e w'=>∃i,φ i∧Lr W w' (outs i) e) (Oz T wr 100000 [.code c] (start fn.ntmps ins))):Z7 P H f ins φ outs:=
 C09 hf hb hn fun W hW=>(go hT wr (h W hW)).rec id
theorem C5l {W:World}{fn:Func}{ι:Type}{φ:ι→Prop}{outs:ι→List Gy}{B:Be}{s:AS}(i:ι)(hi:φ i)
  (h:RW B (bodyPost P fn fun e w'=>Lr W w' (outs i) e) s):RW B (bodyPost P fn fun e w'=>∃i,φ i∧Lr W w' (outs i) e) s:=
 RW.mono (fun _ _ ⟨h1,v,h2,h3⟩=>⟨h1,v,h2,i,hi,h3⟩) h
end Go.Sx
