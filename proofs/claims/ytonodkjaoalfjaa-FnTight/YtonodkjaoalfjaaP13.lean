/- Part 13 of the proof that each of the laws FnTight returns true for every input. No conditions. -/
import Derived.Test.YtonodkjaoalfjaaP11
import Derived.Test.YtonodkjaoalfjaaP12

set_option linter.unusedSimpArgs false
set_option linter.unusedVariables false
set_option maxRecDepth 100000
namespace Go.Proofs.Ytonodkjaoalfjaa
open Go.Sx
def Dp (a b:Ax):Prop:=a.epoch<b.epoch∨(a.epoch=b.epoch∧(a.op<b.op∨(a.op=b.op∧(a.key<b.key∨(a.key=b.key∧a.val<b.val)))))
theorem Jk {a b:Ax}:Hj a b<0↔Dp a b:=by
 simp only [Hj,Mo,Tw,J6,Dp]
 (repeat' split)<;>omega
theorem Dp.trans {a b c:Ax}(h:Dp a b)(h':Dp b c):Dp a c:=by
 simp only [Dp] at *
 omega
theorem Dp.tri {a b:Ax}(h:a≠b)(h':¬ Dp a b):Dp b a:=by
 obtain ⟨a1,a2,a3,a4⟩:=a
 obtain ⟨b1,b2,b3,b4⟩:=b
 simp only [Dp,ne_eq,Ax.mk.injEq] at *
 omega
theorem Q1:∀{l:List Ax},Ja l↔l.Pairwise Dp
 | []=>by simp [Ja]
 | [x]=>by simp [Ja]
 |x::y::r=>by
  have ih:=Q1 (l:=y::r)
  have h1:Ja (x::y::r)↔Dp x y∧Ja (y::r):=by
   constructor
   ·intro h
    refine ⟨Jk.1 (by simpa using h 0 Bq),fun i hi=>?_⟩
    simpa using h (i+1) (by simp at hi ⊢;omega)
   ·rintro ⟨h1,h2⟩ i hi
    cases i with
    |zero=>simpa using Jk.2 h1
    |succ i=>simpa using h2 i (by simp at hi ⊢;omega)
  rw [h1,ih,List.pairwise_cons (a:=x)]
  constructor
  ·rintro ⟨h1,h2⟩
   refine ⟨fun z hz=>?_,h2⟩
   rcases List.mem_cons.1 hz with rfl|hz
   ·exact h1
   ·exact h1.trans ((List.pairwise_cons.1 h2).1 z hz)
  ·rintro ⟨h1,h2⟩
   exact ⟨h1 y Bq,h2⟩
theorem Q6 {α:Type}(p:α→Bool):∀l:List α,Gj p l≤l.length
 | []=>by simp [Gj]
 |x::r=>by
  have:=Q6 p r
  simp only [Gj]
  split<;>simp<;>omega
theorem M1 {α:Type}(p:α→Bool):∀l:List α,∀x∈l.take (Gj p l),p x=false
 | []=>by simp [Gj]
 |x::r=>by
  intro y hy
  simp only [Gj] at hy
  split at hy
  ·simp at hy
  ·rename_i hx
   simp only [List.take_succ_cons,List.mem_cons] at hy
   rcases hy with rfl|hy
   ·simpa using hx
   ·exact M1 p r y hy
theorem Q5 {α:Type} [Inhabited α] (p:α→Bool):∀l:List α,Gj p l<l.length→p (l.getD (Gj p l) default)=true
 | []=>by simp [Gj]
 |x::r=>by
  intro h
  simp only [Gj] at h ⊢
  split at h
  ·rename_i hx
   simp [hx]
  ·rename_i hx
   rw [if_neg hx]
   simpa using Q5 p r (by simpa using h)
theorem B0p {l:List Ax}{x y:Ax}:y∈Ff l x↔y∈l∨y=x:=by
 unfold Ff
 split
 ·rename_i h
  constructor
  ·exact .inl
  ·rintro (h'|rfl)
   ·exact h'
   ·obtain ⟨z,hz,e⟩:=List.any_eq_true.1 h
    obtain rfl:=of_decide_eq_true e
    exact hz
 ·have:y∈l↔y∈l.take (Ir l x)∨y∈l.drop (Ir l x):=by rw [←List.mem_append,List.take_append_drop]
  rw [List.mem_append,List.mem_cons,this]
  constructor
  ·rintro (h|h|h)
   ·exact .inl (.inl h)
   ·exact .inr h
   ·exact .inl (.inr h)
  ·rintro ((h|h)|h)
   ·exact .inl h
   ·exact .inr (.inr h)
   ·exact .inr (.inl h)
theorem A3h {l:List Ax}{x:Ax}(h:l.Pairwise Dp):(Ff l x).Pairwise Dp:=by
 unfold Ff
 split
 ·exact h
 ·rename_i hn
  have hx:x∉l:=fun hm=>hn (List.any_eq_true.2 ⟨x,hm,by simp⟩)
  have e:=(List.take_append_drop (Ir l x) l).symm
  rw [e] at h
  obtain ⟨h1,h2,h3⟩:=List.pairwise_append.1 h
  have hlo:∀y∈l.take (Ir l x),Dp y x:=fun y hy=>by
   have:=M1 _ l y hy
   simp only [Bool.not_eq_false',decide_eq_true_eq] at this
   exact Jk.1 this
  have hhi:∀y∈l.drop (Ir l x),Dp x y:=by
   by_cases hk:Ir l x<l.length
   ·have hat:=Q5 (fun y=>!decide (Hj y x<0)) l hk
    simp only [Bool.not_eq_true',decide_eq_false_iff_not] at hat
    have hat:¬ Dp (l.getD (Ir l x) default) x:=fun hc=>hat (Jk.2 hc)
    have hne:l.getD (Ir l x) default≠x:=fun e=>hx (e▸B9 hk)
    have h0:=Dp.tri hne hat
    intro y hy
    rw [List.drop_eq_getElem_cons hk] at hy h2
    have e0:l[Ir l x]=l.getD (Ir l x) default:=by simp [List.getD,hk]
    rw [e0] at hy h2
    rcases List.mem_cons.1 hy with rfl|hy
    ·exact h0
    ·exact h0.trans ((List.pairwise_cons.1 h2).1 y hy)
   ·rw [List.drop_of_length_le Ag];simp
  refine List.pairwise_append.2 ⟨h1,List.pairwise_cons.2 ⟨hhi,h2⟩,fun y hy z hz=>?_⟩
  rcases List.mem_cons.1 hz with rfl|hz
  ·exact hlo y hy
  ·exact (hlo y hy).trans (hhi z hz)
theorem Zi {l:List Ax}{x:Ax}(h:l.Pairwise Dp):(Iu l x).1.Pairwise Dp:=by
 unfold Iu
 split
 ·exact h
 ·exact A3h (h.sublist List.filter_sublist)
theorem T3 {k:Int}{l:List Ax}{x:Ax}(h:l.Pairwise Dp):(Cz k l x).1.Pairwise Dp:=by
 unfold Cz
 split
 ·exact Zi h
 ·split
  ·split
   ·exact h
   ·exact A3h h
  ·exact h
theorem Tj {x:C3}{k v:Int}(hx:Hw x)(h:K5 k v):K5 (Bh x k v).1 (Bh x k v).2.1:=by
 obtain ⟨_,h2,_,h4,_⟩:=hx
 unfold Bh
 obtain ⟨⟨a1,a2⟩,a3,a4⟩:=h
 have hm:=Int.tmod_lt_of_pos (k+x.a) (show (0:Int)<100 by decide)
 (repeat' split)<;>simp only [K5] at * <;>(try (rename_i hk;have:=h2 hk))<;>(try (rename_i hk;have:=h4 hk;have:=Int.tmod_nonneg 100 (show 0≤k+x.a by omega)))<;>omega
theorem Oq {s:E9}(h:(Cd s).2=true):(Cd s).1=⟨s.epoch,s.turn+1⟩∧(0≤s.epoch∧s.epoch≤3)∧0≤s.turn∧s.turn<6:=by
 unfold Cd at *
 split at h
 ·rename_i hs
  rw [if_pos hs]
  have:=of_decide_eq_true hs.1
  exact ⟨rfl,this.1,this.2.1,hs.2⟩
 ·cases h
theorem Su {g:An}{op:Int}(h:Fh g)(h0:0≤op)(h1:op<g.nodes.length):L0 g op.toNat:=h.2.2.2 op.toNat Ag
theorem A14 {g:An}{r:Ac}(h:Ig g r):Nk g.nodes.length (K4 g r):=by
 obtain ⟨hg,hr,ho⟩:=h
 obtain ⟨r1,r2,r3,r4,r5⟩:=hr
 have hn:=Su hg r1.1 ho
 have hc:=Tj (k:=r.key) (v:=r.val) hn.1 ⟨r4,r5⟩
 unfold K4
 intro q hq
 split at hq
 ·simp at hq
 ·rename_i hb
  obtain ⟨k,hk,rfl⟩:=List.mem_map.1 hq
  have he:=hn.2.2 k hk
  have hk7:=hn.1.2.2.2.2.2.2.2.2 k hk
  refine ⟨⟨hk7,?_,?_,hc.1,hc.2⟩,he.1⟩
  ·simp only
   split
   ·rename_i h7
    have:=Oq (s:=r.stamp) (by simpa [h7] using hb)
    rw [this.1];exact this.2.1
   ·exact r2
  ·simp only
   split
   ·rename_i h7
    have:=Oq (s:=r.stamp) (by simpa [h7] using hb)
    rw [this.1];simp only;omega
   ·exact r3
theorem Xk {g:An}{cs:List Ax}{r:Ac}:Nk g.nodes.length (Es g cs r).2.1:=by
 unfold Es
 split
 ·rename_i h
  (repeat' split)
  ·intro q hq;simp at hq
  ·intro q hq;simp at hq
  ·exact A14 h
 ·intro q hq;simp at hq
theorem A06 {g:An}{cs:List Ax}{r:Ac}(h:cs.Pairwise Dp):(Es g cs r).1.Pairwise Dp:=by
 unfold Es
 (repeat' split)
 ·exact h
 ·exact T3 h
 ·exact T3 h
 ·exact h
theorem Zx {g:An}{r:Ac}(h:Ig g r):(K4 g r).length≤2:=by
 unfold K4
 have:=(Su h.1 h.2.1.1.1 h.2.2).1.2.2.2.2.2.1
 split
 ·simp
 ·rw [List.length_map];exact this
theorem Xj {g:An}{cs:List Ax}{r:Ac}:(Es g cs r).2.1.length≤2:=by
 unfold Es
 split
 ·rename_i h
  (repeat' split)
  ·simp
  ·simp
  ·exact Zx h
 ·simp
theorem Yy {l:List Ax}{x:Ax}:(Ff l x).length≤l.length+1:=by
 unfold Ff
 split
 ·omega
 ·have:=Q6 (fun y=>!decide (Hj y x<0)) l
  simp only [List.length_append,List.length_cons,List.length_take,List.length_drop,Ir]
  omega
theorem R0 {k:Int}{l:List Ax}{x:Ax}:(Cz k l x).1.length≤l.length+1:=by
 unfold Cz
 split
 ·unfold Iu
  split
  ·simp
  ·have h1:=Yy (l:=l.filter fun y=>!B6 x y) (x:=x)
   have h2:=List.length_filter_le (fun y=>!B6 x y) l
   simp only
   omega
 ·split
  ·split
   ·simp
   ·exact Yy
  ·simp
theorem W1 {g:An}{cs:List Ax}{r:Ac}:(Es g cs r).1.length≤cs.length+1:=by
 unfold Es
 (repeat' split)
 ·simp
 ·exact R0
 ·exact R0
 ·simp
theorem A0h {l:List Ac}(h:Za l):Za (l.drop 1):=by
 intro i hi
 obtain ⟨h1,h2,h3⟩:=h (i+1) (by simp at hi;omega)
 have e:∀j,(l.drop 1).getD j default=l.getD (j+1) default:=fun j=>by simp [List.getD,Nat.add_comm]
 refine ⟨by rw [e];exact h1,by rw [e];exact h2,fun h0=>?_⟩
 rw [e,e,show i-1+1=i by omega]
 exact h3 Ag
theorem L5 {n k:Nat}{l:List Ac}(h:Nk n l):Nk n (l.drop k):=fun r hr=>h r (List.mem_of_mem_drop hr)
theorem O3 {n:Nat}{l:List Ac}{r:Ac}(h:Nk n l)(hr:Gt r∧r.op<n):Nk n (l++[r]):=fun q hq=>by
 rcases List.mem_append.1 hq with hq|hq
 ·exact h q hq
 ·rw [List.mem_singleton.1 hq];exact hr
theorem A1b {g:An}{w:Ad}(h:Cf g.nodes.length w):Cf g.nodes.length (J3 g w):=by
 obtain ⟨⟨a1,a2,a3,a4⟩,⟨l1,l2,l3⟩,hi,hs,hd⟩:=h
 refine ⟨⟨L5 a1,Xk,a3,Q1.2 (A06 (Q1.1 a4))⟩,⟨l1,l2,?_⟩,hi,hs,hd⟩
 simp only [J3]
 split
 ·rw [List.length_set];exact l3
 ·exact l3
theorem Ux {n:Nat}{w:Ad}(h:Cf n w)(h0:0<w.inputs.length):Cf n (Hy w):=by
 obtain ⟨⟨a1,a2,a3,a4⟩,hl,hi,hs,hd⟩:=h
 exact ⟨⟨O3 a1 (a3 _ (B9 h0)),a2,L5 a3,a4⟩,hl,A0h hi,hs,hd⟩
theorem Yj {n:Nat}{w:Ad}{r:Ac}(h:Cf n w)(hr:Gt r∧r.op<n):Cf n (kept w r):=by
 obtain ⟨⟨a1,a2,a3,a4⟩,hl,hi,hs,hd⟩:=h
 exact ⟨⟨O3 a1 hr,a2,a3,a4⟩,hl,hi,hs,hd⟩
theorem Rm {n:Nat}{w:Ad}(h:Cf n w):Cf n (Dv w):=by
 obtain ⟨⟨a1,a2,a3,a4⟩,hl,hi,hs,hd⟩:=h
 exact ⟨⟨a1,L5 a2,a3,a4⟩,hl,hi,hs,hd⟩
theorem Pz {n:Nat}{w:Ad}{e:Int}{b:Bool}(h:Cf n w):Cf n ⟨w.queue,w.staged,w.inputs,w.cells,w.sums,w.black.set e.toNat b,w.caps,w.dones⟩:=by
 obtain ⟨ha,⟨l1,l2,l3⟩,hi,hs,hd⟩:=h
 exact ⟨ha,⟨l1,by simpa using l2,l3⟩,hi,hs,hd⟩
theorem Y3 {n:Nat}{w:Ad}{e k:Int}(h:Cf n w)(h1:0≤e∧e≤3):Cf n (Em w e k)↔Gu (w.sums.getD e.toNat default+k):=by
 obtain ⟨ha,⟨l1,l2,l3⟩,hi,hs,hd⟩:=h
 have hlt:e.toNat<w.sums.length:=by omega
 constructor
 ·rintro ⟨_,_,_,hs',_⟩
  have:=hs' (w.sums.getD e.toNat default+k) (by simp only [Em];exact List.mem_set hlt _)
  exact this
 ·intro hk
  refine ⟨ha,⟨by simpa [Em] using l1,l2,l3⟩,hi,fun m hm=>?_,hd⟩
  simp only [Em] at hm
  rcases List.mem_or_eq_of_mem_set hm with h|rfl
  ·exact hs m h
  ·exact hk
theorem V1 {n:Nat}{w:Ad}{e:Int}{b:Bool}(h:Cf n w)(h1:0≤e∧e≤3)(h2:En w e=false):Cf n (Fj w ⟨e,b⟩):=by
 obtain ⟨ha,hl,hi,hs,hd⟩:=h
 refine ⟨ha,hl,hi,hs,fun i hi'=>?_⟩
 simp only [Fj,List.length_append,List.length_singleton] at hi'
 have e1:∀j,j<w.dones.length→(w.dones++[(⟨e,b⟩:Fv)]).getD j default=w.dones.getD j default:=fun j hj=>by simp [List.getD,List.getElem?_append_left hj]
 have e2:(w.dones++[(⟨e,b⟩:Fv)]).getD w.dones.length default=⟨e,b⟩:=by simp [List.getD]
 simp only [Fj]
 by_cases hlt:i<w.dones.length
 ·obtain ⟨d1,d2⟩:=hd i hlt
  exact ⟨by rw [e1 i hlt];exact d1,fun k hk=>by rw [e1 i hlt,e1 k Ag];exact d2 k hk⟩
 ·obtain rfl:i=w.dones.length:=by omega
  refine ⟨by rw [e2];exact h1,fun k hk=>?_⟩
  rw [e2,e1 k hk]
  intro hc
  have:En w e=true:=List.any_eq_true.2 ⟨w.dones.getD k default,B9 hk,by simpa using hc⟩
  rw [h2] at this
  cases this
theorem Lf {α:Type}{l:List α}{i:Nat}{a x:α}(h:x∈l.set i a):x∈l∨x=a:=List.mem_or_eq_of_mem_set h
theorem Fs {c:A3}{j:Int}{w:Ad}(h:Ar c)(hj:0≤j∧j<c.workers.length):Ar (Av c j w)↔Cf c.graph.nodes.length w:=by
 obtain ⟨⟨g1,g2,g3,g4⟩,hw,hl,ht,hn⟩:=h
 have hlt:j.toNat<c.workers.length:=by omega
 constructor
 ·rintro ⟨_,hw',_⟩
  exact hw' w (by simp only [Av];exact List.mem_set hlt _)
 ·intro h
  refine ⟨⟨g1,by simpa [Av] using g2,g3,g4⟩,fun x hx=>?_,hl,ht,hn⟩
  rcases Lf hx with hx|rfl
  ·exact hw x hx
  ·exact h
theorem O7 {c:A3}{k:Int}{l:C0}(h:Ar c)(hl':Fc l∧Se c k.toNat l):Ar (Bo c k l):=by
 obtain ⟨⟨g1,g2,g3,g4⟩,hw,hl,ht,hn⟩:=h
 refine ⟨⟨g1,g2,by simpa [Bo] using g3,g4⟩,hw,fun i hi=>?_,ht,hn⟩
 simp only [Bo,List.length_set] at hi
 show Fc ((c.links.set k.toNat l).getD i default)∧Se c i ((c.links.set k.toNat l).getD i default)
 by_cases e:i=k.toNat
 ·subst e
  rw [Sx.getD_set_self _ _ _ _ hi]
  exact hl'
 ·rw [Sx.getD_set_ne _ _ _ _ _ e]
  exact hl i hi
theorem I4 {c:A3}{f t:Int}(h:Ar c)(hf:0≤f∧f<c.graph.workers)(ht:0≤t∧t<c.graph.workers):
  (0≤Ai c f t∧Ai c f t<c.links.length)∧((Ai c f t).toNat:Int).tdiv c.graph.workers=f∧((Ai c f t).toNat:Int).tmod c.graph.workers=t:=by
 have hl:=h.1.2.2.1
 have hn:=h.1.1.2.1
 unfold Ai
 have hw:c.graph.workers=1∨c.graph.workers=2∨c.graph.workers=3∨c.graph.workers=4:=by omega
 have h0:0≤f * c.graph.workers:=Int.mul_nonneg hf.1 Ag
 have hfw:f=0∨f=1∨f=2∨f=3:=by omega
 have htw:t=0∨t=1∨t=2∨t=3:=by omega
 rw [hl]
 generalize c.graph.workers=n at *
 rcases hw with rfl|rfl|rfl|rfl<;>rcases hfw with rfl|rfl|rfl|rfl<;>rcases htw with rfl|rfl|rfl|rfl<;>first|omega|(refine ⟨⟨by decide,by decide⟩,by decide,by decide⟩)
theorem N1 {c:A3}{k:Int}(h:Ar c)(hk:0≤k∧k<c.links.length):Fc (Bc c k)∧Se c k.toNat (Bc c k):=h.2.2.1 k.toNat Ag
theorem A00 {l:C0}{r:Ac}(h:Fc l):Fc (C6 l r).1:=by
 unfold C6
 split
 ·rename_i hs
  obtain ⟨⟨h1,h2,h3,h4,h5,h6,h7⟩,hq⟩:=h
  obtain ⟨_,hr,hc,hs⟩:=hs
  refine ⟨?_,fun q hq'=>?_⟩
  ·simp only [Sf,List.length_append,List.length_singleton]
   omega
  ·rcases List.mem_append.1 hq' with hq'|hq'
   ·exact hq q hq'
   ·rw [List.mem_singleton.1 hq'];exact hr
 ·exact h
theorem W4 {l:C0}(h:Fc l):Fc (Bn l).1:=by
 unfold Bn
 split
 ·rename_i hs
  obtain ⟨⟨h1,h2,h3,h4,h5,h6,h7⟩,hq⟩:=h
  refine ⟨?_,fun q hq'=>hq q (List.mem_of_mem_drop hq')⟩
  simp only [Sf,List.length_drop]
  omega
 ·exact h
theorem Rv {l:C0}(h:Fc l):Fc (D4 l).1:=by
 unfold D4
 split
 ·rename_i hs
  obtain ⟨⟨h1,h2,h3,h4,h5,h6,h7⟩,hq⟩:=h
  refine ⟨?_,hq⟩
  simp only [Sf]
  omega
 ·exact h
theorem X0 {k n:Int}(hk:0≤k)(hn:1≤n):0≤De k n∧De k n<n:=by
 have h1:=Int.tmod_lt_of_pos k (show 0<n by omega)
 have h2:=Int.tmod_nonneg n hk
 unfold De
 (repeat' split)<;>omega
theorem A1a {c:A3}{w:Int}(h:Fi c w):Ar (Av c w (H4 c.graph (A9 c w)).1):=by
 obtain ⟨hc,h0,h1⟩:=h
 have hw:=hc.2.1 _ (B9 (d:=default) (show w.toNat<c.workers.length by omega))
 refine (Fs hc ⟨h0,h1⟩).2 ?_
 unfold H4
 split
 ·exact A1b hw
 ·exact hw
theorem Vl {c:A3}{w:Int}(h:Ar c):Ar (Df c w).1:=by
 unfold Df
 split
 ·exact A1a ‹_›
 ·exact h
theorem U5 {c:A3}{w:Int}(h:Ar c):Ar (Ct c w).1:=by
 unfold Ct
 split
 ·rename_i hW
  obtain ⟨hc,h0,h1⟩:=hW
  have hw:=hc.2.1 _ (B9 (d:=default) (show w.toNat<c.workers.length by omega))
  refine (Fs hc ⟨h0,h1⟩).2 ?_
  unfold Et
  split
  ·rename_i hi;exact Ux hw hi.2.2.2.2
  ·exact hw
 ·exact h
theorem Oc {c:A3}{w:Int}(hc:Ar c)(h:0≤w∧w<c.workers.length):Cf c.graph.nodes.length (A9 c w):=hc.2.1 _ (B9 (d:=default) (show w.toNat<c.workers.length by omega))
theorem Q7 {c:A3}{w:Int}(h:Fi c w)(hs:0<(A9 c w).staged.length):Gt (Au c w)∧(Au c w).op<c.graph.nodes.length:=(Oc h.1 h.2).1.2.1 _ (B9 hs)
theorem Ss {c:A3}{w:Int}(h:Fi c w)(hs:0<(A9 c w).staged.length):0≤As c w∧As c w<c.graph.workers:=
 X0 (Q7 h hs).1.2.2.2.1.1 h.1.1.1.2.1.1
theorem Wu {c:A3}{w:Int}(h:Fi c w)(hs:0<(A9 c w).staged.length)(hne:As c w≠w):Ar (Bo c (Ai c w (As c w)) (C6 (Bc c (Ai c w (As c w))) (Au c w)).1):=by
 have hw:0≤w∧w<c.graph.workers:=by have:=h.1.1.2.1;exact ⟨h.2.1,by have:=h.2.2;omega⟩
 obtain ⟨b1,b2,b3⟩:=I4 h.1 hw (Ss h hs)
 obtain ⟨k1,k2,k3,k4⟩:=N1 h.1 b1
 refine O7 h.1 ⟨A00 k1,?_⟩
 unfold C6
 split
 ·exact ⟨k2,O3 k3 (Q7 h hs),fun e=>absurd (by rw [b2,b3] at e;exact e.symm) hne⟩
 ·exact ⟨k2,k3,k4⟩
def Tz (c:A3) (w:Int):Int:=(A9 c w).sums.getD (Au c w).stamp.epoch.toNat default+1
theorem Vw {n:Nat}{w:Ad}{e:Int}(h:Cf n w)(he:0≤e∧e≤3):G3 w e=Em w e 1:=by
 have:=h.2.1.1
 unfold G3
 rw [if_pos Ag]
theorem Kp {c:A3}{w:Int}(h:Ar c):Aq (Br c w).1=(if (Br c w).2=true∧As c w≠w then decide (Gu (Tz c w)) else true):=by
 unfold Br
 by_cases hm:Fi c w∧0<(A9 c w).staged.length
 ·obtain ⟨hW,hs⟩:=hm
  rw [if_pos ⟨hW,hs⟩]
  have hfo:=Q7 hW hs
  by_cases hself:As c w=w
  ·simp only [hself,if_true,ne_eq,not_true_eq_false,and_false,if_false]
   exact decide_eq_true ((Fs h hW.2).2 (Yj (Rm (Oc h hW.2)) hfo))
  ·rw [if_neg hself]
   by_cases hsend:(C6 (Bc c (Ai c w (As c w))) (Au c w)).2=true
   ·rw [if_pos hsend]
    simp only [true_and,if_pos hself,ne_eq,hself,not_false_eq_true,and_self,if_true]
    have hc2:=Wu hW hs hself
    unfold Aq
    refine decide_eq_decide.2 ?_
    have hw:=Rm (Oc h hW.2)
    rw [Fs hc2 hW.2,Vw hw hfo.1.2.1]
    exact Y3 hw hfo.1.2.1
   ·rw [if_neg hsend]
    simp only [Bool.false_eq_true,false_and,if_false]
    exact decide_eq_true h
 ·rw [if_neg hm]
  simp only [Bool.false_eq_true,false_and,if_false]
  exact decide_eq_true h
theorem Xo {c:A3}{f t:Int}(h:Jb c f t):Ar (Bo c (Ai c f t) (Bn (Bc c (Ai c f t))).1):=by
 obtain ⟨b1,b2,b3⟩:=I4 h.1 h.2.2.1 h.2.2.2
 obtain ⟨k1,k2,k3,k4⟩:=N1 h.1 b1
 refine O7 h.1 ⟨W4 k1,?_⟩
 unfold Bn
 split
 ·exact ⟨k2,L5 k3,fun e=>absurd (by rw [b2,b3] at e;exact e) h.2.1⟩
 ·exact ⟨k2,k3,k4⟩
def Jz (c:A3) (f t:Int):Ac:=(Bn (Bc c (Ai c f t))).2.1
theorem A35 {c:A3}{f t:Int}(h:Jb c f t)(hk:(Bn (Bc c (Ai c f t))).2.2=true):Gt (Jz c f t)∧(Jz c f t).op<c.graph.nodes.length:=by
 obtain ⟨b1,b2,b3⟩:=I4 h.1 h.2.2.1 h.2.2.2
 obtain ⟨k1,k2,k3,k4⟩:=N1 h.1 b1
 unfold Jz
 unfold Bn at hk ⊢
 split at hk
 ·rename_i hp
  rw [if_pos hp]
  exact k3 _ (B9 hp.2)
 ·cases hk
def Ui (c:A3) (f t:Int):Int:=(A9 c t).sums.getD (Jz c f t).stamp.epoch.toNat default+ -1
theorem Vm {n:Nat}{w:Ad}{r:Ac}(h:Cf n w)(he:0≤r.stamp.epoch∧r.stamp.epoch≤3):F1 w r=I1 (Em (kept w r) r.stamp.epoch (-1)) r.stamp.epoch:=by
 have:=h.2.1.1
 have:=h.2.1.2.1
 unfold F1
 rw [if_pos Ag]
theorem Zj {n:Nat}{w:Ad}{e:Int}{b:Bool}:Cf n ⟨w.queue,w.staged,w.inputs,w.cells,w.sums,w.black.set e.toNat b,w.caps,w.dones⟩↔Cf n w:=by
 refine ⟨fun h=>?_,Pz⟩
 obtain ⟨ha,⟨l1,l2,l3⟩,hi,hs,hd⟩:=h
 exact ⟨ha,⟨l1,by simpa using l2,l3⟩,hi,hs,hd⟩
theorem Ov {c:A3}{f t:Int}(h:Ar c):Aq (Ck c f t).1=(if (Ck c f t).2=true then decide (Gu (Ui c f t)) else true):=by
 unfold Ck
 by_cases hm:Jb c f t∧(Bn (Bc c (Ai c f t))).2.2=true
 ·rw [if_pos hm]
  obtain ⟨hL,hk⟩:=hm
  have hto:=A35 hL hk
  have hc2:=Xo hL
  have ht:0≤t∧t<c.workers.length:=by have:=h.1.2.1;have:=hL.2.2.2;omega
  simp only [if_true]
  unfold Aq
  refine decide_eq_decide.2 ?_
  rw [Fs hc2 ht]
  have hw:=Oc h ht
  show Cf _ (F1 (A9 c t) (Jz c f t))↔_
  rw [Vm hw hto.1.2.1]
  exact (Zj (w:=Em (kept (A9 c t) (Jz c f t)) (Jz c f t).stamp.epoch (-1))).trans (Y3 (Yj hw hto) hto.1.2.1)
 ·rw [if_neg hm]
  simp only [Bool.false_eq_true,if_false]
  exact decide_eq_true h
theorem Rz {c:A3}{f t:Int}(h:Ar c):Ar (Cq c f t).1:=by
 unfold Cq
 split
 ·rename_i hL
  obtain ⟨b1,b2,b3⟩:=I4 h hL.2.2.1 hL.2.2.2
  obtain ⟨k1,k2,k3,k4⟩:=N1 h b1
  refine O7 h ⟨Rv k1,?_⟩
  unfold D4
  split
  ·exact ⟨k2,k3,k4⟩
  ·exact ⟨k2,k3,k4⟩
 ·exact h
theorem Yp {c:A3}{l:List Ez}(h:Ar c)(hl:∀x∈l,Me c.graph.workers x):Ar ⟨c.graph,c.workers,c.links,c.tokens,l⟩:=⟨h.1,h.2.1,h.2.2.1,h.2.2.2.1,hl⟩
theorem O0 {c:A3}{w:Int}(h:Ar c)(hn:c.news.any (Iv w)=true):Fa c w∈c.news∧(Fa c w).to_=w:=by
 obtain ⟨x,hx,hw⟩:=List.any_eq_true.1 hn
 have hlt:M6 c w<c.news.length:=by
  by_cases hlt:M6 c w<c.news.length
  ·exact hlt
  ·have:=Q6 (Iv w) c.news
   have he:Gj (Iv w) c.news=c.news.length:=by unfold M6 at hlt;omega
   have:=M1 (Iv w) c.news x (by rw [he,List.take_length];exact hx)
   rw [hw] at this;cases this
 have:=Q5 (Iv w) c.news hlt
 exact ⟨B9 hlt,eq_of_beq this⟩
theorem V8 {c:A3}{w:Int}(h:Ar c):Ar (D9 c w).1:=by
 unfold D9
 split
 ·rename_i hn
  have hh:Ar (Ip c w):=Yp h fun x hx=>h.2.2.2.2 x (List.mem_of_mem_eraseIdx hx)
  obtain ⟨m1,m2⟩:=O0 h hn.2
  have hN:=h.2.2.2.2 _ m1
  have hw:0≤w∧w<c.workers.length:=by have:=h.1.2.1;have:=hN.1;omega
  split
  ·exact hh
  ·rename_i hd
   have hwk:=V1 (b:=(Fa c w).capped) (Oc h hw) hN.2 (by simpa using hd)
   exact (Fs hh hw).2 hwk
 ·exact h
theorem O8 {c:A3}{e:Int}{t:Dw}(h:Ar c)(ht:Nl c.graph.workers t):Ar (Cs c e t):=by
 obtain ⟨⟨g1,g2,g3,g4⟩,hw,hl,htt,hn⟩:=h
 refine ⟨⟨g1,g2,g3,by simpa [Cs] using g4⟩,hw,hl,fun x hx=>?_,hn⟩
 rcases Lf hx with hx|rfl
 ·exact htt x hx
 ·exact ht
theorem Um {c:A3}{e:Int}(h:Ar c):Ar (C2 c e).1:=by
 unfold C2
 split
 ·rename_i hT
  obtain ⟨_,he,hD,hP⟩:=hT
  have htl:=h.1.2.2.2
  have hTP:Nl c.graph.workers (Ab c e):=h.2.2.2.1 _ (B9 (d:=default) (show e.toNat<c.tokens.length by omega))
  have hn1:=h.1.1.2.1
  have hwl:=h.1.2.1
  have hat:0≤(Ab c e).at_∧(Ab c e).at_<c.workers.length:=by have:=hTP.1;omega
  have hwk:=Oc h hat
  simp only
  split
  ·have h1:Nl c.graph.workers ⟨true,(c.workers.length:Int)-1,0,false,(A9 c (Ab c e).at_).caps.getD e.toNat default⟩:=⟨⟨by show (0:Int)≤(c.workers.length:Int)-1;omega,by show (c.workers.length:Int)-1≤_;omega⟩,(fun hc=>Bool.noConfusion hc),(by show (-1000000:Int)≤0;decide),(by show (0:Int)≤1000000;decide)⟩
   exact (Fs (O8 (e:=e) h h1) hat).2 (Pz hwk)
  ·split
   ·split
    ·rename_i hg ha hs
     have h1:Nl c.graph.workers ⟨(Ab c e).going,(Ab c e).at_-1,(Ab c e).sum+(A9 c (Ab c e).at_).sums.getD e.toNat default,(Ab c e).black||(A9 c (Ab c e).at_).black.getD e.toNat default,(Ab c e).capped||(A9 c (Ab c e).at_).caps.getD e.toNat default⟩:=
      ⟨⟨by show 0≤(Ab c e).at_-1;omega,by show (Ab c e).at_-1≤_;have:=hTP.1;omega⟩,fun hc=>absurd hc hg,hs⟩
     exact (Fs (O8 (e:=e) h h1) hat).2 (Pz hwk)
    ·exact h
   ·rename_i hg ha
    have hA:(Ab c e).at_=0:=by have:=hTP.1;omega
    have hc1:Ar (Cs c e ⟨false,(Ab c e).at_,(Ab c e).sum,(Ab c e).black,(Ab c e).capped⟩):=O8 h ⟨hTP.1,fun _=>hA,hTP.2.2⟩
    unfold H2
    split
    ·have hw0:(0:Int)≤0∧(0:Int)<c.workers.length:=by omega
     have hd0:En (A9 c (Ab c e).at_) e=false:=by rw [hA];exact hD
     have hdw:=V1 (b:=((Ab c e).capped||(A9 c (Ab c e).at_).caps.getD e.toNat default)) hwk he hd0
     have hw1:=(Fs (j:=0) hc1 hw0).2 hdw
     refine Yp hw1 fun x hx=>?_
     rcases List.mem_append.1 hx with hx|hx
     ·exact h.2.2.2.2 x hx
     ·obtain ⟨i,hi,rfl⟩:=List.mem_map.1 hx
      have:=List.mem_range.1 hi
      have hl2:(Cs c e ⟨false,(Ab c e).at_,(Ab c e).sum,(Ab c e).black,(Ab c e).capped⟩).workers.length=c.workers.length:=rfl
      rw [hl2] at this
      refine ⟨⟨by show (0:Int)≤(i:Int)+1;omega,?_⟩,he⟩
      show (i:Int)+1≤c.graph.workers-1
      omega
    ·exact hc1
 ·exact h
theorem W2 {c : A3} {p : Bl} (h : Ar c) : Aq (Ao c p).1 =
    (if p.kind = 3 then (if (Br c p.a).2 = true ∧ As c p.a ≠ p.a then decide (Gu (Tz c p.a)) else true)
     else if p.kind = 4 then (if (Ck c p.a p.b).2 = true then decide (Gu (Ui c p.a p.b)) else true) else true) := by
  unfold Ao
  by_cases h1 : p.kind = 1
  · rw [if_pos h1, if_neg Ag, if_neg Ag]; exact decide_eq_true (Vl h)
  by_cases h2 : p.kind = 2
  · rw [if_neg h1, if_pos h2, if_neg Ag, if_neg Ag]; exact decide_eq_true (U5 h)
  by_cases h3 : p.kind = 3
  · rw [if_neg h1, if_neg h2, if_pos h3, if_pos h3]; exact Kp h
  by_cases h4 : p.kind = 4
  · rw [if_neg h1, if_neg h2, if_neg h3, if_pos h4, if_neg h3, if_pos h4]; exact Ov h
  by_cases h5 : p.kind = 5
  · rw [if_neg h1, if_neg h2, if_neg h3, if_neg h4, if_pos h5, if_neg h3, if_neg h4]; exact decide_eq_true (Rz h)
  by_cases h6 : p.kind = 6
  · rw [if_neg h1, if_neg h2, if_neg h3, if_neg h4, if_neg h5, if_pos h6, if_neg h3, if_neg h4]; exact decide_eq_true (Um h)
  by_cases h7 : p.kind = 7
  · rw [if_neg h1, if_neg h2, if_neg h3, if_neg h4, if_neg h5, if_neg h6, if_pos h7, if_neg h3, if_neg h4]; exact decide_eq_true (V8 h)
  · rw [if_neg h1, if_neg h2, if_neg h3, if_neg h4, if_neg h5, if_neg h6, if_neg h7, if_neg h3, if_neg h4]; exact decide_eq_true h
end Go.Proofs.Ytonodkjaoalfjaa
