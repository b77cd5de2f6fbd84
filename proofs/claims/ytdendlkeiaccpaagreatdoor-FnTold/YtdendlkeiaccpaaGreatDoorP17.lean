/- Part 17 of the proof that each of the laws FnTold returns true for every input. No conditions. -/
import Derived.Test.YtdendlkeiaccpaaGreatDoorP14
import Derived.Test.YtdendlkeiaccpaaGreatDoorP16

set_option linter.unusedSimpArgs false
set_option linter.unusedVariables false
set_option maxRecDepth 100000
namespace Go.Proofs.YtdendlkeiaccpaaGreatDoor
open Go.Sx
def Ex (a b:Ag):Prop:=a.epoch<b.epoch∨(a.epoch=b.epoch∧(a.op<b.op∨(a.op=b.op∧(a.key<b.key∨(a.key=b.key∧a.val<b.val)))))
theorem Ls {a b:Ag}:Iv a b<0↔Ex a b:=by
 simp only [Iv,Kk,Nc,J7,Ex]
 (repeat' split)<;>omega
theorem Ex.trans {a b c:Ag}(h:Ex a b)(h':Ex b c):Ex a c:=by
 simp only [Ex] at *
 omega
theorem Ex.tri {a b:Ag}(h:a≠b)(h':¬ Ex a b):Ex b a:=by
 obtain ⟨a1,a2,a3,a4⟩:=a
 obtain ⟨b1,b2,b3,b4⟩:=b
 simp only [Ex,ne_eq,Ag.mk.injEq] at *
 omega
theorem Tw:∀{l:List Ag},Li l↔l.Pairwise Ex
 | []=>by simp [Li]
 | [x]=>by simp [Li]
 |x::y::r=>by
  have ih:=Tw (l:=y::r)
  have h1:Li (x::y::r)↔Ex x y∧Li (y::r):=by
   constructor
   ·intro h
    refine ⟨Ls.1 (by simpa using h 0 Bw),fun i hi=>?_⟩
    simpa using h (i+1) (by simp at hi ⊢;omega)
   rintro ⟨h1,h2⟩ i hi
   cases i with
   |zero=>simpa using Ls.2 h1
   |succ i=>simpa using h2 i (by simp at hi ⊢;omega)
  rw [h1,ih,List.pairwise_cons (a:=x)]
  constructor
  ·rintro ⟨h1,h2⟩
   refine ⟨fun z hz=>?_,h2⟩
   rcases List.mem_cons.1 hz with rfl|hz
   ·exact h1
   exact h1.trans ((List.pairwise_cons.1 h2).1 z hz)
  rintro ⟨h1,h2⟩
  exact ⟨h1 y Bw,h2⟩
theorem U4 {α:Type}(p:α→Bool):∀l:List α,Ga p l≤l.length
 | []=>by simp [Ga]
 |x::r=>by
  have:=U4 p r
  simp only [Ga]
  split<;>simp<;>omega
theorem Pa {α:Type}(p:α→Bool):∀l:List α,∀x∈l.take (Ga p l),p x=false
 | []=>by simp [Ga]
 |x::r=>by
  intro y hy
  simp only [Ga] at hy
  split at hy
  ·simp at hy
  rename_i hx
  simp only [List.take_succ_cons,List.mem_cons] at hy
  rcases hy with rfl|hy
  ·simpa using hx
  exact Pa p r y hy
theorem U3 {α:Type} [Inhabited α] (p:α→Bool):∀l:List α,Ga p l<l.length→p (l.getD (Ga p l) default)=true
 | []=>by simp [Ga]
 |x::r=>by
  intro h
  simp only [Ga] at h ⊢
  split at h
  ·rename_i hx
   simp [hx]
  rename_i hx
  rw [if_neg hx]
  simpa using U3 p r (by simpa using h)
theorem A5k {l:List Ag}{x y:Ag}:y∈Cs l x↔y∈l∨y=x:=by
 unfold Cs
 split
 ·rename_i h
  constructor
  ·exact .inl
  rintro (h'|rfl)
  ·exact h'
  obtain ⟨z,hz,e⟩:=List.any_eq_true.1 h
  obtain rfl:=of_decide_eq_true e
  exact hz
 have:y∈l↔y∈l.take (Ie l x)∨y∈l.drop (Ie l x):=by rw [←List.mem_append,List.take_append_drop]
 rw [List.mem_append,List.mem_cons,this]
 constructor
 ·rintro (h|h|h)
  ·exact .inl (.inl h)
  ·exact .inr h
  exact .inl (.inr h)
 rintro ((h|h)|h)
 ·exact .inl h
 ·exact .inr (.inr h)
 exact .inr (.inl h)
theorem B1h {l:List Ag}{x:Ag}(h:l.Pairwise Ex):(Cs l x).Pairwise Ex:=by
 unfold Cs
 split
 ·exact h
 rename_i hn
 have hx:x∉l:=fun hm=>hn (List.any_eq_true.2 ⟨x,hm,by simp⟩)
 have e:=(List.take_append_drop (Ie l x) l).symm
 rw [e] at h
 obtain ⟨h1,h2,h3⟩:=List.pairwise_append.1 h
 have hlo:∀y∈l.take (Ie l x),Ex y x:=fun y hy=>by
  have:=Pa _ l y hy
  simp only [Bool.not_eq_false',decide_eq_true_eq] at this
  exact Ls.1 this
 have hhi:∀y∈l.drop (Ie l x),Ex x y:=by
  by_cases hk:Ie l x<l.length
  ·have hat:=U3 (fun y=>!decide (Iv y x<0)) l hk
   simp only [Bool.not_eq_true',decide_eq_false_iff_not] at hat
   have hat:¬ Ex (l.getD (Ie l x) default) x:=fun hc=>hat (Ls.2 hc)
   have hne:l.getD (Ie l x) default≠x:=fun e=>hx (e▸B8 hk)
   have h0:=Ex.tri hne hat
   intro y hy
   rw [List.drop_eq_getElem_cons hk] at hy h2
   have e0:l[Ie l x]=l.getD (Ie l x) default:=by simp [List.getD,hk]
   rw [e0] at hy h2
   rcases List.mem_cons.1 hy with rfl|hy
   ·exact h0
   exact h0.trans ((List.pairwise_cons.1 h2).1 y hy)
  rw [List.drop_of_length_le Ab];simp
 refine List.pairwise_append.2 ⟨h1,List.pairwise_cons.2 ⟨hhi,h2⟩,fun y hy z hz=>?_⟩
 rcases List.mem_cons.1 hz with rfl|hz
 ·exact hlo y hy
 exact (hlo y hy).trans (hhi z hz)
theorem A6n {l:List Ag}{x:Ag}(h:l.Pairwise Ex):(Jd l x).1.Pairwise Ex:=by
 unfold Jd
 split
 ·exact h
 exact B1h (h.sublist List.filter_sublist)
theorem Y2 {k:Int}{l:List Ag}{x:Ag}(h:l.Pairwise Ex):(Dv k l x).1.Pairwise Ex:=by
 unfold Dv
 split
 ·exact A6n h
 split
 ·split
  ·exact h
  exact B1h h
 exact h
theorem Yp {x:Aq}{k v:Int}(hx:Jh x)(h:Mo k v):Mo (C8 x k v).1 (C8 x k v).2.1:=by
 obtain ⟨_,h2,_,h4,_⟩:=hx
 unfold C8
 obtain ⟨⟨a1,a2⟩,a3,a4⟩:=h
 have hm:=Int.tmod_lt_of_pos (k+x.a) (show (0:Int)<100 by decide)
 (repeat' split)<;>simp only [Mo] at * <;>(try (rename_i hk;have:=h2 hk))<;>(try (rename_i hk;have:=h4 hk;have:=Int.tmod_nonneg 100 (show 0≤k+x.a by omega)))<;>omega
theorem Se {s:Ec}(h:(Dd s).2=true):(Dd s).1=⟨s.epoch,s.turn+1⟩∧(0≤s.epoch∧s.epoch≤3)∧0≤s.turn∧s.turn<6:=by
 unfold Dd at *
 split at h
 ·rename_i hs
  rw [if_pos hs]
  have:=of_decide_eq_true hs.1
  exact ⟨rfl,this.1,this.2.1,hs.2⟩
 cases h
theorem Xs {g:Ap}{op:Int}(h:Fj g)(h0:0≤op)(h1:op<g.nodes.length):Nt g op.toNat:=h.2.2.2 op.toNat Ab
theorem A9l {g:Ap}{r:Ae}(h:Kh g r):Ra g.nodes.length (Mm g r):=by
 obtain ⟨hg,hr,ho⟩:=h
 obtain ⟨r1,r2,r3,r4,r5⟩:=hr
 have hn:=Xs hg r1.1 ho
 have hc:=Yp (k:=r.key) (v:=r.val) hn.1 ⟨r4,r5⟩
 unfold Mm
 intro q hq
 split at hq
 ·simp at hq
 rename_i hb
 obtain ⟨k,hk,rfl⟩:=List.mem_map.1 hq
 have he:=hn.2.2 k hk
 have hk7:=hn.1.2.2.2.2.2.2.2.2 k hk
 refine ⟨⟨hk7,?_,?_,hc.1,hc.2⟩,he.1⟩
 ·simp only
  split
  ·rename_i h7
   have:=Se (s:=r.stamp) (by simpa [h7] using hb)
   rw [this.1];exact this.2.1
  exact r2
 simp only
 split
 ·rename_i h7
  have:=Se (s:=r.stamp) (by simpa [h7] using hb)
  rw [this.1];simp only;omega
 exact r3
theorem Vu {g:Ap}{cs:List Ag}{r:Ae}:Ra g.nodes.length (F3 g cs r).2.1:=by
 unfold F3
 split
 ·rename_i h
  (repeat' split)
  ·intro q hq;simp at hq
  ·intro q hq;simp at hq
  exact A9l h
 intro q hq;simp at hq
theorem A78 {g:Ap}{cs:List Ag}{r:Ae}(h:cs.Pairwise Ex):(F3 g cs r).1.Pairwise Ex:=by
 unfold F3
 (repeat' split)
 ·exact h
 ·exact Y2 h
 ·exact Y2 h
 exact h
theorem A65 {g:Ap}{r:Ae}(h:Kh g r):(Mm g r).length≤2:=by
 unfold Mm
 have:=(Xs h.1 h.2.1.1.1 h.2.2).1.2.2.2.2.2.1
 split
 ·simp
 rw [List.length_map];exact this
theorem A4l {g:Ap}{cs:List Ag}{r:Ae}:(F3 g cs r).2.1.length≤2:=by
 unfold F3
 split
 ·rename_i h
  (repeat' split)
  ·simp
  ·simp
  exact A65 h
 simp
theorem A5y {l:List Ag}{x:Ag}:(Cs l x).length≤l.length+1:=by
 unfold Cs
 split
 ·omega
 have:=U4 (fun y=>!decide (Iv y x<0)) l
 simp only [List.length_append,List.length_cons,List.length_take,List.length_drop,Ie]
 omega
theorem V7 {k:Int}{l:List Ag}{x:Ag}:(Dv k l x).1.length≤l.length+1:=by
 unfold Dv
 split
 ·unfold Jd
  split
  ·simp
  have h1:=A5y (l:=l.filter fun y=>!Bt x y) (x:=x)
  have h2:=List.length_filter_le (fun y=>!Bt x y) l
  simp only
  omega
 split
 ·split
  ·simp
  exact A5y
 simp
theorem A2p {g:Ap}{cs:List Ag}{r:Ae}:(F3 g cs r).1.length≤cs.length+1:=by
 unfold F3
 (repeat' split)
 ·simp
 ·exact V7
 ·exact V7
 simp
theorem A7e {l:List Ae}(h:A6d l):A6d (l.drop 1):=by
 intro i hi
 obtain ⟨h1,h2,h3⟩:=h (i+1) (by simp at hi;omega)
 have e:∀j,(l.drop 1).getD j default=l.getD (j+1) default:=fun j=>by simp [List.getD,Nat.add_comm]
 refine ⟨by rw [e];exact h1,by rw [e];exact h2,fun h0=>?_⟩
 rw [e,e,show i-1+1=i by omega]
 exact h3 Ab
theorem O0 {n k:Nat}{l:List Ae}(h:Ra n l):Ra n (l.drop k):=fun r hr=>h r (List.mem_of_mem_drop hr)
theorem Rt {n:Nat}{l:List Ae}{r:Ae}(h:Ra n l)(hr:Hs r∧r.op<n):Ra n (l++[r]):=fun q hq=>by
 rcases List.mem_append.1 hq with hq|hq
 ·exact h q hq
 rw [List.mem_singleton.1 hq];exact hr
theorem A8f {g:Ap}{w:A9}(h:Cx g.nodes.length w):Cx g.nodes.length (Ij g w):=by
 obtain ⟨⟨a1,a2,a3,a4⟩,⟨l1,l2,l3⟩,hi,hs,hd⟩:=h
 refine ⟨⟨O0 a1,Vu,a3,Tw.2 (A78 (Tw.1 a4))⟩,⟨l1,l2,?_⟩,hi,hs,hd⟩
 simp only [Ij]
 split
 ·rw [List.length_set];exact l3
 exact l3
theorem A0s {n:Nat}{w:A9}(h:Cx n w)(h0:0<w.inputs.length):Cx n (J3 w):=by
 obtain ⟨⟨a1,a2,a3,a4⟩,hl,hi,hs,hd⟩:=h
 exact ⟨⟨Rt a1 (a3 _ (B8 h0)),a2,O0 a3,a4⟩,hl,A7e hi,hs,hd⟩
theorem Z7 {n:Nat}{w:A9}{r:Ae}(h:Cx n w)(hr:Hs r∧r.op<n):Cx n (kept w r):=by
 obtain ⟨⟨a1,a2,a3,a4⟩,hl,hi,hs,hd⟩:=h
 exact ⟨⟨Rt a1 hr,a2,a3,a4⟩,hl,hi,hs,hd⟩
theorem Pq {n:Nat}{w:A9}(h:Cx n w):Cx n (Ei w):=by
 obtain ⟨⟨a1,a2,a3,a4⟩,hl,hi,hs,hd⟩:=h
 exact ⟨⟨a1,O0 a2,a3,a4⟩,hl,hi,hs,hd⟩
theorem Tu {n:Nat}{w:A9}{e:Int}{b:Bool}(h:Cx n w):Cx n ⟨w.queue,w.staged,w.inputs,w.cells,w.sums,w.black.set e.toNat b,w.caps,w.dones⟩:=by
 obtain ⟨ha,⟨l1,l2,l3⟩,hi,hs,hd⟩:=h
 exact ⟨ha,⟨l1,by simpa using l2,l3⟩,hi,hs,hd⟩
theorem A43 {n:Nat}{w:A9}{e k:Int}(h:Cx n w)(h1:0≤e∧e≤3):Cx n (Fe w e k)↔I4 (w.sums.getD e.toNat default+k):=by
 obtain ⟨ha,⟨l1,l2,l3⟩,hi,hs,hd⟩:=h
 have hlt:e.toNat<w.sums.length:=by omega
 constructor
 ·rintro ⟨_,_,_,hs',_⟩
  have:=hs' (w.sums.getD e.toNat default+k) (by simp only [Fe];exact List.mem_set hlt _)
  exact this
 intro hk
 refine ⟨ha,⟨by simpa [Fe] using l1,l2,l3⟩,hi,fun m hm=>?_,hd⟩
 simp only [Fe] at hm
 rcases List.mem_or_eq_of_mem_set hm with h|rfl
 ·exact hs m h
 exact hk
theorem A06 {n:Nat}{w:A9}{e:Int}{b:Bool}(h:Cx n w)(h1:0≤e∧e≤3)(h2:Gf w e=false):Cx n (H2 w ⟨e,b⟩):=by
 obtain ⟨ha,hl,hi,hs,hd⟩:=h
 refine ⟨ha,hl,hi,hs,fun i hi'=>?_⟩
 simp only [H2,List.length_append,List.length_singleton] at hi'
 have e1:∀j,j<w.dones.length→(w.dones++[(⟨e,b⟩:Ep)]).getD j default=w.dones.getD j default:=fun j hj=>by simp [List.getD,List.getElem?_append_left hj]
 have e2:(w.dones++[(⟨e,b⟩:Ep)]).getD w.dones.length default=⟨e,b⟩:=by simp [List.getD]
 simp only [H2]
 by_cases hlt:i<w.dones.length
 ·obtain ⟨d1,d2⟩:=hd i hlt
  exact ⟨by rw [e1 i hlt];exact d1,fun k hk=>by rw [e1 i hlt,e1 k Ab];exact d2 k hk⟩
 obtain rfl:i=w.dones.length:=by omega
 refine ⟨by rw [e2];exact h1,fun k hk=>?_⟩
 rw [e2,e1 k hk]
 intro hc
 have:Gf w e=true:=List.any_eq_true.2 ⟨w.dones.getD k default,B8 hk,by simpa using hc⟩
 rw [h2] at this
 cases this
theorem Hi {α:Type}{l:List α}{i:Nat}{a x:α}(h:x∈l.set i a):x∈l∨x=a:=List.mem_or_eq_of_mem_set h
theorem Ha {c:A5}{j:Int}{w:A9}(h:B6 c)(hj:0≤j∧j<c.workers.length):B6 (Bb c j w)↔Cx c.graph.nodes.length w:=by
 obtain ⟨⟨g1,g2,g3,g4⟩,hw,hl,ht,hn⟩:=h
 have hlt:j.toNat<c.workers.length:=by omega
 constructor
 ·rintro ⟨_,hw',_⟩
  exact hw' w (by simp only [Bb];exact List.mem_set hlt _)
 intro h
 refine ⟨⟨g1,by simpa [Bb] using g2,g3,g4⟩,fun x hx=>?_,hl,ht,hn⟩
 rcases Hi hx with hx|rfl
 ·exact hw x hx
 exact h
theorem Rw {c:A5}{k:Int}{l:Bv}(h:B6 c)(hl':G1 l∧X0 c k.toNat l):B6 (Cd c k l):=by
 obtain ⟨⟨g1,g2,g3,g4⟩,hw,hl,ht,hn⟩:=h
 refine ⟨⟨g1,g2,by simpa [Cd] using g3,g4⟩,hw,fun i hi=>?_,ht,hn⟩
 simp only [Cd,List.length_set] at hi
 show G1 ((c.links.set k.toNat l).getD i default)∧X0 c i ((c.links.set k.toNat l).getD i default)
 by_cases e:i=k.toNat
 ·subst e
  rw [Sx.getD_set_self _ _ _ _ hi]
  exact hl'
 rw [Sx.getD_set_ne _ _ _ _ _ e]
 exact hl i hi
theorem K1 {c:A5}{f t:Int}(h:B6 c)(hf:0≤f∧f<c.graph.workers)(ht:0≤t∧t<c.graph.workers):
  (0≤B0 c f t∧B0 c f t<c.links.length)∧((B0 c f t).toNat:Int).tdiv c.graph.workers=f∧((B0 c f t).toNat:Int).tmod c.graph.workers=t:=by
 have hl:=h.1.2.2.1
 have hn:=h.1.1.2.1
 unfold B0
 have hw:c.graph.workers=1∨c.graph.workers=2∨c.graph.workers=3∨c.graph.workers=4:=by omega
 have h0:0≤f * c.graph.workers:=Int.mul_nonneg hf.1 Ab
 have hfw:f=0∨f=1∨f=2∨f=3:=by omega
 have htw:t=0∨t=1∨t=2∨t=3:=by omega
 rw [hl]
 generalize c.graph.workers=n at *
 rcases hw with rfl|rfl|rfl|rfl<;>rcases hfw with rfl|rfl|rfl|rfl<;>rcases htw with rfl|rfl|rfl|rfl<;>first|omega|(refine ⟨⟨by decide,by decide⟩,by decide,by decide⟩)
theorem Ql {c:A5}{k:Int}(h:B6 c)(hk:0≤k∧k<c.links.length):G1 (Bz c k)∧X0 c k.toNat (Bz c k):=h.2.2.1 k.toNat Ab
theorem A72 {l:Bv}{r:Ae}(h:G1 l):G1 (Co l r).1:=by
 unfold Co
 split
 ·rename_i hs
  obtain ⟨⟨h1,h2,h3,h4,h5,h6,h7⟩,hq⟩:=h
  obtain ⟨_,hr,hc,hs⟩:=hs
  refine ⟨?_,fun q hq'=>?_⟩
  ·simp only [X1,List.length_append,List.length_singleton]
   omega
  rcases List.mem_append.1 hq' with hq'|hq'
  ·exact hq q hq'
  rw [List.mem_singleton.1 hq'];exact hr
 exact h
theorem A2t {l:Bv}(h:G1 l):G1 (C1 l).1:=by
 unfold C1
 split
 ·rename_i hs
  obtain ⟨⟨h1,h2,h3,h4,h5,h6,h7⟩,hq⟩:=h
  refine ⟨?_,fun q hq'=>hq q (List.mem_of_mem_drop hq')⟩
  simp only [X1,List.length_drop]
  omega
 exact h
theorem W5 {l:Bv}(h:G1 l):G1 (D6 l).1:=by
 unfold D6
 split
 ·rename_i hs
  obtain ⟨⟨h1,h2,h3,h4,h5,h6,h7⟩,hq⟩:=h
  refine ⟨?_,hq⟩
  simp only [X1]
  omega
 exact h
theorem A34 {k n:Int}(hk:0≤k)(hn:1≤n):0≤F1 k n∧F1 k n<n:=by
 have h1:=Int.tmod_lt_of_pos k (show 0<n by omega)
 have h2:=Int.tmod_nonneg n hk
 unfold F1
 (repeat' split)<;>omega
theorem A8e {c:A5}{w:Int}(h:Gz c w):B6 (Bb c w (Fk c.graph (Ad c w)).1):=by
 obtain ⟨hc,h0,h1⟩:=h
 have hw:=hc.2.1 _ (B8 (d:=default) (show w.toNat<c.workers.length by omega))
 refine (Ha hc ⟨h0,h1⟩).2 ?_
 unfold Fk
 split
 ·exact A8f hw
 exact hw
theorem A13 {c:A5}{w:Int}(h:B6 c):B6 (Eh c w).1:=by
 unfold Eh
 split
 ·exact A8e ‹_›
 exact h
theorem Zl {c:A5}{w:Int}(h:B6 c):B6 (Du c w).1:=by
 unfold Du
 split
 ·rename_i hW
  obtain ⟨hc,h0,h1⟩:=hW
  have hw:=hc.2.1 _ (B8 (d:=default) (show w.toNat<c.workers.length by omega))
  refine (Ha hc ⟨h0,h1⟩).2 ?_
  unfold Dm
  split
  ·rename_i hi;exact A0s hw hi.2.2.2.2
  exact hw
 exact h
theorem Mk {c:A5}{w:Int}(hc:B6 c)(h:0≤w∧w<c.workers.length):Cx c.graph.nodes.length (Ad c w):=hc.2.1 _ (B8 (d:=default) (show w.toNat<c.workers.length by omega))
theorem Qe {c:A5}{w:Int}(h:Gz c w)(hs:0<(Ad c w).staged.length):Hs (Be c w)∧(Be c w).op<c.graph.nodes.length:=(Mk h.1 h.2).1.2.1 _ (B8 hs)
theorem Xq {c:A5}{w:Int}(h:Gz c w)(hs:0<(Ad c w).staged.length):0≤Ba c w∧Ba c w<c.graph.workers:=
 A34 (Qe h hs).1.2.2.2.1.1 h.1.1.1.2.1.1
theorem Uo {c:A5}{w:Int}(h:Gz c w)(hs:0<(Ad c w).staged.length)(hne:Ba c w≠w):B6 (Cd c (B0 c w (Ba c w)) (Co (Bz c (B0 c w (Ba c w))) (Be c w)).1):=by
 have hw:0≤w∧w<c.graph.workers:=by have:=h.1.1.2.1;exact ⟨h.2.1,by have:=h.2.2;omega⟩
 obtain ⟨b1,b2,b3⟩:=K1 h.1 hw (Xq h hs)
 obtain ⟨k1,k2,k3,k4⟩:=Ql h.1 b1
 refine Rw h.1 ⟨A72 k1,?_⟩
 unfold Co
 split
 ·exact ⟨k2,Rt k3 (Qe h hs),fun e=>absurd (by rw [b2,b3] at e;exact e.symm) hne⟩
 exact ⟨k2,k3,k4⟩
def Ze (c:A5) (w:Int):Int:=(Ad c w).sums.getD (Be c w).stamp.epoch.toNat default+1
theorem Sq {n:Nat}{w:A9}{e:Int}(h:Cx n w)(he:0≤e∧e≤3):Hm w e=Fe w e 1:=by
 have:=h.2.1.1
 unfold Hm
 rw [if_pos Ab]
theorem Nf {c:A5}{w:Int}(h:B6 c):B4 (Cg c w).1=(if (Cg c w).2=true∧Ba c w≠w then decide (I4 (Ze c w)) else true):=by
 unfold Cg
 by_cases hm:Gz c w∧0<(Ad c w).staged.length
 ·obtain ⟨hW,hs⟩:=hm
  rw [if_pos ⟨hW,hs⟩]
  have hfo:=Qe hW hs
  by_cases hself:Ba c w=w
  ·simp only [hself,if_true,ne_eq,not_true_eq_false,and_false,if_false]
   exact decide_eq_true ((Ha h hW.2).2 (Z7 (Pq (Mk h hW.2)) hfo))
  rw [if_neg hself]
  by_cases hsend:(Co (Bz c (B0 c w (Ba c w))) (Be c w)).2=true
  ·rw [if_pos hsend]
   simp only [true_and,if_pos hself,ne_eq,hself,not_false_eq_true,and_self,if_true]
   have hc2:=Uo hW hs hself
   unfold B4
   refine decide_eq_decide.2 ?_
   have hw:=Pq (Mk h hW.2)
   rw [Ha hc2 hW.2,Sq hw hfo.1.2.1]
   exact A43 hw hfo.1.2.1
  rw [if_neg hsend]
  simp only [Bool.false_eq_true,false_and,if_false]
  exact decide_eq_true h
 rw [if_neg hm]
 simp only [Bool.false_eq_true,false_and,if_false]
 exact decide_eq_true h
theorem Vw {c:A5}{f t:Int}(h:Lj c f t):B6 (Cd c (B0 c f t) (C1 (Bz c (B0 c f t))).1):=by
 obtain ⟨b1,b2,b3⟩:=K1 h.1 h.2.2.1 h.2.2.2
 obtain ⟨k1,k2,k3,k4⟩:=Ql h.1 b1
 refine Rw h.1 ⟨A2t k1,?_⟩
 unfold C1
 split
 ·exact ⟨k2,O0 k3,fun e=>absurd (by rw [b2,b3] at e;exact e) h.2.1⟩
 exact ⟨k2,k3,k4⟩
def Jf (c:A5) (f t:Int):Ae:=(C1 (Bz c (B0 c f t))).2.1
theorem A2v {c:A5}{f t:Int}(h:Lj c f t)(hk:(C1 (Bz c (B0 c f t))).2.2=true):Hs (Jf c f t)∧(Jf c f t).op<c.graph.nodes.length:=by
 obtain ⟨b1,b2,b3⟩:=K1 h.1 h.2.2.1 h.2.2.2
 obtain ⟨k1,k2,k3,k4⟩:=Ql h.1 b1
 unfold Jf
 unfold C1 at hk ⊢
 split at hk
 ·rename_i hp
  rw [if_pos hp]
  exact k3 _ (B8 hp.2)
 cases hk
def A0b (c:A5) (f t:Int):Int:=(Ad c t).sums.getD (Jf c f t).stamp.epoch.toNat default+ -1
theorem Sl {n:Nat}{w:A9}{r:Ae}(h:Cx n w)(he:0≤r.stamp.epoch∧r.stamp.epoch≤3):En w r=I8 (Fe (kept w r) r.stamp.epoch (-1)) r.stamp.epoch:=by
 have:=h.2.1.1
 have:=h.2.1.2.1
 unfold En
 rw [if_pos Ab]
theorem X6 {n:Nat}{w:A9}{e:Int}{b:Bool}:Cx n ⟨w.queue,w.staged,w.inputs,w.cells,w.sums,w.black.set e.toNat b,w.caps,w.dones⟩↔Cx n w:=by
 refine ⟨fun h=>?_,Tu⟩
 obtain ⟨ha,⟨l1,l2,l3⟩,hi,hs,hd⟩:=h
 exact ⟨ha,⟨l1,by simpa using l2,l3⟩,hi,hs,hd⟩
theorem Si {c:A5}{f t:Int}(h:B6 c):B4 (Dh c f t).1=(if (Dh c f t).2=true then decide (I4 (A0b c f t)) else true):=by
 unfold Dh
 by_cases hm:Lj c f t∧(C1 (Bz c (B0 c f t))).2.2=true
 ·rw [if_pos hm]
  obtain ⟨hL,hk⟩:=hm
  have hto:=A2v hL hk
  have hc2:=Vw hL
  have ht:0≤t∧t<c.workers.length:=by have:=h.1.2.1;have:=hL.2.2.2;omega
  simp only [if_true]
  unfold B4
  refine decide_eq_decide.2 ?_
  rw [Ha hc2 ht]
  have hw:=Mk h ht
  show Cx _ (En (Ad c t) (Jf c f t))↔_
  rw [Sl hw hto.1.2.1]
  exact (X6 (w:=Fe (kept (Ad c t) (Jf c f t)) (Jf c f t).stamp.epoch (-1))).trans (A43 (Z7 hw hto) hto.1.2.1)
 rw [if_neg hm]
 simp only [Bool.false_eq_true,if_false]
 exact decide_eq_true h
theorem Wg {c:A5}{f t:Int}(h:B6 c):B6 (Dr c f t).1:=by
 unfold Dr
 split
 ·rename_i hL
  obtain ⟨b1,b2,b3⟩:=K1 h hL.2.2.1 hL.2.2.2
  obtain ⟨k1,k2,k3,k4⟩:=Ql h b1
  refine Rw h ⟨W5 k1,?_⟩
  unfold D6
  split
  ·exact ⟨k2,k3,k4⟩
  exact ⟨k2,k3,k4⟩
 exact h
theorem A5n {c:A5}{l:List Fy}(h:B6 c)(hl:∀x∈l,Ml c.graph.workers x):B6 ⟨c.graph,c.workers,c.links,c.tokens,l⟩:=⟨h.1,h.2.1,h.2.2.1,h.2.2.2.1,hl⟩
theorem Rr {c:A5}{w:Int}(h:B6 c)(hn:c.news.any (Kx w)=true):Gt c w∈c.news∧(Gt c w).to_=w:=by
 obtain ⟨x,hx,hw⟩:=List.any_eq_true.1 hn
 have hlt:Ph c w<c.news.length:=by
  by_cases hlt:Ph c w<c.news.length
  ·exact hlt
  have:=U4 (Kx w) c.news
  have he:Ga (Kx w) c.news=c.news.length:=by unfold Ph at hlt;omega
  have:=Pa (Kx w) c.news x (by rw [he,List.take_length];exact hx)
  rw [hw] at this;cases this
 have:=U3 (Kx w) c.news hlt
 exact ⟨B8 hlt,eq_of_beq this⟩
theorem A1d {c:A5}{w:Int}(h:B6 c):B6 (E8 c w).1:=by
 unfold E8
 split
 ·rename_i hn
  have hh:B6 (Ks c w):=A5n h fun x hx=>h.2.2.2.2 x (List.mem_of_mem_eraseIdx hx)
  obtain ⟨m1,m2⟩:=Rr h hn.2
  have hN:=h.2.2.2.2 _ m1
  have hw:0≤w∧w<c.workers.length:=by have:=h.1.2.1;have:=hN.1;omega
  split
  ·exact hh
  rename_i hd
  have hwk:=A06 (b:=(Gt c w).capped) (Mk h hw) hN.2 (by simpa using hd)
  exact (Ha hh hw).2 hwk
 exact h
theorem Rx {c:A5}{e:Int}{t:D0}(h:B6 c)(ht:My c.graph.workers t):B6 (Da c e t):=by
 obtain ⟨⟨g1,g2,g3,g4⟩,hw,hl,htt,hn⟩:=h
 refine ⟨⟨g1,g2,g3,by simpa [Da] using g4⟩,hw,hl,fun x hx=>?_,hn⟩
 rcases Hi hx with hx|rfl
 ·exact htt x hx
 exact ht
theorem A0e {c:A5}{e:Int}(h:B6 c):B6 (Cu c e).1:=by
 unfold Cu
 split
 ·rename_i hT
  obtain ⟨_,he,hD,hP⟩:=hT
  have htl:=h.1.2.2.2
  have hTP:My c.graph.workers (Af c e):=h.2.2.2.1 _ (B8 (d:=default) (show e.toNat<c.tokens.length by omega))
  have hn1:=h.1.1.2.1
  have hwl:=h.1.2.1
  have hat:0≤(Af c e).at_∧(Af c e).at_<c.workers.length:=by have:=hTP.1;omega
  have hwk:=Mk h hat
  simp only
  split
  ·have h1:My c.graph.workers ⟨true,(c.workers.length:Int)-1,0,false,(Ad c (Af c e).at_).caps.getD e.toNat default⟩:=⟨⟨by show (0:Int)≤(c.workers.length:Int)-1;omega,by show (c.workers.length:Int)-1≤_;omega⟩,(fun hc=>Bool.noConfusion hc),(by show (-1000000:Int)≤0;decide),(by show (0:Int)≤1000000;decide)⟩
   exact (Ha (Rx (e:=e) h h1) hat).2 (Tu hwk)
  split
  ·split
   ·rename_i hg ha hs
    have h1:My c.graph.workers ⟨(Af c e).going,(Af c e).at_-1,(Af c e).sum+(Ad c (Af c e).at_).sums.getD e.toNat default,(Af c e).black||(Ad c (Af c e).at_).black.getD e.toNat default,(Af c e).capped||(Ad c (Af c e).at_).caps.getD e.toNat default⟩:=
     ⟨⟨by show 0≤(Af c e).at_-1;omega,by show (Af c e).at_-1≤_;have:=hTP.1;omega⟩,fun hc=>absurd hc hg,hs⟩
    exact (Ha (Rx (e:=e) h h1) hat).2 (Tu hwk)
   exact h
  rename_i hg ha
  have hA:(Af c e).at_=0:=by have:=hTP.1;omega
  have hc1:B6 (Da c e ⟨false,(Af c e).at_,(Af c e).sum,(Af c e).black,(Af c e).capped⟩):=Rx h ⟨hTP.1,fun _=>hA,hTP.2.2⟩
  unfold It
  split
  ·have hw0:(0:Int)≤0∧(0:Int)<c.workers.length:=by omega
   have hd0:Gf (Ad c (Af c e).at_) e=false:=by rw [hA];exact hD
   have hdw:=A06 (b:=((Af c e).capped||(Ad c (Af c e).at_).caps.getD e.toNat default)) hwk he hd0
   have hw1:=(Ha (j:=0) hc1 hw0).2 hdw
   refine A5n hw1 fun x hx=>?_
   rcases List.mem_append.1 hx with hx|hx
   ·exact h.2.2.2.2 x hx
   obtain ⟨i,hi,rfl⟩:=List.mem_map.1 hx
   have:=List.mem_range.1 hi
   have hl2:(Da c e ⟨false,(Af c e).at_,(Af c e).sum,(Af c e).black,(Af c e).capped⟩).workers.length=c.workers.length:=rfl
   rw [hl2] at this
   refine ⟨⟨by show (0:Int)≤(i:Int)+1;omega,?_⟩,he⟩
   show (i:Int)+1≤c.graph.workers-1
   omega
  exact hc1
 exact h
theorem T0 {c : A5} {p : Cz} (h : B6 c) : B4 (Ar c p).1 =
    (if p.kind = 3 then (if (Cg c p.a).2 = true ∧ Ba c p.a ≠ p.a then decide (I4 (Ze c p.a)) else true)
     else if p.kind = 4 then (if (Dh c p.a p.b).2 = true then decide (I4 (A0b c p.a p.b)) else true) else true) := by
  unfold Ar
  by_cases h1 : p.kind = 1
  · rw [if_pos h1, if_neg Ab, if_neg Ab]; exact decide_eq_true (A13 h)
  by_cases h2 : p.kind = 2
  · rw [if_neg h1, if_pos h2, if_neg Ab, if_neg Ab]; exact decide_eq_true (Zl h)
  by_cases h3 : p.kind = 3
  · rw [if_neg h1, if_neg h2, if_pos h3, if_pos h3]; exact Nf h
  by_cases h4 : p.kind = 4
  · rw [if_neg h1, if_neg h2, if_neg h3, if_pos h4, if_neg h3, if_pos h4]; exact Si h
  by_cases h5 : p.kind = 5
  · rw [if_neg h1, if_neg h2, if_neg h3, if_neg h4, if_pos h5, if_neg h3, if_neg h4]; exact decide_eq_true (Wg h)
  by_cases h6 : p.kind = 6
  · rw [if_neg h1, if_neg h2, if_neg h3, if_neg h4, if_neg h5, if_pos h6, if_neg h3, if_neg h4]; exact decide_eq_true (A0e h)
  by_cases h7 : p.kind = 7
  · rw [if_neg h1, if_neg h2, if_neg h3, if_neg h4, if_neg h5, if_neg h6, if_pos h7, if_neg h3, if_neg h4]; exact decide_eq_true (A1d h)
  · rw [if_neg h1, if_neg h2, if_neg h3, if_neg h4, if_neg h5, if_neg h6, if_neg h7, if_neg h3, if_neg h4]; exact decide_eq_true h
end Go.Proofs.YtdendlkeiaccpaaGreatDoor
