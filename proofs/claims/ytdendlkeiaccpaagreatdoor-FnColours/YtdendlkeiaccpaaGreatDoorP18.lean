/- Part 18 of the proof that each of the laws FnColours returns true for every input. No conditions. -/
import Derived.Test.YtdendlkeiaccpaaGreatDoorP15
import Derived.Test.YtdendlkeiaccpaaGreatDoorP17

set_option linter.unusedSimpArgs false
set_option linter.unusedVariables false
set_option maxRecDepth 100000
namespace Go.Proofs.YtdendlkeiaccpaaGreatDoor
open Go.Sx
def F9 (a b:Bj):Prop:=a.epoch<b.epoch∨(a.epoch=b.epoch∧(a.op<b.op∨(a.op=b.op∧(a.key<b.key∨(a.key=b.key∧a.val<b.val)))))
theorem N6 {a b:Bj}:Ja a b<0↔F9 a b:=by
 simp only [Ja,Lr,Ot,Ka,F9]
 (repeat' split)<;>omega
theorem F9.trans {a b c:Bj}(h:F9 a b)(h':F9 b c):F9 a c:=by
 simp only [F9] at *
 omega
theorem F9.tri {a b:Bj}(h:a≠b)(h':¬ F9 a b):F9 b a:=by
 obtain ⟨a1,a2,a3,a4⟩:=a
 obtain ⟨b1,b2,b3,b4⟩:=b
 simp only [F9,ne_eq,Bj.mk.injEq] at *
 omega
theorem Vq:∀{l:List Bj},Mu l↔l.Pairwise F9
 | []=>by simp [Mu]
 | [x]=>by simp [Mu]
 |x::y::r=>by
  have ih:=Vq (l:=y::r)
  have h1:Mu (x::y::r)↔F9 x y∧Mu (y::r):=by
   constructor
   ·intro h
    refine ⟨N6.1 (by simpa using h 0 Cv),fun i hi=>?_⟩
    simpa using h (i+1) (by simp at hi ⊢;omega)
   rintro ⟨h1,h2⟩ i hi
   cases i with
   |zero=>simpa using N6.2 h1
   |succ i=>simpa using h2 i (by simp at hi ⊢;omega)
  rw [h1,ih,List.pairwise_cons (a:=x)]
  constructor
  ·rintro ⟨h1,h2⟩
   refine ⟨fun z hz=>?_,h2⟩
   rcases List.mem_cons.1 hz with rfl|hz
   ·exact h1
   exact h1.trans ((List.pairwise_cons.1 h2).1 z hz)
  rintro ⟨h1,h2⟩
  exact ⟨h1 y Cv,h2⟩
theorem Rv {α:Type}(p:α→Bool):∀l:List α,Fm p l≤l.length
 | []=>by simp [Fm]
 |x::r=>by
  have:=Rv p r
  simp only [Fm]
  split<;>simp<;>omega
theorem N9 {α:Type}(p:α→Bool):∀l:List α,∀x∈l.take (Fm p l),p x=false
 | []=>by simp [Fm]
 |x::r=>by
  intro y hy
  simp only [Fm] at hy
  split at hy
  ·simp at hy
  rename_i hx
  simp only [List.take_succ_cons,List.mem_cons] at hy
  rcases hy with rfl|hy
  ·simpa using hx
  exact N9 p r y hy
theorem Vz {α:Type} [Inhabited α] (p:α→Bool):∀l:List α,Fm p l<l.length→p (l.getD (Fm p l) default)=true
 | []=>by simp [Fm]
 |x::r=>by
  intro h
  simp only [Fm] at h ⊢
  split at h
  ·rename_i hx
   simp [hx]
  rename_i hx
  rw [if_neg hx]
  simpa using Vz p r (by simpa using h)
theorem A72 {l:List Bj}{x y:Bj}:y∈Gl l x↔y∈l∨y=x:=by
 unfold Gl
 split
 ·rename_i h
  constructor
  ·exact .inl
  rintro (h'|rfl)
  ·exact h'
  obtain ⟨z,hz,e⟩:=List.any_eq_true.1 h
  obtain rfl:=of_decide_eq_true e
  exact hz
 have:y∈l↔y∈l.take (Ku l x)∨y∈l.drop (Ku l x):=by rw [←List.mem_append,List.take_append_drop]
 rw [List.mem_append,List.mem_cons,this]
 constructor
 ·rintro (h|h|h)
  ·exact .inl (.inl h)
  ·exact .inr h
  exact .inl (.inr h)
 rintro ((h|h)|h)
 ·exact .inl h
 ·exact .inr (.inr h)
 exact .inr (.inl h)
theorem B35 {l:List Bj}{x:Bj}(h:l.Pairwise F9):(Gl l x).Pairwise F9:=by
 unfold Gl
 split
 ·exact h
 rename_i hn
 have hx:x∉l:=fun hm=>hn (List.any_eq_true.2 ⟨x,hm,by simp⟩)
 have e:=(List.take_append_drop (Ku l x) l).symm
 rw [e] at h
 obtain ⟨h1,h2,h3⟩:=List.pairwise_append.1 h
 have hlo:∀y∈l.take (Ku l x),F9 y x:=fun y hy=>by
  have:=N9 _ l y hy
  simp only [Bool.not_eq_false',decide_eq_true_eq] at this
  exact N6.1 this
 have hhi:∀y∈l.drop (Ku l x),F9 x y:=by
  by_cases hk:Ku l x<l.length
  ·have hat:=Vz (fun y=>!decide (Ja y x<0)) l hk
   simp only [Bool.not_eq_true',decide_eq_false_iff_not] at hat
   have hat:¬ F9 (l.getD (Ku l x) default) x:=fun hc=>hat (N6.2 hc)
   have hne:l.getD (Ku l x) default≠x:=fun e=>hx (e▸Ay hk)
   have h0:=F9.tri hne hat
   intro y hy
   rw [List.drop_eq_getElem_cons hk] at hy h2
   have e0:l[Ku l x]=l.getD (Ku l x) default:=by simp [List.getD,hk]
   rw [e0] at hy h2
   rcases List.mem_cons.1 hy with rfl|hy
   ·exact h0
   exact h0.trans ((List.pairwise_cons.1 h2).1 y hy)
  rw [List.drop_of_length_le Ac];simp
 refine List.pairwise_append.2 ⟨h1,List.pairwise_cons.2 ⟨hhi,h2⟩,fun y hy z hz=>?_⟩
 rcases List.mem_cons.1 hz with rfl|hz
 ·exact hlo y hy
 exact (hlo y hy).trans (hhi z hz)
theorem A83 {l:List Bj}{x:Bj}(h:l.Pairwise F9):(Km l x).1.Pairwise F9:=by
 unfold Km
 split
 ·exact h
 exact B35 (h.sublist List.filter_sublist)
theorem Zq {k:Int}{l:List Bj}{x:Bj}(h:l.Pairwise F9):(Dx k l x).1.Pairwise F9:=by
 unfold Dx
 split
 ·exact A83 h
 split
 ·split
  ·exact h
  exact B35 h
 exact h
theorem A0p {x:Av}{k v:Int}(hx:K6 x)(h:O0 k v):O0 (Cj x k v).1 (Cj x k v).2.1:=by
 obtain ⟨_,h2,_,h4,_⟩:=hx
 unfold Cj
 obtain ⟨⟨a1,a2⟩,a3,a4⟩:=h
 have hm:=Int.tmod_lt_of_pos (k+x.a) (show (0:Int)<100 by decide)
 (repeat' split)<;>simp only [O0] at * <;>(try (rename_i hk;have:=h2 hk))<;>(try (rename_i hk;have:=h4 hk;have:=Int.tmod_nonneg 100 (show 0≤k+x.a by omega)))<;>omega
theorem Ox {s:Ea}(h:(Dk s).2=true):(Dk s).1=⟨s.epoch,s.turn+1⟩∧(0≤s.epoch∧s.epoch≤3)∧0≤s.turn∧s.turn<6:=by
 unfold Dk at *
 split at h
 ·rename_i hs
  rw [if_pos hs]
  have:=of_decide_eq_true hs.1
  exact ⟨rfl,this.1,this.2.1,hs.2⟩
 cases h
theorem Zd {g:Aq}{op:Int}(h:Ft g)(h0:0≤op)(h1:op<g.nodes.length):Ln g op.toNat:=h.2.2.2 op.toNat Ac
theorem B2d {g:Aq}{r:Ae}(h:Lo g r):Sr g.nodes.length (Lu g r):=by
 obtain ⟨hg,hr,ho⟩:=h
 obtain ⟨r1,r2,r3,r4,r5⟩:=hr
 have hn:=Zd hg r1.1 ho
 have hc:=A0p (k:=r.key) (v:=r.val) hn.1 ⟨r4,r5⟩
 unfold Lu
 intro q hq
 split at hq
 ·simp at hq
 rename_i hb
 obtain ⟨k,hk,rfl⟩:=List.mem_map.1 hq
 have he:=hn.2.2 k hk
 have hk7:=hn.1.2.2.2.2.2.2.2.2 k hk
 refine ⟨⟨hk7,?_,?_,hc.1,hc.2⟩,he.1⟩
 ·simp only
  split
  ·rename_i h7
   have:=Ox (s:=r.stamp) (by simpa [h7] using hb)
   rw [this.1];exact this.2.1
  exact r2
 simp only
 split
 ·rename_i h7
  have:=Ox (s:=r.stamp) (by simpa [h7] using hb)
  rw [this.1];simp only;omega
 exact r3
theorem Xp {g:Aq}{cs:List Bj}{r:Ae}:Sr g.nodes.length (F0 g cs r).2.1:=by
 unfold F0
 split
 ·rename_i h
  (repeat' split)
  ·intro q hq;simp at hq
  ·intro q hq;simp at hq
  exact B2d h
 intro q hq;simp at hq
theorem B0t {g:Aq}{cs:List Bj}{r:Ae}(h:cs.Pairwise F9):(F0 g cs r).1.Pairwise F9:=by
 unfold F0
 (repeat' split)
 ·exact h
 ·exact Zq h
 ·exact Zq h
 exact h
theorem A9m {g:Aq}{r:Ae}(h:Lo g r):(Lu g r).length≤2:=by
 unfold Lu
 have:=(Zd h.1 h.2.1.1.1 h.2.2).1.2.2.2.2.2.1
 split
 ·simp
 rw [List.length_map];exact this
theorem A6x {g:Aq}{cs:List Bj}{r:Ae}:(F0 g cs r).2.1.length≤2:=by
 unfold F0
 split
 ·rename_i h
  (repeat' split)
  ·simp
  ·simp
  exact A9m h
 simp
theorem A8g {l:List Bj}{x:Bj}:(Gl l x).length≤l.length+1:=by
 unfold Gl
 split
 ·omega
 have:=Rv (fun y=>!decide (Ja y x<0)) l
 simp only [List.length_append,List.length_cons,List.length_take,List.length_drop,Ku]
 omega
theorem X1 {k:Int}{l:List Bj}{x:Bj}:(Dx k l x).1.length≤l.length+1:=by
 unfold Dx
 split
 ·unfold Km
  split
  ·simp
  have h1:=A8g (l:=l.filter fun y=>!C4 x y) (x:=x)
  have h2:=List.length_filter_le (fun y=>!C4 x y) l
  simp only
  omega
 split
 ·split
  ·simp
  exact A8g
 simp
theorem A4r {g:Aq}{cs:List Bj}{r:Ae}:(F0 g cs r).1.length≤cs.length+1:=by
 unfold F0
 (repeat' split)
 ·simp
 ·exact X1
 ·exact X1
 simp
theorem A91 {l:List Ae}(h:A2i l):A2i (l.drop 1):=by
 intro i hi
 obtain ⟨h1,h2,h3⟩:=h (i+1) (by simp at hi;omega)
 have e:∀j,(l.drop 1).getD j default=l.getD (j+1) default:=fun j=>by simp [List.getD,Nat.add_comm]
 refine ⟨by rw [e];exact h1,by rw [e];exact h2,fun h0=>?_⟩
 rw [e,e,show i-1+1=i by omega]
 exact h3 Ac
theorem Ps {n k:Nat}{l:List Ae}(h:Sr n l):Sr n (l.drop k):=fun r hr=>h r (List.mem_of_mem_drop hr)
theorem Tc {n:Nat}{l:List Ae}{r:Ae}(h:Sr n l)(hr:H2 r∧r.op<n):Sr n (l++[r]):=fun q hq=>by
 rcases List.mem_append.1 hq with hq|hq
 ·exact h q hq
 rw [List.mem_singleton.1 hq];exact hr
theorem B00 {g:Aq}{w:Aa}(h:Cx g.nodes.length w):Cx g.nodes.length (Hg g w):=by
 obtain ⟨⟨a1,a2,a3,a4⟩,⟨l1,l2,l3⟩,hi,hs,hd⟩:=h
 refine ⟨⟨Ps a1,Xp,a3,Vq.2 (B0t (Vq.1 a4))⟩,⟨l1,l2,?_⟩,hi,hs,hd⟩
 simp only [Hg]
 split
 ·rw [List.length_set];exact l3
 exact l3
theorem A2o {n:Nat}{w:Aa}(h:Cx n w)(h0:0<w.inputs.length):Cx n (J7 w):=by
 obtain ⟨⟨a1,a2,a3,a4⟩,hl,hi,hs,hd⟩:=h
 exact ⟨⟨Tc a1 (a3 _ (Ay h0)),a2,Ps a3,a4⟩,hl,A91 hi,hs,hd⟩
theorem A09 {n:Nat}{w:Aa}{r:Ae}(h:Cx n w)(hr:H2 r∧r.op<n):Cx n (kept w r):=by
 obtain ⟨⟨a1,a2,a3,a4⟩,hl,hi,hs,hd⟩:=h
 exact ⟨⟨Tc a1 hr,a2,a3,a4⟩,hl,hi,hs,hd⟩
theorem Ny {n:Nat}{w:Aa}(h:Cx n w):Cx n (Dz w):=by
 obtain ⟨⟨a1,a2,a3,a4⟩,hl,hi,hs,hd⟩:=h
 exact ⟨⟨a1,Ps a2,a3,a4⟩,hl,hi,hs,hd⟩
theorem Vm {n:Nat}{w:Aa}{e:Int}{b:Bool}(h:Cx n w):Cx n ⟨w.queue,w.staged,w.inputs,w.cells,w.sums,w.black.set e.toNat b,w.caps,w.dones⟩:=by
 obtain ⟨ha,⟨l1,l2,l3⟩,hi,hs,hd⟩:=h
 exact ⟨ha,⟨l1,by simpa using l2,l3⟩,hi,hs,hd⟩
theorem A7f {n:Nat}{w:Aa}{e k:Int}(h:Cx n w)(h1:0≤e∧e≤3):Cx n (El w e k)↔Gj (w.sums.getD e.toNat default+k):=by
 obtain ⟨ha,⟨l1,l2,l3⟩,hi,hs,hd⟩:=h
 have hlt:e.toNat<w.sums.length:=by omega
 constructor
 ·rintro ⟨_,_,_,hs',_⟩
  have:=hs' (w.sums.getD e.toNat default+k) (by simp only [El];exact List.mem_set hlt _)
  exact this
 intro hk
 refine ⟨ha,⟨by simpa [El] using l1,l2,l3⟩,hi,fun m hm=>?_,hd⟩
 simp only [El] at hm
 rcases List.mem_or_eq_of_mem_set hm with h|rfl
 ·exact hs m h
 exact hk
theorem A25 {n:Nat}{w:Aa}{e:Int}{b:Bool}(h:Cx n w)(h1:0≤e∧e≤3)(h2:Bf w e=false):Cx n (Ct w ⟨e,b⟩):=by
 obtain ⟨ha,hl,hi,hs,hd⟩:=h
 refine ⟨ha,hl,hi,hs,fun i hi'=>?_⟩
 simp only [Ct,List.length_append,List.length_singleton] at hi'
 have e1:∀j,j<w.dones.length→(w.dones++[(⟨e,b⟩:Dn)]).getD j default=w.dones.getD j default:=fun j hj=>by simp [List.getD,List.getElem?_append_left hj]
 have e2:(w.dones++[(⟨e,b⟩:Dn)]).getD w.dones.length default=⟨e,b⟩:=by simp [List.getD]
 simp only [Ct]
 by_cases hlt:i<w.dones.length
 ·obtain ⟨d1,d2⟩:=hd i hlt
  exact ⟨by rw [e1 i hlt];exact d1,fun k hk=>by rw [e1 i hlt,e1 k Ac];exact d2 k hk⟩
 obtain rfl:i=w.dones.length:=by omega
 refine ⟨by rw [e2];exact h1,fun k hk=>?_⟩
 rw [e2,e1 k hk]
 intro hc
 have:Bf w e=true:=List.any_eq_true.2 ⟨w.dones.getD k default,Ay hk,by simpa using hc⟩
 rw [h2] at this
 cases this
theorem Ha {α:Type}{l:List α}{i:Nat}{a x:α}(h:x∈l.set i a):x∈l∨x=a:=List.mem_or_eq_of_mem_set h
theorem Hw {c:A3}{j:Int}{w:Aa}(h:As c)(hj:0≤j∧j<c.workers.length):As (B3 c j w)↔Cx c.graph.nodes.length w:=by
 obtain ⟨⟨g1,g2,g3,g4⟩,hw,hl,ht,hn⟩:=h
 have hlt:j.toNat<c.workers.length:=by omega
 constructor
 ·rintro ⟨_,hw',_⟩
  exact hw' w (by simp only [B3];exact List.mem_set hlt _)
 intro h
 refine ⟨⟨g1,by simpa [B3] using g2,g3,g4⟩,fun x hx=>?_,hl,ht,hn⟩
 rcases Ha hx with hx|rfl
 ·exact hw x hx
 exact h
theorem Tg {c:A3}{k:Int}{l:Bz}(h:As c)(hl':Gm l∧V6 c k.toNat l):As (C2 c k l):=by
 obtain ⟨⟨g1,g2,g3,g4⟩,hw,hl,ht,hn⟩:=h
 refine ⟨⟨g1,g2,by simpa [C2] using g3,g4⟩,hw,fun i hi=>?_,ht,hn⟩
 simp only [C2,List.length_set] at hi
 show Gm ((c.links.set k.toNat l).getD i default)∧V6 c i ((c.links.set k.toNat l).getD i default)
 by_cases e:i=k.toNat
 ·subst e
  rw [Sx.getD_set_self _ _ _ _ hi]
  exact hl'
 rw [Sx.getD_set_ne _ _ _ _ _ e]
 exact hl i hi
theorem I9 {c:A3}{f t:Int}(h:As c)(hf:0≤f∧f<c.graph.workers)(ht:0≤t∧t<c.graph.workers):
  (0≤B0 c f t∧B0 c f t<c.links.length)∧((B0 c f t).toNat:Int).tdiv c.graph.workers=f∧((B0 c f t).toNat:Int).tmod c.graph.workers=t:=by
 have hl:=h.1.2.2.1
 have hn:=h.1.1.2.1
 unfold B0
 have hw:c.graph.workers=1∨c.graph.workers=2∨c.graph.workers=3∨c.graph.workers=4:=by omega
 have h0:0≤f * c.graph.workers:=Int.mul_nonneg hf.1 Ac
 have hfw:f=0∨f=1∨f=2∨f=3:=by omega
 have htw:t=0∨t=1∨t=2∨t=3:=by omega
 rw [hl]
 generalize c.graph.workers=n at *
 rcases hw with rfl|rfl|rfl|rfl<;>rcases hfw with rfl|rfl|rfl|rfl<;>rcases htw with rfl|rfl|rfl|rfl<;>first|omega|(refine ⟨⟨by decide,by decide⟩,by decide,by decide⟩)
theorem S5 {c:A3}{k:Int}(h:As c)(hk:0≤k∧k<c.links.length):Gm (Br c k)∧V6 c k.toNat (Br c k):=h.2.2.1 k.toNat Ac
theorem B0n {l:Bz}{r:Ae}(h:Gm l):Gm (Cs l r).1:=by
 unfold Cs
 split
 ·rename_i hs
  obtain ⟨⟨h1,h2,h3,h4,h5,h6,h7⟩,hq⟩:=h
  obtain ⟨_,hr,hc,hs⟩:=hs
  refine ⟨?_,fun q hq'=>?_⟩
  ·simp only [To,List.length_append,List.length_singleton]
   omega
  rcases List.mem_append.1 hq' with hq'|hq'
  ·exact hq q hq'
  rw [List.mem_singleton.1 hq'];exact hr
 exact h
theorem A4w {l:Bz}(h:Gm l):Gm (Bw l).1:=by
 unfold Bw
 split
 ·rename_i hs
  obtain ⟨⟨h1,h2,h3,h4,h5,h6,h7⟩,hq⟩:=h
  refine ⟨?_,fun q hq'=>hq q (List.mem_of_mem_drop hq')⟩
  simp only [To,List.length_drop]
  omega
 exact h
theorem Xy {l:Bz}(h:Gm l):Gm (Cr l).1:=by
 unfold Cr
 split
 ·rename_i hs
  obtain ⟨⟨h1,h2,h3,h4,h5,h6,h7⟩,hq⟩:=h
  refine ⟨?_,hq⟩
  simp only [To]
  omega
 exact h
theorem A6f {k n:Int}(hk:0≤k)(hn:1≤n):0≤Ew k n∧Ew k n<n:=by
 have h1:=Int.tmod_lt_of_pos k (show 0<n by omega)
 have h2:=Int.tmod_nonneg n hk
 unfold Ew
 (repeat' split)<;>omega
theorem B0z {c:A3}{w:Int}(h:Hj c w):As (B3 c w (F3 c.graph (Ab c w)).1):=by
 obtain ⟨hc,h0,h1⟩:=h
 have hw:=hc.2.1 _ (Ay (d:=default) (show w.toNat<c.workers.length by omega))
 refine (Hw hc ⟨h0,h1⟩).2 ?_
 unfold F3
 split
 ·exact B00 hw
 exact hw
theorem A37 {c:A3}{w:Int}(h:As c):As (Df c w).1:=by
 unfold Df
 split
 ·exact B0z ‹_›
 exact h
theorem A1m {c:A3}{w:Int}(h:As c):As (Cz c w).1:=by
 unfold Cz
 split
 ·rename_i hW
  obtain ⟨hc,h0,h1⟩:=hW
  have hw:=hc.2.1 _ (Ay (d:=default) (show w.toNat<c.workers.length by omega))
  refine (Hw hc ⟨h0,h1⟩).2 ?_
  unfold D8
  split
  ·rename_i hi;exact A2o hw hi.2.2.2.2
  exact hw
 exact h
theorem Jy {c:A3}{w:Int}(hc:As c)(h:0≤w∧w<c.workers.length):Cx c.graph.nodes.length (Ab c w):=hc.2.1 _ (Ay (d:=default) (show w.toNat<c.workers.length by omega))
theorem Mm {c:A3}{w:Int}(h:Hj c w)(hs:0<(Ab c w).staged.length):H2 (Bl c w)∧(Bl c w).op<c.graph.nodes.length:=(Jy h.1 h.2).1.2.1 _ (Ay hs)
theorem T8 {c:A3}{w:Int}(h:Hj c w)(hs:0<(Ab c w).staged.length):0≤Bi c w∧Bi c w<c.graph.workers:=
 A6f (Mm h hs).1.2.2.2.1.1 h.1.1.1.2.1.1
theorem Qz {c:A3}{w:Int}(h:Hj c w)(hs:0<(Ab c w).staged.length)(hne:Bi c w≠w):As (C2 c (B0 c w (Bi c w)) (Cs (Br c (B0 c w (Bi c w))) (Bl c w)).1):=by
 have hw:0≤w∧w<c.graph.workers:=by have:=h.1.1.2.1;exact ⟨h.2.1,by have:=h.2.2;omega⟩
 obtain ⟨b1,b2,b3⟩:=I9 h.1 hw (T8 h hs)
 obtain ⟨k1,k2,k3,k4⟩:=S5 h.1 b1
 refine Tg h.1 ⟨B0n k1,?_⟩
 unfold Cs
 split
 ·exact ⟨k2,Tc k3 (Mm h hs),fun e=>absurd (by rw [b2,b3] at e;exact e.symm) hne⟩
 exact ⟨k2,k3,k4⟩
def Uv (c:A3) (w:Int):Int:=(Ab c w).sums.getD (Bl c w).stamp.epoch.toNat default+1
theorem P8 {n:Nat}{w:Aa}{e:Int}(h:Cx n w)(he:0≤e∧e≤3):H5 w e=El w e 1:=by
 have:=h.2.1.1
 unfold H5
 rw [if_pos Ac]
theorem P0 {c:A3}{w:Int}(h:As c):B9 (C3 c w).1=(if (C3 c w).2=true∧Bi c w≠w then decide (Gj (Uv c w)) else true):=by
 unfold C3
 by_cases hm:Hj c w∧0<(Ab c w).staged.length
 ·obtain ⟨hW,hs⟩:=hm
  rw [if_pos ⟨hW,hs⟩]
  have hfo:=Mm hW hs
  by_cases hself:Bi c w=w
  ·simp only [hself,if_true,ne_eq,not_true_eq_false,and_false,if_false]
   exact decide_eq_true ((Hw h hW.2).2 (A09 (Ny (Jy h hW.2)) hfo))
  rw [if_neg hself]
  by_cases hsend:(Cs (Br c (B0 c w (Bi c w))) (Bl c w)).2=true
  ·rw [if_pos hsend]
   simp only [true_and,if_pos hself,ne_eq,hself,not_false_eq_true,and_self,if_true]
   have hc2:=Qz hW hs hself
   unfold B9
   refine decide_eq_decide.2 ?_
   have hw:=Ny (Jy h hW.2)
   rw [Hw hc2 hW.2,P8 hw hfo.1.2.1]
   exact A7f hw hfo.1.2.1
  rw [if_neg hsend]
  simp only [Bool.false_eq_true,false_and,if_false]
  exact decide_eq_true h
 rw [if_neg hm]
 simp only [Bool.false_eq_true,false_and,if_false]
 exact decide_eq_true h
theorem R9 {c:A3}{f t:Int}(h:Mj c f t):As (C2 c (B0 c f t) (Bw (Br c (B0 c f t))).1):=by
 obtain ⟨b1,b2,b3⟩:=I9 h.1 h.2.2.1 h.2.2.2
 obtain ⟨k1,k2,k3,k4⟩:=S5 h.1 b1
 refine Tg h.1 ⟨A4w k1,?_⟩
 unfold Bw
 split
 ·exact ⟨k2,Ps k3,fun e=>absurd (by rw [b2,b3] at e;exact e) h.2.1⟩
 exact ⟨k2,k3,k4⟩
def Gu (c:A3) (f t:Int):Ae:=(Bw (Br c (B0 c f t))).2.1
theorem Sk {c:A3}{f t:Int}(h:Mj c f t)(hk:(Bw (Br c (B0 c f t))).2.2=true):H2 (Gu c f t)∧(Gu c f t).op<c.graph.nodes.length:=by
 obtain ⟨b1,b2,b3⟩:=I9 h.1 h.2.2.1 h.2.2.2
 obtain ⟨k1,k2,k3,k4⟩:=S5 h.1 b1
 unfold Gu
 unfold Bw at hk ⊢
 split at hk
 ·rename_i hp
  rw [if_pos hp]
  exact k3 _ (Ay hp.2)
 cases hk
def V1 (c:A3) (f t:Int):Int:=(Ab c t).sums.getD (Gu c f t).stamp.epoch.toNat default+ -1
theorem P3 {n:Nat}{w:Aa}{r:Ae}(h:Cx n w)(he:0≤r.stamp.epoch∧r.stamp.epoch≤3):E8 w r=Gy (El (kept w r) r.stamp.epoch (-1)) r.stamp.epoch:=by
 have:=h.2.1.1
 have:=h.2.1.2.1
 unfold E8
 rw [if_pos Ac]
theorem Yu {n:Nat}{w:Aa}{e:Int}{b:Bool}:Cx n ⟨w.queue,w.staged,w.inputs,w.cells,w.sums,w.black.set e.toNat b,w.caps,w.dones⟩↔Cx n w:=by
 refine ⟨fun h=>?_,Vm⟩
 obtain ⟨ha,⟨l1,l2,l3⟩,hi,hs,hd⟩:=h
 exact ⟨ha,⟨l1,by simpa using l2,l3⟩,hi,hs,hd⟩
theorem U2 {c:A3}{f t:Int}(h:As c):B9 (Cm c f t).1=(if (Cm c f t).2=true then decide (Gj (V1 c f t)) else true):=by
 unfold Cm
 by_cases hm:Mj c f t∧(Bw (Br c (B0 c f t))).2.2=true
 ·rw [if_pos hm]
  obtain ⟨hL,hk⟩:=hm
  have hto:=Sk hL hk
  have hc2:=R9 hL
  have ht:0≤t∧t<c.workers.length:=by have:=h.1.2.1;have:=hL.2.2.2;omega
  simp only [if_true]
  unfold B9
  refine decide_eq_decide.2 ?_
  rw [Hw hc2 ht]
  have hw:=Jy h ht
  show Cx _ (E8 (Ab c t) (Gu c f t))↔_
  rw [P3 hw hto.1.2.1]
  exact (Yu (w:=El (kept (Ab c t) (Gu c f t)) (Gu c f t).stamp.epoch (-1))).trans (A7f (A09 hw hto) hto.1.2.1)
 rw [if_neg hm]
 simp only [Bool.false_eq_true,if_false]
 exact decide_eq_true h
theorem Q6 {c:A3}{f t:Int}(h:As c):As (Cy c f t).1:=by
 unfold Cy
 split
 ·rename_i hL
  obtain ⟨b1,b2,b3⟩:=I9 h hL.2.2.1 hL.2.2.2
  obtain ⟨k1,k2,k3,k4⟩:=S5 h b1
  refine Tg h ⟨Xy k1,?_⟩
  unfold Cr
  split
  ·exact ⟨k2,k3,k4⟩
  exact ⟨k2,k3,k4⟩
 exact h
theorem A76 {c:A3}{l:List Fe}(h:As c)(hl:∀x∈l,K5 c.graph.workers x):As ⟨c.graph,c.workers,c.links,c.tokens,l⟩:=⟨h.1,h.2.1,h.2.2.1,h.2.2.2.1,hl⟩
theorem L4 {c:A3}{w:Int}(h:As c)(hn:c.news.any (Kb w)=true):Dt c w∈c.news∧(Dt c w).to_=w:=by
 obtain ⟨x,hx,hw⟩:=List.any_eq_true.1 hn
 have hlt:Et c w<c.news.length:=by
  by_cases hlt:Et c w<c.news.length
  ·exact hlt
  have:=Rv (Kb w) c.news
  have he:Fm (Kb w) c.news=c.news.length:=by unfold Et at hlt;omega
  have:=N9 (Kb w) c.news x (by rw [he,List.take_length];exact hx)
  rw [hw] at this;cases this
 have:=Vz (Kb w) c.news hlt
 exact ⟨Ay hlt,eq_of_beq this⟩
theorem A3h {c:A3}{w:Int}(h:As c):As (D5 c w).1:=by
 unfold D5
 split
 ·rename_i hn
  have hh:As (I8 c w):=A76 h fun x hx=>h.2.2.2.2 x (List.mem_of_mem_eraseIdx hx)
  obtain ⟨m1,m2⟩:=L4 h hn.2
  have hN:=h.2.2.2.2 _ m1
  have hw:0≤w∧w<c.workers.length:=by have:=h.1.2.1;have:=hN.1;omega
  split
  ·exact hh
  rename_i hd
  have hwk:=A25 (b:=(Dt c w).capped) (Jy h hw) hN.2 (by simpa using hd)
  exact (Hw hh hw).2 hwk
 exact h
theorem Th {c:A3}{e:Int}{t:Cu}(h:As c)(ht:Jm c.graph.workers t):As (C9 c e t):=by
 obtain ⟨⟨g1,g2,g3,g4⟩,hw,hl,htt,hn⟩:=h
 refine ⟨⟨g1,g2,g3,by simpa [C9] using g4⟩,hw,hl,fun x hx=>?_,hn⟩
 rcases Ha hx with hx|rfl
 ·exact htt x hx
 exact ht
theorem Sl {c:A3}{e:Int}(h:As c):As (Bc c e).1:=by
 unfold Bc
 split
 ·rename_i hT
  obtain ⟨_,he,hD,hP⟩:=hT
  have htl:=h.1.2.2.2
  have hTP:Jm c.graph.workers (A9 c e):=h.2.2.2.1 _ (Ay (d:=default) (show e.toNat<c.tokens.length by omega))
  have hn1:=h.1.1.2.1
  have hwl:=h.1.2.1
  have hat:0≤(A9 c e).at_∧(A9 c e).at_<c.workers.length:=by have:=hTP.1;omega
  have hwk:=Jy h hat
  simp only
  split
  ·have h1:Jm c.graph.workers ⟨true,(c.workers.length:Int)-1,0,false,(Ab c (A9 c e).at_).caps.getD e.toNat default⟩:=⟨⟨by show (0:Int)≤(c.workers.length:Int)-1;omega,by show (c.workers.length:Int)-1≤_;omega⟩,(fun hc=>Bool.noConfusion hc),(by show (-1000000:Int)≤0;decide),(by show (0:Int)≤1000000;decide)⟩
   exact (Hw (Th (e:=e) h h1) hat).2 (Vm hwk)
  split
  ·split
   ·rename_i hg ha hs
    have h1:Jm c.graph.workers ⟨(A9 c e).going,(A9 c e).at_-1,(A9 c e).sum+(Ab c (A9 c e).at_).sums.getD e.toNat default,(A9 c e).black||(Ab c (A9 c e).at_).black.getD e.toNat default,(A9 c e).capped||(Ab c (A9 c e).at_).caps.getD e.toNat default⟩:=
     ⟨⟨by show 0≤(A9 c e).at_-1;omega,by show (A9 c e).at_-1≤_;have:=hTP.1;omega⟩,fun hc=>absurd hc hg,hs⟩
    exact (Hw (Th (e:=e) h h1) hat).2 (Vm hwk)
   exact h
  rename_i hg ha
  have hA:(A9 c e).at_=0:=by have:=hTP.1;omega
  have hc1:As (C9 c e ⟨false,(A9 c e).at_,(A9 c e).sum,(A9 c e).black,(A9 c e).capped⟩):=Th h ⟨hTP.1,fun _=>hA,hTP.2.2⟩
  unfold F2
  split
  ·have hw0:(0:Int)≤0∧(0:Int)<c.workers.length:=by omega
   have hd0:Bf (Ab c (A9 c e).at_) e=false:=by rw [hA];exact hD
   have hdw:=A25 (b:=((A9 c e).capped||(Ab c (A9 c e).at_).caps.getD e.toNat default)) hwk he hd0
   have hw1:=(Hw (j:=0) hc1 hw0).2 hdw
   refine A76 hw1 fun x hx=>?_
   rcases List.mem_append.1 hx with hx|hx
   ·exact h.2.2.2.2 x hx
   obtain ⟨i,hi,rfl⟩:=List.mem_map.1 hx
   have:=List.mem_range.1 hi
   have hl2:(C9 c e ⟨false,(A9 c e).at_,(A9 c e).sum,(A9 c e).black,(A9 c e).capped⟩).workers.length=c.workers.length:=rfl
   rw [hl2] at this
   refine ⟨⟨by show (0:Int)≤(i:Int)+1;omega,?_⟩,he⟩
   show (i:Int)+1≤c.graph.workers-1
   omega
  exact hc1
 exact h
theorem Pe {c : A3} {p : C7} (h : As c) : B9 (Aj c p).1 =
    (if p.kind = 3 then (if (C3 c p.a).2 = true ∧ Bi c p.a ≠ p.a then decide (Gj (Uv c p.a)) else true)
     else if p.kind = 4 then (if (Cm c p.a p.b).2 = true then decide (Gj (V1 c p.a p.b)) else true) else true) := by
  unfold Aj
  by_cases h1 : p.kind = 1
  · rw [if_pos h1, if_neg Ac, if_neg Ac]; exact decide_eq_true (A37 h)
  by_cases h2 : p.kind = 2
  · rw [if_neg h1, if_pos h2, if_neg Ac, if_neg Ac]; exact decide_eq_true (A1m h)
  by_cases h3 : p.kind = 3
  · rw [if_neg h1, if_neg h2, if_pos h3, if_pos h3]; exact P0 h
  by_cases h4 : p.kind = 4
  · rw [if_neg h1, if_neg h2, if_neg h3, if_pos h4, if_neg h3, if_pos h4]; exact U2 h
  by_cases h5 : p.kind = 5
  · rw [if_neg h1, if_neg h2, if_neg h3, if_neg h4, if_pos h5, if_neg h3, if_neg h4]; exact decide_eq_true (Q6 h)
  by_cases h6 : p.kind = 6
  · rw [if_neg h1, if_neg h2, if_neg h3, if_neg h4, if_neg h5, if_pos h6, if_neg h3, if_neg h4]; exact decide_eq_true (Sl h)
  by_cases h7 : p.kind = 7
  · rw [if_neg h1, if_neg h2, if_neg h3, if_neg h4, if_neg h5, if_neg h6, if_pos h7, if_neg h3, if_neg h4]; exact decide_eq_true (A3h h)
  · rw [if_neg h1, if_neg h2, if_neg h3, if_neg h4, if_neg h5, if_neg h6, if_neg h7, if_neg h3, if_neg h4]; exact decide_eq_true h
end Go.Proofs.YtdendlkeiaccpaaGreatDoor
