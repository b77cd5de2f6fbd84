/- Part 16 of the proof that each of the laws FnStalls returns true for every input. No conditions. -/
import Derived.Test.YtonodkjaoalfjaaGreatP11
import Derived.Test.YtonodkjaoalfjaaGreatP15

set_option linter.unusedSimpArgs false
set_option linter.unusedVariables false
set_option maxRecDepth 100000
namespace Go.Proofs.YtonodkjaoalfjaaGreat
open Go.Sx
def Dk (a b:A7):Prop:=a.epoch<b.epoch∨(a.epoch=b.epoch∧(a.op<b.op∨(a.op=b.op∧(a.key<b.key∨(a.key=b.key∧a.val<b.val)))))
theorem N5 {a b:A7}:Jr a b<0↔Dk a b:=by
 simp only [Jr,Lp,P1,K1,Dk]
 (repeat' split)<;>omega
theorem Dk.trans {a b c:A7}(h:Dk a b)(h':Dk b c):Dk a c:=by
 simp only [Dk] at *
 omega
theorem Dk.tri {a b:A7}(h:a≠b)(h':¬ Dk a b):Dk b a:=by
 obtain ⟨a1,a2,a3,a4⟩:=a
 obtain ⟨b1,b2,b3,b4⟩:=b
 simp only [Dk,ne_eq,A7.mk.injEq] at *
 omega
theorem Vi:∀{l:List A7},Mu l↔l.Pairwise Dk
 | []=>by simp [Mu]
 | [x]=>by simp [Mu]
 |x::y::r=>by
  have ih:=Vi (l:=y::r)
  have h1:Mu (x::y::r)↔Dk x y∧Mu (y::r):=by
   constructor
   ·intro h
    refine ⟨N5.1 (by simpa using h 0 A9h),fun i hi=>?_⟩
    simpa using h (i+1) (by simp at hi ⊢;omega)
   ·rintro ⟨h1,h2⟩ i hi
    cases i with
    |zero=>simpa using N5.2 h1
    |succ i=>simpa using h2 i (by simp at hi ⊢;omega)
  rw [h1,ih,List.pairwise_cons (a:=x)]
  constructor
  ·rintro ⟨h1,h2⟩
   refine ⟨fun z hz=>?_,h2⟩
   rcases List.mem_cons.1 hz with rfl|hz
   ·exact h1
   ·exact h1.trans ((List.pairwise_cons.1 h2).1 z hz)
  ·rintro ⟨h1,h2⟩
   exact ⟨h1 y A9h,h2⟩
theorem Rt {α:Type}(p:α→Bool):∀l:List α,Ek p l≤l.length
 | []=>by simp [Ek]
 |x::r=>by
  have:=Rt p r
  simp only [Ek]
  split<;>simp<;>omega
theorem N9 {α:Type}(p:α→Bool):∀l:List α,∀x∈l.take (Ek p l),p x=false
 | []=>by simp [Ek]
 |x::r=>by
  intro y hy
  simp only [Ek] at hy
  split at hy
  ·simp at hy
  ·rename_i hx
   simp only [List.take_succ_cons,List.mem_cons] at hy
   rcases hy with rfl|hy
   ·simpa using hx
   ·exact N9 p r y hy
theorem Vr {α:Type} [Inhabited α] (p:α→Bool):∀l:List α,Ek p l<l.length→p (l.getD (Ek p l) default)=true
 | []=>by simp [Ek]
 |x::r=>by
  intro h
  simp only [Ek] at h ⊢
  split at h
  ·rename_i hx
   simp [hx]
  ·rename_i hx
   rw [if_neg hx]
   simpa using Vr p r (by simpa using h)
theorem A66 {l:List A7}{x:A7}(h:l.Pairwise Dk):(Cy l x).Pairwise Dk:=by
 unfold Cy
 split
 ·exact h
 ·rename_i hn
  have hx:x∉l:=fun hm=>hn (List.any_eq_true.2 ⟨x,hm,by simp⟩)
  have e:=(List.take_append_drop (J2 l x) l).symm
  rw [e] at h
  obtain ⟨h1,h2,h3⟩:=List.pairwise_append.1 h
  have hlo:∀y∈l.take (J2 l x),Dk y x:=fun y hy=>by
   have:=N9 _ l y hy
   simp only [Bool.not_eq_false',decide_eq_true_eq] at this
   exact N5.1 this
  have hhi:∀y∈l.drop (J2 l x),Dk x y:=by
   by_cases hk:J2 l x<l.length
   ·have hat:=Vr (fun y=>!decide (Jr y x<0)) l hk
    simp only [Bool.not_eq_true',decide_eq_false_iff_not] at hat
    have hat:¬ Dk (l.getD (J2 l x) default) x:=fun hc=>hat (N5.2 hc)
    have hne:l.getD (J2 l x) default≠x:=fun e=>hx (e▸Aq hk)
    have h0:=Dk.tri hne hat
    intro y hy
    rw [List.drop_eq_getElem_cons hk] at hy h2
    have e0:l[J2 l x]=l.getD (J2 l x) default:=by simp [List.getD,hk]
    rw [e0] at hy h2
    rcases List.mem_cons.1 hy with rfl|hy
    ·exact h0
    ·exact h0.trans ((List.pairwise_cons.1 h2).1 y hy)
   ·rw [List.drop_of_length_le Ac];simp
  refine List.pairwise_append.2 ⟨h1,List.pairwise_cons.2 ⟨hhi,h2⟩,fun y hy z hz=>?_⟩
  rcases List.mem_cons.1 hz with rfl|hz
  ·exact hlo y hy
  ·exact (hlo y hy).trans (hhi z hz)
theorem Yq {l:List A7}{x:A7}(h:l.Pairwise Dk):(Dq l x).1.Pairwise Dk:=by
 unfold Dq
 split
 ·exact h
 ·exact A66 (h.sublist List.filter_sublist)
theorem Zn {k:Int}{l:List A7}{x:A7}(h:l.Pairwise Dk):(Bb k l x).1.Pairwise Dk:=by
 unfold Bb
 split
 ·exact Yq h
 ·split
  ·split
   ·exact h
   ·exact A66 h
  ·exact h
theorem Rj {x:Cb}{k v:Int}(hx:Iw x)(h:Jd k v):Jd (As x k v).1 (As x k v).2.1:=by
 obtain ⟨_,h2,_,h4,_⟩:=hx
 unfold As
 obtain ⟨⟨a1,a2⟩,a3,a4⟩:=h
 have hm:=Int.tmod_lt_of_pos (k+x.a) (show (0:Int)<100 by decide)
 (repeat' split)<;>simp only [Jd] at * <;>(try (rename_i hk;have:=h2 hk))<;>(try (rename_i hk;have:=h4 hk;have:=Int.tmod_nonneg 100 (show 0≤k+x.a by omega)))<;>omega
theorem Lx {s:F5}(h:(Cc s).2=true):(Cc s).1=⟨s.epoch,s.turn+1⟩∧(0≤s.epoch∧s.epoch≤3)∧0≤s.turn∧s.turn<6:=by
 unfold Cc at *
 split at h
 ·rename_i hs
  rw [if_pos hs]
  have:=of_decide_eq_true hs.1
  exact ⟨rfl,this.1,this.2.1,hs.2⟩
 ·cases h
theorem Il {g:Ad}{op:Int}(h:E7 g)(h0:0≤op)(h1:op<g.nodes.length):Lm g op.toNat:=h.2.2.2 op.toNat Ac
theorem B22 {g:Ad}{r:A5}(h:Jx g r):Sm g.nodes.length (Gf g r):=by
 obtain ⟨hg,hr,ho⟩:=h
 obtain ⟨r1,r2,r3,r4,r5⟩:=hr
 have hn:=Il hg r1.1 ho
 have hc:=Rj (k:=r.key) (v:=r.val) hn.1 ⟨r4,r5⟩
 unfold Gf
 intro q hq
 split at hq
 ·simp at hq
 ·rename_i hb
  obtain ⟨k,hk,rfl⟩:=List.mem_map.1 hq
  have he:=hn.2.2 k hk
  have hk7:=hn.1.2.2.2.2.2.2.2.2 k hk
  refine ⟨⟨hk7,?_,?_,hc.1,hc.2⟩,he.1⟩
  ·simp only
   split
   ·rename_i h7
    have:=Lx (s:=r.stamp) (by simpa [h7] using hb)
    rw [this.1];exact this.2.1
   ·exact r2
  ·simp only
   split
   ·rename_i h7
    have:=Lx (s:=r.stamp) (by simpa [h7] using hb)
    rw [this.1];simp only;omega
   ·exact r3
theorem A7l {g:Ad}{cs:List A7}{r:A5}:Sm g.nodes.length (Bv g cs r).2.1:=by
 unfold Bv
 split
 ·rename_i h
  (repeat' split)
  ·intro q hq;simp at hq
  ·intro q hq;simp at hq
  ·exact B22 h
 ·intro q hq;simp at hq
theorem B1n {g:Ad}{cs:List A7}{r:A5}(h:cs.Pairwise Dk):(Bv g cs r).1.Pairwise Dk:=by
 unfold Bv
 (repeat' split)
 ·exact h
 ·exact Zn h
 ·exact Zn h
 ·exact h
theorem A96 {g:Ad}{r:A5}(h:Jx g r):(Gf g r).length≤2:=by
 unfold Gf
 have:=(Il h.1 h.2.1.1.1 h.2.2).1.2.2.2.2.2.1
 split
 ·simp
 ·rw [List.length_map];exact this
theorem A7k {g:Ad}{cs:List A7}{r:A5}:(Bv g cs r).2.1.length≤2:=by
 unfold Bv
 split
 ·rename_i h
  (repeat' split)
  ·simp
  ·simp
  ·exact A96 h
 ·simp
theorem A1w {l:List A7}{x:A7}:(Cy l x).length≤l.length+1:=by
 unfold Cy
 split
 ·omega
 ·have:=Rt (fun y=>!decide (Jr y x<0)) l
  simp only [List.length_append,List.length_cons,List.length_take,List.length_drop,J2]
  omega
theorem X4 {k:Int}{l:List A7}{x:A7}:(Bb k l x).1.length≤l.length+1:=by
 unfold Bb
 split
 ·unfold Dq
  split
  ·simp
  ·have h1:=A1w (l:=l.filter fun y=>!B2 x y) (x:=x)
   have h2:=List.length_filter_le (fun y=>!B2 x y) l
   simp only
   omega
 ·split
  ·split
   ·simp
   ·exact A1w
  ·simp
theorem A5d {g:Ad}{cs:List A7}{r:A5}:(Bv g cs r).1.length≤cs.length+1:=by
 unfold Bv
 (repeat' split)
 ·simp
 ·exact X4
 ·exact X4
 ·simp
theorem B0l {l:List A5}(h:A5v l):A5v (l.drop 1):=by
 intro i hi
 obtain ⟨h1,h2,h3⟩:=h (i+1) (by simp at hi;omega)
 have e:∀j,(l.drop 1).getD j default=l.getD (j+1) default:=fun j=>by simp [List.getD,Nat.add_comm]
 refine ⟨by rw [e];exact h1,by rw [e];exact h2,fun h0=>?_⟩
 rw [e,e,show i-1+1=i by omega]
 exact h3 Ac
theorem Px {n k:Nat}{l:List A5}(h:Sm n l):Sm n (l.drop k):=fun r hr=>h r (List.mem_of_mem_drop hr)
theorem Ta {n:Nat}{l:List A5}{r:A5}(h:Sm n l)(hr:Ja r∧r.op<n):Sm n (l++[r]):=fun q hq=>by
 rcases List.mem_append.1 hq with hq|hq
 ·exact h q hq
 ·rw [List.mem_singleton.1 hq];exact hr
theorem B1u {g:Ad}{w:Ab}(h:D8 g.nodes.length w):D8 g.nodes.length (Fx g w):=by
 obtain ⟨⟨a1,a2,a3,a4⟩,⟨l1,l2,l3⟩,hi,hs,hd⟩:=h
 refine ⟨⟨Px a1,A7l,a3,Vi.2 (B1n (Vi.1 a4))⟩,⟨l1,l2,?_⟩,hi,hs,hd⟩
 simp only [Fx]
 split
 ·rw [List.length_set];exact l3
 ·exact l3
theorem A2u {n:Nat}{w:Ab}(h:D8 n w)(h0:0<w.inputs.length):D8 n (Jz w):=by
 obtain ⟨⟨a1,a2,a3,a4⟩,hl,hi,hs,hd⟩:=h
 exact ⟨⟨Ta a1 (a3 _ (Aq h0)),a2,Px a3,a4⟩,hl,B0l hi,hs,hd⟩
theorem A8o {n:Nat}{w:Ab}{r:A5}(h:D8 n w)(hr:Ja r∧r.op<n):D8 n (kept w r):=by
 obtain ⟨⟨a1,a2,a3,a4⟩,hl,hi,hs,hd⟩:=h
 exact ⟨⟨Ta a1 hr,a2,a3,a4⟩,hl,hi,hs,hd⟩
theorem Ra {n:Nat}{w:Ab}(h:D8 n w):D8 n (Bt w):=by
 obtain ⟨⟨a1,a2,a3,a4⟩,hl,hi,hs,hd⟩:=h
 exact ⟨⟨a1,Px a2,a3,a4⟩,hl,hi,hs,hd⟩
theorem Vg {n:Nat}{w:Ab}{e:Int}{b:Bool}(h:D8 n w):D8 n ⟨w.queue,w.staged,w.inputs,w.cells,w.sums,w.black.set e.toNat b,w.caps,w.dones⟩:=by
 obtain ⟨ha,⟨l1,l2,l3⟩,hi,hs,hd⟩:=h
 exact ⟨ha,⟨l1,by simpa using l2,l3⟩,hi,hs,hd⟩
theorem A74 {n:Nat}{w:Ab}{e k:Int}(h:D8 n w)(h1:0≤e∧e≤3):D8 n (Ib w e k)↔Jy (w.sums.getD e.toNat default+k):=by
 obtain ⟨ha,⟨l1,l2,l3⟩,hi,hs,hd⟩:=h
 have hlt:e.toNat<w.sums.length:=by omega
 constructor
 ·rintro ⟨_,_,_,hs',_⟩
  have:=hs' (w.sums.getD e.toNat default+k) (by simp only [Ib];exact List.mem_set hlt _)
  exact this
 ·intro hk
  refine ⟨ha,⟨by simpa [Ib] using l1,l2,l3⟩,hi,fun m hm=>?_,hd⟩
  simp only [Ib] at hm
  rcases List.mem_or_eq_of_mem_set hm with h|rfl
  ·exact hs m h
  ·exact hk
theorem A26 {n:Nat}{w:Ab}{e:Int}{b:Bool}(h:D8 n w)(h1:0≤e∧e≤3)(h2:B1 w e=false):D8 n (Cx w ⟨e,b⟩):=by
 obtain ⟨ha,hl,hi,hs,hd⟩:=h
 refine ⟨ha,hl,hi,hs,fun i hi'=>?_⟩
 simp only [Cx,List.length_append,List.length_singleton] at hi'
 have e1:∀j,j<w.dones.length→(w.dones++[(⟨e,b⟩:E3)]).getD j default=w.dones.getD j default:=fun j hj=>by simp [List.getD,List.getElem?_append_left hj]
 have e2:(w.dones++[(⟨e,b⟩:E3)]).getD w.dones.length default=⟨e,b⟩:=by simp [List.getD]
 simp only [Cx]
 by_cases hlt:i<w.dones.length
 ·obtain ⟨d1,d2⟩:=hd i hlt
  exact ⟨by rw [e1 i hlt];exact d1,fun k hk=>by rw [e1 i hlt,e1 k Ac];exact d2 k hk⟩
 ·obtain rfl:i=w.dones.length:=by omega
  refine ⟨by rw [e2];exact h1,fun k hk=>?_⟩
  rw [e2,e1 k hk]
  intro hc
  have:B1 w e=true:=List.any_eq_true.2 ⟨w.dones.getD k default,Aq hk,by simpa using hc⟩
  rw [h2] at this
  cases this
theorem M6 {α:Type}{l:List α}{i:Nat}{a x:α}(h:x∈l.set i a):x∈l∨x=a:=List.mem_or_eq_of_mem_set h
theorem Hn {c:A3}{j:Int}{w:Ab}(h:Ap c)(hj:0≤j∧j<c.workers.length):Ap (Av c j w)↔D8 c.graph.nodes.length w:=by
 obtain ⟨⟨g1,g2,g3,g4⟩,hw,hl,ht,hn⟩:=h
 have hlt:j.toNat<c.workers.length:=by omega
 constructor
 ·rintro ⟨_,hw',_⟩
  exact hw' w (by simp only [Av];exact List.mem_set hlt _)
 ·intro h
  refine ⟨⟨g1,by simpa [Av] using g2,g3,g4⟩,fun x hx=>?_,hl,ht,hn⟩
  rcases M6 hx with hx|rfl
  ·exact hw x hx
  ·exact h
theorem Te {c:A3}{k:Int}{l:C2}(h:Ap c)(hl':Gy l∧Uw c k.toNat l):Ap (B6 c k l):=by
 obtain ⟨⟨g1,g2,g3,g4⟩,hw,hl,ht,hn⟩:=h
 refine ⟨⟨g1,g2,by simpa [B6] using g3,g4⟩,hw,fun i hi=>?_,ht,hn⟩
 simp only [B6,List.length_set] at hi
 show Gy ((c.links.set k.toNat l).getD i default)∧Uw c i ((c.links.set k.toNat l).getD i default)
 by_cases e:i=k.toNat
 ·subst e
  rw [Sx.getD_set_self _ _ _ _ hi]
  exact hl'
 ·rw [Sx.getD_set_ne _ _ _ _ _ e]
  exact hl i hi
theorem El {c:A3}{f t:Int}(h:Ap c)(hf:0≤f∧f<c.graph.workers)(ht:0≤t∧t<c.graph.workers):
  (0≤Ae c f t∧Ae c f t<c.links.length)∧((Ae c f t).toNat:Int).tdiv c.graph.workers=f∧((Ae c f t).toNat:Int).tmod c.graph.workers=t:=by
 have hl:=h.1.2.2.1
 have hn:=h.1.1.2.1
 unfold Ae
 have hw:c.graph.workers=1∨c.graph.workers=2∨c.graph.workers=3∨c.graph.workers=4:=by omega
 have h0:0≤f * c.graph.workers:=Int.mul_nonneg hf.1 Ac
 have hfw:f=0∨f=1∨f=2∨f=3:=by omega
 have htw:t=0∨t=1∨t=2∨t=3:=by omega
 rw [hl]
 generalize c.graph.workers=n at *
 rcases hw with rfl|rfl|rfl|rfl<;>rcases hfw with rfl|rfl|rfl|rfl<;>rcases htw with rfl|rfl|rfl|rfl<;>first|omega|(refine ⟨⟨by decide,by decide⟩,by decide,by decide⟩)
theorem L8 {c:A3}{k:Int}(h:Ap c)(hk:0≤k∧k<c.links.length):Gy (An c k)∧Uw c k.toNat (An c k):=h.2.2.1 k.toNat Ac
theorem B1g {l:C2}{r:A5}(h:Gy l):Gy (Dn l r).1:=by
 unfold Dn
 split
 ·rename_i hs
  obtain ⟨⟨h1,h2,h3,h4,h5,h6,h7⟩,hq⟩:=h
  obtain ⟨_,hr,hc,hs⟩:=hs
  refine ⟨?_,fun q hq'=>?_⟩
  ·simp only [Tl,List.length_append,List.length_singleton]
   omega
  ·rcases List.mem_append.1 hq' with hq'|hq'
   ·exact hq q hq'
   ·rw [List.mem_singleton.1 hq'];exact hr
 ·exact h
theorem Ua {l:C2}(h:Gy l):Gy (At l).1:=by
 unfold At
 split
 ·rename_i hs
  obtain ⟨⟨h1,h2,h3,h4,h5,h6,h7⟩,hq⟩:=h
  refine ⟨?_,fun q hq'=>hq q (List.mem_of_mem_drop hq')⟩
  simp only [Tl,List.length_drop]
  omega
 ·exact h
theorem Xx {l:C2}(h:Gy l):Gy (Bn l).1:=by
 unfold Bn
 split
 ·rename_i hs
  obtain ⟨⟨h1,h2,h3,h4,h5,h6,h7⟩,hq⟩:=h
  refine ⟨?_,hq⟩
  simp only [Tl]
  omega
 ·exact h
theorem Ns {k n:Int}(hk:0≤k)(hn:1≤n):0≤Cf k n∧Cf k n<n:=by
 have h1:=Int.tmod_lt_of_pos k (show 0<n by omega)
 have h2:=Int.tmod_nonneg n hk
 unfold Cf
 (repeat' split)<;>omega
theorem B1t {c:A3}{w:Int}(h:Hh c w):Ap (Av c w (Fk c.graph (A6 c w)).1):=by
 obtain ⟨hc,h0,h1⟩:=h
 have hw:=hc.2.1 _ (Aq (d:=default) (show w.toNat<c.workers.length by omega))
 refine (Hn hc ⟨h0,h1⟩).2 ?_
 unfold Fk
 split
 ·exact B1u hw
 ·exact hw
theorem A4i {c:A3}{w:Int}(h:Ap c):Ap (Cr c w).1:=by
 unfold Cr
 split
 ·exact B1t ‹_›
 ·exact h
theorem A1q {c:A3}{w:Int}(h:Ap c):Ap (Cg c w).1:=by
 unfold Cg
 split
 ·rename_i hW
  obtain ⟨hc,h0,h1⟩:=hW
  have hw:=hc.2.1 _ (Aq (d:=default) (show w.toNat<c.workers.length by omega))
  refine (Hn hc ⟨h0,h1⟩).2 ?_
  unfold Dg
  split
  ·rename_i hi;exact A2u hw hi.2.2.2.2
  ·exact hw
 ·exact h
theorem Kb {c:A3}{w:Int}(hc:Ap c)(h:0≤w∧w<c.workers.length):D8 c.graph.nodes.length (A6 c w):=hc.2.1 _ (Aq (d:=default) (show w.toNat<c.workers.length by omega))
theorem L5 {c:A3}{w:Int}(h:Hh c w)(hs:0<(A6 c w).staged.length):Ja (B7 c w)∧(B7 c w).op<c.graph.nodes.length:=(Kb h.1 h.2).1.2.1 _ (Aq hs)
theorem Km {c:A3}{w:Int}(h:Hh c w)(hs:0<(A6 c w).staged.length):0≤B8 c w∧B8 c w<c.graph.workers:=
 Ns (L5 h hs).1.2.2.2.1.1 h.1.1.1.2.1.1
theorem Wn {c:A3}{w:Int}(h:Hh c w)(hs:0<(A6 c w).staged.length)(hne:B8 c w≠w):Ap (B6 c (Ae c w (B8 c w)) (Dn (An c (Ae c w (B8 c w))) (B7 c w)).1):=by
 have hw:0≤w∧w<c.graph.workers:=by have:=h.1.1.2.1;exact ⟨h.2.1,by have:=h.2.2;omega⟩
 obtain ⟨b1,b2,b3⟩:=El h.1 hw (Km h hs)
 obtain ⟨k1,k2,k3,k4⟩:=L8 h.1 b1
 refine Te h.1 ⟨B1g k1,?_⟩
 unfold Dn
 split
 ·exact ⟨k2,Ta k3 (L5 h hs),fun e=>absurd (by rw [b2,b3] at e;exact e.symm) hne⟩
 ·exact ⟨k2,k3,k4⟩
def A1g (c:A3) (w:Int):Int:=(A6 c w).sums.getD (B7 c w).stamp.epoch.toNat default+1
theorem U6 {n:Nat}{w:Ab}{e:Int}(h:D8 n w)(he:0≤e∧e≤3):Cs w e=Ib w e 1:=by
 have:=h.2.1.1
 unfold Cs
 rw [if_pos Ac]
theorem A4e {c:A3}{w:Int}(h:Ap c):Fp (C6 c w).1=(if (C6 c w).2=true∧B8 c w≠w then decide (Jy (A1g c w)) else true):=by
 unfold C6
 by_cases hm:Hh c w∧0<(A6 c w).staged.length
 ·obtain ⟨hW,hs⟩:=hm
  rw [if_pos ⟨hW,hs⟩]
  have hfo:=L5 hW hs
  by_cases hself:B8 c w=w
  ·simp only [hself,if_true,ne_eq,not_true_eq_false,and_false,if_false]
   exact decide_eq_true ((Hn h hW.2).2 (A8o (Ra (Kb h hW.2)) hfo))
  ·rw [if_neg hself]
   by_cases hsend:(Dn (An c (Ae c w (B8 c w))) (B7 c w)).2=true
   ·rw [if_pos hsend]
    simp only [true_and,if_pos hself,ne_eq,hself,not_false_eq_true,and_self,if_true]
    have hc2:=Wn hW hs hself
    unfold Fp
    refine decide_eq_decide.2 ?_
    have hw:=Ra (Kb h hW.2)
    rw [Hn hc2 hW.2,U6 hw hfo.1.2.1]
    exact A74 hw hfo.1.2.1
   ·rw [if_neg hsend]
    simp only [Bool.false_eq_true,false_and,if_false]
    exact decide_eq_true h
 ·rw [if_neg hm]
  simp only [Bool.false_eq_true,false_and,if_false]
  exact decide_eq_true h
theorem Xo {c:A3}{f t:Int}(h:Jw c f t):Ap (B6 c (Ae c f t) (At (An c (Ae c f t))).1):=by
 obtain ⟨b1,b2,b3⟩:=El h.1 h.2.2.1 h.2.2.2
 obtain ⟨k1,k2,k3,k4⟩:=L8 h.1 b1
 refine Te h.1 ⟨Ua k1,?_⟩
 unfold At
 split
 ·exact ⟨k2,Px k3,fun e=>absurd (by rw [b2,b3] at e;exact e) h.2.1⟩
 ·exact ⟨k2,k3,k4⟩
def I8 (c:A3) (f t:Int):A5:=(At (An c (Ae c f t))).2.1
theorem Xp {c:A3}{f t:Int}(h:Jw c f t)(hk:(At (An c (Ae c f t))).2.2=true):Ja (I8 c f t)∧(I8 c f t).op<c.graph.nodes.length:=by
 obtain ⟨b1,b2,b3⟩:=El h.1 h.2.2.1 h.2.2.2
 obtain ⟨k1,k2,k3,k4⟩:=L8 h.1 b1
 unfold I8
 unfold At at hk ⊢
 split at hk
 ·rename_i hp
  rw [if_pos hp]
  exact k3 _ (Aq hp.2)
 ·cases hk
def A2e (c:A3) (f t:Int):Int:=(A6 c t).sums.getD (I8 c f t).stamp.epoch.toNat default+ -1
theorem U3 {n:Nat}{w:Ab}{r:A5}(h:D8 n w)(he:0≤r.stamp.epoch∧r.stamp.epoch≤3):Cj w r=N2 (Ib (kept w r) r.stamp.epoch (-1)) r.stamp.epoch:=by
 have:=h.2.1.1
 have:=h.2.1.2.1
 unfold Cj
 rw [if_pos Ac]
theorem A9n {n:Nat}{w:Ab}{e:Int}{b:Bool}:D8 n ⟨w.queue,w.staged,w.inputs,w.cells,w.sums,w.black.set e.toNat b,w.caps,w.dones⟩↔D8 n w:=by
 refine ⟨fun h=>?_,Vg⟩
 obtain ⟨ha,⟨l1,l2,l3⟩,hi,hs,hd⟩:=h
 exact ⟨ha,⟨l1,by simpa using l2,l3⟩,hi,hs,hd⟩
theorem A4g {c:A3}{f t:Int}(h:Ap c):Fp (Cd c f t).1=(if (Cd c f t).2=true then decide (Jy (A2e c f t)) else true):=by
 unfold Cd
 by_cases hm:Jw c f t∧(At (An c (Ae c f t))).2.2=true
 ·rw [if_pos hm]
  obtain ⟨hL,hk⟩:=hm
  have hto:=Xp hL hk
  have hc2:=Xo hL
  have ht:0≤t∧t<c.workers.length:=by have:=h.1.2.1;have:=hL.2.2.2;omega
  simp only [if_true]
  unfold Fp
  refine decide_eq_decide.2 ?_
  rw [Hn hc2 ht]
  have hw:=Kb h ht
  show D8 _ (Cj (A6 c t) (I8 c f t))↔_
  rw [U3 hw hto.1.2.1]
  exact (A9n (w:=Ib (kept (A6 c t) (I8 c f t)) (I8 c f t).stamp.epoch (-1))).trans (A74 (A8o hw hto) hto.1.2.1)
 ·rw [if_neg hm]
  simp only [Bool.false_eq_true,if_false]
  exact decide_eq_true h
theorem Qe {c:A3}{f t:Int}(h:Ap c):Ap (Br c f t).1:=by
 unfold Br
 split
 ·rename_i hL
  obtain ⟨b1,b2,b3⟩:=El h hL.2.2.1 hL.2.2.2
  obtain ⟨k1,k2,k3,k4⟩:=L8 h b1
  refine Te h ⟨Xx k1,?_⟩
  unfold Bn
  split
  ·exact ⟨k2,k3,k4⟩
  ·exact ⟨k2,k3,k4⟩
 ·exact h
theorem A8u {c:A3}{l:List Cn}(h:Ap c)(hl:∀x∈l,Re c.graph.workers x):Ap ⟨c.graph,c.workers,c.links,c.tokens,l⟩:=⟨h.1,h.2.1,h.2.2.1,h.2.2.2.1,hl⟩
theorem Jk {c:A3}{w:Int}(h:Ap c)(hn:c.news.any (Is w)=true):Dd c w∈c.news∧(Dd c w).to_=w:=by
 obtain ⟨x,hx,hw⟩:=List.any_eq_true.1 hn
 have hlt:Ej c w<c.news.length:=by
  by_cases hlt:Ej c w<c.news.length
  ·exact hlt
  ·have:=Rt (Is w) c.news
   have he:Ek (Is w) c.news=c.news.length:=by unfold Ej at hlt;omega
   have:=N9 (Is w) c.news x (by rw [he,List.take_length];exact hx)
   rw [hw] at this;cases this
 have:=Vr (Is w) c.news hlt
 exact ⟨Aq hlt,eq_of_beq this⟩
theorem A3j {c:A3}{w:Int}(h:Ap c):Ap (D4 c w).1:=by
 unfold D4
 split
 ·rename_i hn
  have hh:Ap (Ih c w):=A8u h fun x hx=>h.2.2.2.2 x (List.mem_of_mem_eraseIdx hx)
  obtain ⟨m1,m2⟩:=Jk h hn.2
  have hN:=h.2.2.2.2 _ m1
  have hw:0≤w∧w<c.workers.length:=by have:=h.1.2.1;have:=hN.1;omega
  split
  ·exact hh
  ·rename_i hd
   have hwk:=A26 (b:=(Dd c w).capped) (Kb h hw) hN.2 (by simpa using hd)
   exact (Hn hh hw).2 hwk
 ·exact h
theorem Tf {c:A3}{e:Int}{t:Es}(h:Ap c)(ht:O7 c.graph.workers t):Ap (Cp c e t):=by
 obtain ⟨⟨g1,g2,g3,g4⟩,hw,hl,htt,hn⟩:=h
 refine ⟨⟨g1,g2,g3,by simpa [Cp] using g4⟩,hw,hl,fun x hx=>?_,hn⟩
 rcases M6 hx with hx|rfl
 ·exact htt x hx
 ·exact ht
theorem Se {c:A3}{e:Int}(h:Ap c):Ap (Bo c e).1:=by
 unfold Bo
 split
 ·rename_i hT
  obtain ⟨_,he,hD,hP⟩:=hT
  have htl:=h.1.2.2.2
  have hTP:O7 c.graph.workers (A4 c e):=h.2.2.2.1 _ (Aq (d:=default) (show e.toNat<c.tokens.length by omega))
  have hn1:=h.1.1.2.1
  have hwl:=h.1.2.1
  have hat:0≤(A4 c e).at_∧(A4 c e).at_<c.workers.length:=by have:=hTP.1;omega
  have hwk:=Kb h hat
  simp only
  split
  ·have h1:O7 c.graph.workers ⟨true,(c.workers.length:Int)-1,0,false,(A6 c (A4 c e).at_).caps.getD e.toNat default⟩:=⟨⟨by show (0:Int)≤(c.workers.length:Int)-1;omega,by show (c.workers.length:Int)-1≤_;omega⟩,(fun hc=>Bool.noConfusion hc),(by show (-1000000:Int)≤0;decide),(by show (0:Int)≤1000000;decide)⟩
   exact (Hn (Tf (e:=e) h h1) hat).2 (Vg hwk)
  ·split
   ·split
    ·rename_i hg ha hs
     have h1:O7 c.graph.workers ⟨(A4 c e).going,(A4 c e).at_-1,(A4 c e).sum+(A6 c (A4 c e).at_).sums.getD e.toNat default,(A4 c e).black||(A6 c (A4 c e).at_).black.getD e.toNat default,(A4 c e).capped||(A6 c (A4 c e).at_).caps.getD e.toNat default⟩:=
      ⟨⟨by show 0≤(A4 c e).at_-1;omega,by show (A4 c e).at_-1≤_;have:=hTP.1;omega⟩,fun hc=>absurd hc hg,hs⟩
     exact (Hn (Tf (e:=e) h h1) hat).2 (Vg hwk)
    ·exact h
   ·rename_i hg ha
    have hA:(A4 c e).at_=0:=by have:=hTP.1;omega
    have hc1:Ap (Cp c e ⟨false,(A4 c e).at_,(A4 c e).sum,(A4 c e).black,(A4 c e).capped⟩):=Tf h ⟨hTP.1,fun _=>hA,hTP.2.2⟩
    unfold Gn
    split
    ·have hw0:(0:Int)≤0∧(0:Int)<c.workers.length:=by omega
     have hd0:B1 (A6 c (A4 c e).at_) e=false:=by rw [hA];exact hD
     have hdw:=A26 (b:=((A4 c e).capped||(A6 c (A4 c e).at_).caps.getD e.toNat default)) hwk he hd0
     have hw1:=(Hn (j:=0) hc1 hw0).2 hdw
     refine A8u hw1 fun x hx=>?_
     rcases List.mem_append.1 hx with hx|hx
     ·exact h.2.2.2.2 x hx
     ·obtain ⟨i,hi,rfl⟩:=List.mem_map.1 hx
      have:=List.mem_range.1 hi
      have hl2:(Cp c e ⟨false,(A4 c e).at_,(A4 c e).sum,(A4 c e).black,(A4 c e).capped⟩).workers.length=c.workers.length:=rfl
      rw [hl2] at this
      refine ⟨⟨by show (0:Int)≤(i:Int)+1;omega,?_⟩,he⟩
      show (i:Int)+1≤c.graph.workers-1
      omega
    ·exact hc1
 ·exact h
theorem A5g {c : A3} {p : Bl} (h : Ap c) : Fp (Ag c p).1 =
    (if p.kind = 3 then (if (C6 c p.a).2 = true ∧ B8 c p.a ≠ p.a then decide (Jy (A1g c p.a)) else true)
     else if p.kind = 4 then (if (Cd c p.a p.b).2 = true then decide (Jy (A2e c p.a p.b)) else true) else true) := by
  unfold Ag
  by_cases h1 : p.kind = 1
  · rw [if_pos h1, if_neg Ac, if_neg Ac]; exact decide_eq_true (A4i h)
  by_cases h2 : p.kind = 2
  · rw [if_neg h1, if_pos h2, if_neg Ac, if_neg Ac]; exact decide_eq_true (A1q h)
  by_cases h3 : p.kind = 3
  · rw [if_neg h1, if_neg h2, if_pos h3, if_pos h3]; exact A4e h
  by_cases h4 : p.kind = 4
  · rw [if_neg h1, if_neg h2, if_neg h3, if_pos h4, if_neg h3, if_pos h4]; exact A4g h
  by_cases h5 : p.kind = 5
  · rw [if_neg h1, if_neg h2, if_neg h3, if_neg h4, if_pos h5, if_neg h3, if_neg h4]; exact decide_eq_true (Qe h)
  by_cases h6 : p.kind = 6
  · rw [if_neg h1, if_neg h2, if_neg h3, if_neg h4, if_neg h5, if_pos h6, if_neg h3, if_neg h4]; exact decide_eq_true (Se h)
  by_cases h7 : p.kind = 7
  · rw [if_neg h1, if_neg h2, if_neg h3, if_neg h4, if_neg h5, if_neg h6, if_pos h7, if_neg h3, if_neg h4]; exact decide_eq_true (A3j h)
  · rw [if_neg h1, if_neg h2, if_neg h3, if_neg h4, if_neg h5, if_neg h6, if_neg h7, if_neg h3, if_neg h4]; exact decide_eq_true h
end Go.Proofs.YtonodkjaoalfjaaGreat
