/- Part 16 of the proof that each of the laws FnTotals returns true for every input. No conditions. -/
import Derived.Test.YtdendlkeiaccpaaGreatP14
import Derived.Test.YtdendlkeiaccpaaGreatP15

set_option linter.unusedSimpArgs false
set_option linter.unusedVariables false
set_option maxRecDepth 100000
namespace Go.Proofs.YtdendlkeiaccpaaGreat
open Go.Sx
def Eh (a b:Be):Prop:=a.epoch<b.epoch∨(a.epoch=b.epoch∧(a.op<b.op∨(a.op=b.op∧(a.key<b.key∨(a.key=b.key∧a.val<b.val)))))
theorem Lo {a b:Be}:Jh a b<0↔Eh a b:=by
 simp only [Jh,Ps,Ja,J0,Eh]
 (repeat' split)<;>omega
theorem Eh.trans {a b c:Be}(h:Eh a b)(h':Eh b c):Eh a c:=by
 simp only [Eh] at *
 omega
theorem Eh.tri {a b:Be}(h:a≠b)(h':¬ Eh a b):Eh b a:=by
 obtain ⟨a1,a2,a3,a4⟩:=a
 obtain ⟨b1,b2,b3,b4⟩:=b
 simp only [Eh,ne_eq,Be.mk.injEq] at *
 omega
theorem Tj:∀{l:List Be},Lf l↔l.Pairwise Eh
 | []=>by simp [Lf]
 | [x]=>by simp [Lf]
 |x::y::r=>by
  have ih:=Tj (l:=y::r)
  have h1:Lf (x::y::r)↔Eh x y∧Lf (y::r):=by
   constructor
   ·intro h
    refine ⟨Lo.1 (by simpa using h 0 Cg),fun i hi=>?_⟩
    simpa using h (i+1) (by simp at hi ⊢;omega)
   rintro ⟨h1,h2⟩ i hi
   cases i with
   |zero=>simpa using Lo.2 h1
   |succ i=>simpa using h2 i (by simp at hi ⊢;omega)
  rw [h1,ih,List.pairwise_cons (a:=x)]
  constructor
  ·rintro ⟨h1,h2⟩
   refine ⟨fun z hz=>?_,h2⟩
   rcases List.mem_cons.1 hz with rfl|hz
   ·exact h1
   exact h1.trans ((List.pairwise_cons.1 h2).1 z hz)
  rintro ⟨h1,h2⟩
  exact ⟨h1 y Cg,h2⟩
theorem Tr {α:Type}(p:α→Bool):∀l:List α,Gs p l≤l.length
 | []=>by simp [Gs]
 |x::r=>by
  have:=Tr p r
  simp only [Gs]
  split<;>simp<;>omega
theorem P1 {α:Type}(p:α→Bool):∀l:List α,∀x∈l.take (Gs p l),p x=false
 | []=>by simp [Gs]
 |x::r=>by
  intro y hy
  simp only [Gs] at hy
  split at hy
  ·simp at hy
  rename_i hx
  simp only [List.take_succ_cons,List.mem_cons] at hy
  rcases hy with rfl|hy
  ·simpa using hx
  exact P1 p r y hy
theorem Tq {α:Type} [Inhabited α] (p:α→Bool):∀l:List α,Gs p l<l.length→p (l.getD (Gs p l) default)=true
 | []=>by simp [Gs]
 |x::r=>by
  intro h
  simp only [Gs] at h ⊢
  split at h
  ·rename_i hx
   simp [hx]
  rename_i hx
  rw [if_neg hx]
  simpa using Tq p r (by simpa using h)
theorem A4w {l:List Be}{x y:Be}:y∈Fp l x↔y∈l∨y=x:=by
 unfold Fp
 split
 ·rename_i h
  constructor
  ·exact .inl
  rintro (h'|rfl)
  ·exact h'
  obtain ⟨z,hz,e⟩:=List.any_eq_true.1 h
  obtain rfl:=of_decide_eq_true e
  exact hz
 have:y∈l↔y∈l.take (Jg l x)∨y∈l.drop (Jg l x):=by rw [←List.mem_append,List.take_append_drop]
 rw [List.mem_append,List.mem_cons,this]
 constructor
 ·rintro (h|h|h)
  ·exact .inl (.inl h)
  ·exact .inr h
  exact .inl (.inr h)
 rintro ((h|h)|h)
 ·exact .inl h
 ·exact .inr (.inr h)
 exact .inr (.inl h)
theorem B0r {l:List Be}{x:Be}(h:l.Pairwise Eh):(Fp l x).Pairwise Eh:=by
 unfold Fp
 split
 ·exact h
 rename_i hn
 have hx:x∉l:=fun hm=>hn (List.any_eq_true.2 ⟨x,hm,by simp⟩)
 have e:=(List.take_append_drop (Jg l x) l).symm
 rw [e] at h
 obtain ⟨h1,h2,h3⟩:=List.pairwise_append.1 h
 have hlo:∀y∈l.take (Jg l x),Eh y x:=fun y hy=>by
  have:=P1 _ l y hy
  simp only [Bool.not_eq_false',decide_eq_true_eq] at this
  exact Lo.1 this
 have hhi:∀y∈l.drop (Jg l x),Eh x y:=by
  by_cases hk:Jg l x<l.length
  ·have hat:=Tq (fun y=>!decide (Jh y x<0)) l hk
   simp only [Bool.not_eq_true',decide_eq_false_iff_not] at hat
   have hat:¬ Eh (l.getD (Jg l x) default) x:=fun hc=>hat (Lo.2 hc)
   have hne:l.getD (Jg l x) default≠x:=fun e=>hx (e▸B9 hk)
   have h0:=Eh.tri hne hat
   intro y hy
   rw [List.drop_eq_getElem_cons hk] at hy h2
   have e0:l[Jg l x]=l.getD (Jg l x) default:=by simp [List.getD,hk]
   rw [e0] at hy h2
   rcases List.mem_cons.1 hy with rfl|hy
   ·exact h0
   exact h0.trans ((List.pairwise_cons.1 h2).1 y hy)
  rw [List.drop_of_length_le Ab];simp
 refine List.pairwise_append.2 ⟨h1,List.pairwise_cons.2 ⟨hhi,h2⟩,fun y hy z hz=>?_⟩
 rcases List.mem_cons.1 hz with rfl|hz
 ·exact hlo y hy
 exact (hlo y hy).trans (hhi z hz)
theorem A5v {l:List Be}{x:Be}(h:l.Pairwise Eh):(J8 l x).1.Pairwise Eh:=by
 unfold J8
 split
 ·exact h
 exact B0r (h.sublist List.filter_sublist)
theorem Xh {k:Int}{l:List Be}{x:Be}(h:l.Pairwise Eh):(Do k l x).1.Pairwise Eh:=by
 unfold Do
 split
 ·exact A5v h
 split
 ·split
  ·exact h
  exact B0r h
 exact h
theorem Y1 {x:An}{k v:Int}(hx:Jd x)(h:Mn k v):Mn (C8 x k v).1 (C8 x k v).2.1:=by
 obtain ⟨_,h2,_,h4,_⟩:=hx
 unfold C8
 obtain ⟨⟨a1,a2⟩,a3,a4⟩:=h
 have hm:=Int.tmod_lt_of_pos (k+x.a) (show (0:Int)<100 by decide)
 (repeat' split)<;>simp only [Mn] at * <;>(try (rename_i hk;have:=h2 hk))<;>(try (rename_i hk;have:=h4 hk;have:=Int.tmod_nonneg 100 (show 0≤k+x.a by omega)))<;>omega
theorem Rw {s:Bs}(h:(D8 s).2=true):(D8 s).1=⟨s.epoch,s.turn+1⟩∧(0≤s.epoch∧s.epoch≤3)∧0≤s.turn∧s.turn<6:=by
 unfold D8 at *
 split at h
 ·rename_i hs
  rw [if_pos hs]
  have:=of_decide_eq_true hs.1
  exact ⟨rfl,this.1,this.2.1,hs.2⟩
 cases h
theorem X9 {g:Ao}{op:Int}(h:Fa g)(h0:0≤op)(h1:op<g.nodes.length):Nn g op.toNat:=h.2.2.2 op.toNat Ab
theorem A8u {g:Ao}{r:A9}(h:Kg g r):Qt g.nodes.length (Mk g r):=by
 obtain ⟨hg,hr,ho⟩:=h
 obtain ⟨r1,r2,r3,r4,r5⟩:=hr
 have hn:=X9 hg r1.1 ho
 have hc:=Y1 (k:=r.key) (v:=r.val) hn.1 ⟨r4,r5⟩
 unfold Mk
 intro q hq
 split at hq
 ·simp at hq
 rename_i hb
 obtain ⟨k,hk,rfl⟩:=List.mem_map.1 hq
 have he:=hn.2.2 k hk
 have hk7:=hn.1.2.2.2.2.2.2.2.2 k hk
 refine ⟨⟨hk7,?_,?_,hc.1,hc.2⟩,he.1⟩
 ·simp only
  split
  ·rename_i h7
   have:=Rw (s:=r.stamp) (by simpa [h7] using hb)
   rw [this.1];exact this.2.1
  exact r2
 simp only
 split
 ·rename_i h7
  have:=Rw (s:=r.stamp) (by simpa [h7] using hb)
  rw [this.1];simp only;omega
 exact r3
theorem Vl {g:Ao}{cs:List Be}{r:A9}:Qt g.nodes.length (Er g cs r).2.1:=by
 unfold Er
 split
 ·rename_i h
  (repeat' split)
  ·intro q hq;simp at hq
  ·intro q hq;simp at hq
  exact A8u h
 intro q hq;simp at hq
theorem A7j {g:Ao}{cs:List Be}{r:A9}(h:cs.Pairwise Eh):(Er g cs r).1.Pairwise Eh:=by
 unfold Er
 (repeat' split)
 ·exact h
 ·exact Xh h
 ·exact Xh h
 exact h
theorem A6c {g:Ao}{r:A9}(h:Kg g r):(Mk g r).length≤2:=by
 unfold Mk
 have:=(X9 h.1 h.2.1.1.1 h.2.2).1.2.2.2.2.2.1
 split
 ·simp
 rw [List.length_map];exact this
theorem A3t {g:Ao}{cs:List Be}{r:A9}:(Er g cs r).2.1.length≤2:=by
 unfold Er
 split
 ·rename_i h
  (repeat' split)
  ·simp
  ·simp
  exact A6c h
 simp
theorem A49 {l:List Be}{x:Be}:(Fp l x).length≤l.length+1:=by
 unfold Fp
 split
 ·omega
 have:=Tr (fun y=>!decide (Jh y x<0)) l
 simp only [List.length_append,List.length_cons,List.length_take,List.length_drop,Jg]
 omega
theorem Uv {k:Int}{l:List Be}{x:Be}:(Do k l x).1.length≤l.length+1:=by
 unfold Do
 split
 ·unfold J8
  split
  ·simp
  have h1:=A49 (l:=l.filter fun y=>!Bt x y) (x:=x)
  have h2:=List.length_filter_le (fun y=>!Bt x y) l
  simp only
  omega
 split
 ·split
  ·simp
  exact A49
 simp
theorem A1u {g:Ao}{cs:List Be}{r:A9}:(Er g cs r).1.length≤cs.length+1:=by
 unfold Er
 (repeat' split)
 ·simp
 ·exact Uv
 ·exact Uv
 simp
theorem A6o {l:List A9}(h:A5n l):A5n (l.drop 1):=by
 intro i hi
 obtain ⟨h1,h2,h3⟩:=h (i+1) (by simp at hi;omega)
 have e:∀j,(l.drop 1).getD j default=l.getD (j+1) default:=fun j=>by simp [List.getD,Nat.add_comm]
 refine ⟨by rw [e];exact h1,by rw [e];exact h2,fun h0=>?_⟩
 rw [e,e,show i-1+1=i by omega]
 exact h3 Ab
theorem Nt {n k:Nat}{l:List A9}(h:Qt n l):Qt n (l.drop k):=fun r hr=>h r (List.mem_of_mem_drop hr)
theorem Rb {n:Nat}{l:List A9}{r:A9}(h:Qt n l)(hr:H7 r∧r.op<n):Qt n (l++[r]):=fun q hq=>by
 rcases List.mem_append.1 hq with hq|hq
 ·exact h q hq
 rw [List.mem_singleton.1 hq];exact hr
theorem A7q {g:Ao}{w:Ac}(h:Cs g.nodes.length w):Cs g.nodes.length (I7 g w):=by
 obtain ⟨⟨a1,a2,a3,a4⟩,⟨l1,l2,l3⟩,hi,hs,hd⟩:=h
 refine ⟨⟨Nt a1,Vl,a3,Tj.2 (A7j (Tj.1 a4))⟩,⟨l1,l2,?_⟩,hi,hs,hd⟩
 simp only [I7]
 split
 ·rw [List.length_set];exact l3
 exact l3
theorem Zv {n:Nat}{w:Ac}(h:Cs n w)(h0:0<w.inputs.length):Cs n (Iw w):=by
 obtain ⟨⟨a1,a2,a3,a4⟩,hl,hi,hs,hd⟩:=h
 exact ⟨⟨Rb a1 (a3 _ (B9 h0)),a2,Nt a3,a4⟩,hl,A6o hi,hs,hd⟩
theorem Yh {n:Nat}{w:Ac}{r:A9}(h:Cs n w)(hr:H7 r∧r.op<n):Cs n (kept w r):=by
 obtain ⟨⟨a1,a2,a3,a4⟩,hl,hi,hs,hd⟩:=h
 exact ⟨⟨Rb a1 hr,a2,a3,a4⟩,hl,hi,hs,hd⟩
theorem Pe {n:Nat}{w:Ac}(h:Cs n w):Cs n (E7 w):=by
 obtain ⟨⟨a1,a2,a3,a4⟩,hl,hi,hs,hd⟩:=h
 exact ⟨⟨a1,Nt a2,a3,a4⟩,hl,hi,hs,hd⟩
theorem Th {n:Nat}{w:Ac}{e:Int}{b:Bool}(h:Cs n w):Cs n ⟨w.queue,w.staged,w.inputs,w.cells,w.sums,w.black.set e.toNat b,w.caps,w.dones⟩:=by
 obtain ⟨ha,⟨l1,l2,l3⟩,hi,hs,hd⟩:=h
 exact ⟨ha,⟨l1,by simpa using l2,l3⟩,hi,hs,hd⟩
theorem A4d {n:Nat}{w:Ac}{e k:Int}(h:Cs n w)(h1:0≤e∧e≤3):Cs n (F4 w e k)↔Hv (w.sums.getD e.toNat default+k):=by
 obtain ⟨ha,⟨l1,l2,l3⟩,hi,hs,hd⟩:=h
 have hlt:e.toNat<w.sums.length:=by omega
 constructor
 ·rintro ⟨_,_,_,hs',_⟩
  have:=hs' (w.sums.getD e.toNat default+k) (by simp only [F4];exact List.mem_set hlt _)
  exact this
 intro hk
 refine ⟨ha,⟨by simpa [F4] using l1,l2,l3⟩,hi,fun m hm=>?_,hd⟩
 simp only [F4] at hm
 rcases List.mem_or_eq_of_mem_set hm with h|rfl
 ·exact hs m h
 exact hk
theorem A0h {n:Nat}{w:Ac}{e:Int}{b:Bool}(h:Cs n w)(h1:0≤e∧e≤3)(h2:G0 w e=false):Cs n (Gr w ⟨e,b⟩):=by
 obtain ⟨ha,hl,hi,hs,hd⟩:=h
 refine ⟨ha,hl,hi,hs,fun i hi'=>?_⟩
 simp only [Gr,List.length_append,List.length_singleton] at hi'
 have e1:∀j,j<w.dones.length→(w.dones++[(⟨e,b⟩:Fi)]).getD j default=w.dones.getD j default:=fun j hj=>by simp [List.getD,List.getElem?_append_left hj]
 have e2:(w.dones++[(⟨e,b⟩:Fi)]).getD w.dones.length default=⟨e,b⟩:=by simp [List.getD]
 simp only [Gr]
 by_cases hlt:i<w.dones.length
 ·obtain ⟨d1,d2⟩:=hd i hlt
  exact ⟨by rw [e1 i hlt];exact d1,fun k hk=>by rw [e1 i hlt,e1 k Ab];exact d2 k hk⟩
 obtain rfl:i=w.dones.length:=by omega
 refine ⟨by rw [e2];exact h1,fun k hk=>?_⟩
 rw [e2,e1 k hk]
 intro hc
 have:G0 w e=true:=List.any_eq_true.2 ⟨w.dones.getD k default,B9 hk,by simpa using hc⟩
 rw [h2] at this
 cases this
theorem Ha {α:Type}{l:List α}{i:Nat}{a x:α}(h:x∈l.set i a):x∈l∨x=a:=List.mem_or_eq_of_mem_set h
theorem H1 {c:A6}{j:Int}{w:Ac}(h:B4 c)(hj:0≤j∧j<c.workers.length):B4 (Bc c j w)↔Cs c.graph.nodes.length w:=by
 obtain ⟨⟨g1,g2,g3,g4⟩,hw,hl,ht,hn⟩:=h
 have hlt:j.toNat<c.workers.length:=by omega
 constructor
 ·rintro ⟨_,hw',_⟩
  exact hw' w (by simp only [Bc];exact List.mem_set hlt _)
 intro h
 refine ⟨⟨g1,by simpa [Bc] using g2,g3,g4⟩,fun x hx=>?_,hl,ht,hn⟩
 rcases Ha hx with hx|rfl
 ·exact hw x hx
 exact h
theorem Rg {c:A6}{k:Int}{l:B8}(h:B4 c)(hl':Fq l∧Wm c k.toNat l):B4 (Cb c k l):=by
 obtain ⟨⟨g1,g2,g3,g4⟩,hw,hl,ht,hn⟩:=h
 refine ⟨⟨g1,g2,by simpa [Cb] using g3,g4⟩,hw,fun i hi=>?_,ht,hn⟩
 simp only [Cb,List.length_set] at hi
 show Fq ((c.links.set k.toNat l).getD i default)∧Wm c i ((c.links.set k.toNat l).getD i default)
 by_cases e:i=k.toNat
 ·subst e
  rw [Sx.getD_set_self _ _ _ _ hi]
  exact hl'
 rw [Sx.getD_set_ne _ _ _ _ _ e]
 exact hl i hi
theorem Jx {c:A6}{f t:Int}(h:B4 c)(hf:0≤f∧f<c.graph.workers)(ht:0≤t∧t<c.graph.workers):
  (0≤Ay c f t∧Ay c f t<c.links.length)∧((Ay c f t).toNat:Int).tdiv c.graph.workers=f∧((Ay c f t).toNat:Int).tmod c.graph.workers=t:=by
 have hl:=h.1.2.2.1
 have hn:=h.1.1.2.1
 unfold Ay
 have hw:c.graph.workers=1∨c.graph.workers=2∨c.graph.workers=3∨c.graph.workers=4:=by omega
 have h0:0≤f * c.graph.workers:=Int.mul_nonneg hf.1 Ab
 have hfw:f=0∨f=1∨f=2∨f=3:=by omega
 have htw:t=0∨t=1∨t=2∨t=3:=by omega
 rw [hl]
 generalize c.graph.workers=n at *
 rcases hw with rfl|rfl|rfl|rfl<;>rcases hfw with rfl|rfl|rfl|rfl<;>rcases htw with rfl|rfl|rfl|rfl<;>first|omega|(refine ⟨⟨by decide,by decide⟩,by decide,by decide⟩)
theorem Q9 {c:A6}{k:Int}(h:B4 c)(hk:0≤k∧k<c.links.length):Fq (Bz c k)∧Wm c k.toNat (Bz c k):=h.2.2.1 k.toNat Ab
theorem A7c {l:B8}{r:A9}(h:Fq l):Fq (Cl l r).1:=by
 unfold Cl
 split
 ·rename_i hs
  obtain ⟨⟨h1,h2,h3,h4,h5,h6,h7⟩,hq⟩:=h
  obtain ⟨_,hr,hc,hs⟩:=hs
  refine ⟨?_,fun q hq'=>?_⟩
  ·simp only [T6,List.length_append,List.length_singleton]
   omega
  rcases List.mem_append.1 hq' with hq'|hq'
  ·exact hq q hq'
  rw [List.mem_singleton.1 hq'];exact hr
 exact h
theorem A10 {l:B8}(h:Fq l):Fq (C3 l).1:=by
 unfold C3
 split
 ·rename_i hs
  obtain ⟨⟨h1,h2,h3,h4,h5,h6,h7⟩,hq⟩:=h
  refine ⟨?_,fun q hq'=>hq q (List.mem_of_mem_drop hq')⟩
  simp only [T6,List.length_drop]
  omega
 exact h
theorem W1 {l:B8}(h:Fq l):Fq (D3 l).1:=by
 unfold D3
 split
 ·rename_i hs
  obtain ⟨⟨h1,h2,h3,h4,h5,h6,h7⟩,hq⟩:=h
  refine ⟨?_,hq⟩
  simp only [T6]
  omega
 exact h
theorem A26 {k n:Int}(hk:0≤k)(hn:1≤n):0≤Eo k n∧Eo k n<n:=by
 have h1:=Int.tmod_lt_of_pos k (show 0<n by omega)
 have h2:=Int.tmod_nonneg n hk
 unfold Eo
 (repeat' split)<;>omega
theorem A7p {c:A6}{w:Int}(h:Gp c w):B4 (Bc c w (Fc c.graph (Af c w)).1):=by
 obtain ⟨hc,h0,h1⟩:=h
 have hw:=hc.2.1 _ (B9 (d:=default) (show w.toNat<c.workers.length by omega))
 refine (H1 hc ⟨h0,h1⟩).2 ?_
 unfold Fc
 split
 ·exact A7q hw
 exact hw
theorem A09 {c:A6}{w:Int}(h:B4 c):B4 (E5 c w).1:=by
 unfold E5
 split
 ·exact A7p ‹_›
 exact h
theorem Yv {c:A6}{w:Int}(h:B4 c):B4 (Dn c w).1:=by
 unfold Dn
 split
 ·rename_i hW
  obtain ⟨hc,h0,h1⟩:=hW
  have hw:=hc.2.1 _ (B9 (d:=default) (show w.toNat<c.workers.length by omega))
  refine (H1 hc ⟨h0,h1⟩).2 ?_
  unfold Dd
  split
  ·rename_i hi;exact Zv hw hi.2.2.2.2
  exact hw
 exact h
theorem Mf {c:A6}{w:Int}(hc:B4 c)(h:0≤w∧w<c.workers.length):Cs c.graph.nodes.length (Af c w):=hc.2.1 _ (B9 (d:=default) (show w.toNat<c.workers.length by omega))
theorem Q1 {c:A6}{w:Int}(h:Gp c w)(hs:0<(Af c w).staged.length):H7 (Bf c w)∧(Bf c w).op<c.graph.nodes.length:=(Mf h.1 h.2).1.2.1 _ (B9 hs)
theorem X7 {c:A6}{w:Int}(h:Gp c w)(hs:0<(Af c w).staged.length):0≤Bb c w∧Bb c w<c.graph.workers:=
 A26 (Q1 h hs).1.2.2.2.1.1 h.1.1.1.2.1.1
theorem Ub {c:A6}{w:Int}(h:Gp c w)(hs:0<(Af c w).staged.length)(hne:Bb c w≠w):B4 (Cb c (Ay c w (Bb c w)) (Cl (Bz c (Ay c w (Bb c w))) (Bf c w)).1):=by
 have hw:0≤w∧w<c.graph.workers:=by have:=h.1.1.2.1;exact ⟨h.2.1,by have:=h.2.2;omega⟩
 obtain ⟨b1,b2,b3⟩:=Jx h.1 hw (X7 h hs)
 obtain ⟨k1,k2,k3,k4⟩:=Q9 h.1 b1
 refine Rg h.1 ⟨A7c k1,?_⟩
 unfold Cl
 split
 ·exact ⟨k2,Rb k3 (Q1 h hs),fun e=>absurd (by rw [b2,b3] at e;exact e.symm) hne⟩
 exact ⟨k2,k3,k4⟩
def Yn (c:A6) (w:Int):Int:=(Af c w).sums.getD (Bf c w).stamp.epoch.toNat default+1
theorem S7 {n:Nat}{w:Ac}{e:Int}(h:Cs n w)(he:0≤e∧e≤3):Hc w e=F4 w e 1:=by
 have:=h.2.1.1
 unfold Hc
 rw [if_pos Ab]
theorem Nb {c:A6}{w:Int}(h:B4 c):B3 (Ce c w).1=(if (Ce c w).2=true∧Bb c w≠w then decide (Hv (Yn c w)) else true):=by
 unfold Ce
 by_cases hm:Gp c w∧0<(Af c w).staged.length
 ·obtain ⟨hW,hs⟩:=hm
  rw [if_pos ⟨hW,hs⟩]
  have hfo:=Q1 hW hs
  by_cases hself:Bb c w=w
  ·simp only [hself,if_true,ne_eq,not_true_eq_false,and_false,if_false]
   exact decide_eq_true ((H1 h hW.2).2 (Yh (Pe (Mf h hW.2)) hfo))
  rw [if_neg hself]
  by_cases hsend:(Cl (Bz c (Ay c w (Bb c w))) (Bf c w)).2=true
  ·rw [if_pos hsend]
   simp only [true_and,if_pos hself,ne_eq,hself,not_false_eq_true,and_self,if_true]
   have hc2:=Ub hW hs hself
   unfold B3
   refine decide_eq_decide.2 ?_
   have hw:=Pe (Mf h hW.2)
   rw [H1 hc2 hW.2,S7 hw hfo.1.2.1]
   exact A4d hw hfo.1.2.1
  rw [if_neg hsend]
  simp only [Bool.false_eq_true,false_and,if_false]
  exact decide_eq_true h
 rw [if_neg hm]
 simp only [Bool.false_eq_true,false_and,if_false]
 exact decide_eq_true h
theorem Vq {c:A6}{f t:Int}(h:Lg c f t):B4 (Cb c (Ay c f t) (C3 (Bz c (Ay c f t))).1):=by
 obtain ⟨b1,b2,b3⟩:=Jx h.1 h.2.2.1 h.2.2.2
 obtain ⟨k1,k2,k3,k4⟩:=Q9 h.1 b1
 refine Rg h.1 ⟨A10 k1,?_⟩
 unfold C3
 split
 ·exact ⟨k2,Nt k3,fun e=>absurd (by rw [b2,b3] at e;exact e) h.2.1⟩
 exact ⟨k2,k3,k4⟩
def Jb (c:A6) (f t:Int):A9:=(C3 (Bz c (Ay c f t))).2.1
theorem A12 {c:A6}{f t:Int}(h:Lg c f t)(hk:(C3 (Bz c (Ay c f t))).2.2=true):H7 (Jb c f t)∧(Jb c f t).op<c.graph.nodes.length:=by
 obtain ⟨b1,b2,b3⟩:=Jx h.1 h.2.2.1 h.2.2.2
 obtain ⟨k1,k2,k3,k4⟩:=Q9 h.1 b1
 unfold Jb
 unfold C3 at hk ⊢
 split at hk
 ·rename_i hp
  rw [if_pos hp]
  exact k3 _ (B9 hp.2)
 cases hk
def Zb (c:A6) (f t:Int):Int:=(Af c t).sums.getD (Jb c f t).stamp.epoch.toNat default+ -1
theorem S3 {n:Nat}{w:Ac}{r:A9}(h:Cs n w)(he:0≤r.stamp.epoch∧r.stamp.epoch≤3):Ea w r=I0 (F4 (kept w r) r.stamp.epoch (-1)) r.stamp.epoch:=by
 have:=h.2.1.1
 have:=h.2.1.2.1
 unfold Ea
 rw [if_pos Ab]
theorem Ws {n:Nat}{w:Ac}{e:Int}{b:Bool}:Cs n ⟨w.queue,w.staged,w.inputs,w.cells,w.sums,w.black.set e.toNat b,w.caps,w.dones⟩↔Cs n w:=by
 refine ⟨fun h=>?_,Th⟩
 obtain ⟨ha,⟨l1,l2,l3⟩,hi,hs,hd⟩:=h
 exact ⟨ha,⟨l1,by simpa using l2,l3⟩,hi,hs,hd⟩
theorem Ry {c:A6}{f t:Int}(h:B4 c):B3 (D9 c f t).1=(if (D9 c f t).2=true then decide (Hv (Zb c f t)) else true):=by
 unfold D9
 by_cases hm:Lg c f t∧(C3 (Bz c (Ay c f t))).2.2=true
 ·rw [if_pos hm]
  obtain ⟨hL,hk⟩:=hm
  have hto:=A12 hL hk
  have hc2:=Vq hL
  have ht:0≤t∧t<c.workers.length:=by have:=h.1.2.1;have:=hL.2.2.2;omega
  simp only [if_true]
  unfold B3
  refine decide_eq_decide.2 ?_
  rw [H1 hc2 ht]
  have hw:=Mf h ht
  show Cs _ (Ea (Af c t) (Jb c f t))↔_
  rw [S3 hw hto.1.2.1]
  exact (Ws (w:=F4 (kept (Af c t) (Jb c f t)) (Jb c f t).stamp.epoch (-1))).trans (A4d (Yh hw hto) hto.1.2.1)
 rw [if_neg hm]
 simp only [Bool.false_eq_true,if_false]
 exact decide_eq_true h
theorem W6 {c:A6}{f t:Int}(h:B4 c):B4 (Dl c f t).1:=by
 unfold Dl
 split
 ·rename_i hL
  obtain ⟨b1,b2,b3⟩:=Jx h hL.2.2.1 hL.2.2.2
  obtain ⟨k1,k2,k3,k4⟩:=Q9 h b1
  refine Rg h ⟨W1 k1,?_⟩
  unfold D3
  split
  ·exact ⟨k2,k3,k4⟩
  exact ⟨k2,k3,k4⟩
 exact h
theorem A4y {c:A6}{l:List Fm}(h:B4 c)(hl:∀x∈l,Mg c.graph.workers x):B4 ⟨c.graph,c.workers,c.links,c.tokens,l⟩:=⟨h.1,h.2.1,h.2.2.1,h.2.2.2.1,hl⟩
theorem R8 {c:A6}{w:Int}(h:B4 c)(hn:c.news.any (Ky w)=true):Gg c w∈c.news∧(Gg c w).to_=w:=by
 obtain ⟨x,hx,hw⟩:=List.any_eq_true.1 hn
 have hlt:P5 c w<c.news.length:=by
  by_cases hlt:P5 c w<c.news.length
  ·exact hlt
  have:=Tr (Ky w) c.news
  have he:Gs (Ky w) c.news=c.news.length:=by unfold P5 at hlt;omega
  have:=P1 (Ky w) c.news x (by rw [he,List.take_length];exact hx)
  rw [hw] at this;cases this
 have:=Tq (Ky w) c.news hlt
 exact ⟨B9 hlt,eq_of_beq this⟩
theorem A0p {c:A6}{w:Int}(h:B4 c):B4 (Dw c w).1:=by
 unfold Dw
 split
 ·rename_i hn
  have hh:B4 (Kq c w):=A4y h fun x hx=>h.2.2.2.2 x (List.mem_of_mem_eraseIdx hx)
  obtain ⟨m1,m2⟩:=R8 h hn.2
  have hN:=h.2.2.2.2 _ m1
  have hw:0≤w∧w<c.workers.length:=by have:=h.1.2.1;have:=hN.1;omega
  split
  ·exact hh
  rename_i hd
  have hwk:=A0h (b:=(Gg c w).capped) (Mf h hw) hN.2 (by simpa using hd)
  exact (H1 hh hw).2 hwk
 exact h
theorem Rh {c:A6}{e:Int}{t:Di}(h:B4 c)(ht:Mv c.graph.workers t):B4 (D7 c e t):=by
 obtain ⟨⟨g1,g2,g3,g4⟩,hw,hl,htt,hn⟩:=h
 refine ⟨⟨g1,g2,g3,by simpa [D7] using g4⟩,hw,hl,fun x hx=>?_,hn⟩
 rcases Ha hx with hx|rfl
 ·exact htt x hx
 exact ht
theorem Ze {c:A6}{e:Int}(h:B4 c):B4 (Cq c e).1:=by
 unfold Cq
 split
 ·rename_i hT
  obtain ⟨_,he,hD,hP⟩:=hT
  have htl:=h.1.2.2.2
  have hTP:Mv c.graph.workers (Ag c e):=h.2.2.2.1 _ (B9 (d:=default) (show e.toNat<c.tokens.length by omega))
  have hn1:=h.1.1.2.1
  have hwl:=h.1.2.1
  have hat:0≤(Ag c e).at_∧(Ag c e).at_<c.workers.length:=by have:=hTP.1;omega
  have hwk:=Mf h hat
  simp only
  split
  ·have h1:Mv c.graph.workers ⟨true,(c.workers.length:Int)-1,0,false,(Af c (Ag c e).at_).caps.getD e.toNat default⟩:=⟨⟨by show (0:Int)≤(c.workers.length:Int)-1;omega,by show (c.workers.length:Int)-1≤_;omega⟩,(fun hc=>Bool.noConfusion hc),(by show (-1000000:Int)≤0;decide),(by show (0:Int)≤1000000;decide)⟩
   exact (H1 (Rh (e:=e) h h1) hat).2 (Th hwk)
  split
  ·split
   ·rename_i hg ha hs
    have h1:Mv c.graph.workers ⟨(Ag c e).going,(Ag c e).at_-1,(Ag c e).sum+(Af c (Ag c e).at_).sums.getD e.toNat default,(Ag c e).black||(Af c (Ag c e).at_).black.getD e.toNat default,(Ag c e).capped||(Af c (Ag c e).at_).caps.getD e.toNat default⟩:=
     ⟨⟨by show 0≤(Ag c e).at_-1;omega,by show (Ag c e).at_-1≤_;have:=hTP.1;omega⟩,fun hc=>absurd hc hg,hs⟩
    exact (H1 (Rh (e:=e) h h1) hat).2 (Th hwk)
   exact h
  rename_i hg ha
  have hA:(Ag c e).at_=0:=by have:=hTP.1;omega
  have hc1:B4 (D7 c e ⟨false,(Ag c e).at_,(Ag c e).sum,(Ag c e).black,(Ag c e).capped⟩):=Rh h ⟨hTP.1,fun _=>hA,hTP.2.2⟩
  unfold Ip
  split
  ·have hw0:(0:Int)≤0∧(0:Int)<c.workers.length:=by omega
   have hd0:G0 (Af c (Ag c e).at_) e=false:=by rw [hA];exact hD
   have hdw:=A0h (b:=((Ag c e).capped||(Af c (Ag c e).at_).caps.getD e.toNat default)) hwk he hd0
   have hw1:=(H1 (j:=0) hc1 hw0).2 hdw
   refine A4y hw1 fun x hx=>?_
   rcases List.mem_append.1 hx with hx|hx
   ·exact h.2.2.2.2 x hx
   obtain ⟨i,hi,rfl⟩:=List.mem_map.1 hx
   have:=List.mem_range.1 hi
   have hl2:(D7 c e ⟨false,(Ag c e).at_,(Ag c e).sum,(Ag c e).black,(Ag c e).capped⟩).workers.length=c.workers.length:=rfl
   rw [hl2] at this
   refine ⟨⟨by show (0:Int)≤(i:Int)+1;omega,?_⟩,he⟩
   show (i:Int)+1≤c.graph.workers-1
   omega
  exact hc1
 exact h
theorem Sh {c : A6} {p : D5} (h : B4 c) : B3 (As c p).1 =
    (if p.kind = 3 then (if (Ce c p.a).2 = true ∧ Bb c p.a ≠ p.a then decide (Hv (Yn c p.a)) else true)
     else if p.kind = 4 then (if (D9 c p.a p.b).2 = true then decide (Hv (Zb c p.a p.b)) else true) else true) := by
  unfold As
  by_cases h1 : p.kind = 1
  · rw [if_pos h1, if_neg Ab, if_neg Ab]; exact decide_eq_true (A09 h)
  by_cases h2 : p.kind = 2
  · rw [if_neg h1, if_pos h2, if_neg Ab, if_neg Ab]; exact decide_eq_true (Yv h)
  by_cases h3 : p.kind = 3
  · rw [if_neg h1, if_neg h2, if_pos h3, if_pos h3]; exact Nb h
  by_cases h4 : p.kind = 4
  · rw [if_neg h1, if_neg h2, if_neg h3, if_pos h4, if_neg h3, if_pos h4]; exact Ry h
  by_cases h5 : p.kind = 5
  · rw [if_neg h1, if_neg h2, if_neg h3, if_neg h4, if_pos h5, if_neg h3, if_neg h4]; exact decide_eq_true (W6 h)
  by_cases h6 : p.kind = 6
  · rw [if_neg h1, if_neg h2, if_neg h3, if_neg h4, if_neg h5, if_pos h6, if_neg h3, if_neg h4]; exact decide_eq_true (Ze h)
  by_cases h7 : p.kind = 7
  · rw [if_neg h1, if_neg h2, if_neg h3, if_neg h4, if_neg h5, if_neg h6, if_pos h7, if_neg h3, if_neg h4]; exact decide_eq_true (A0p h)
  · rw [if_neg h1, if_neg h2, if_neg h3, if_neg h4, if_neg h5, if_neg h6, if_neg h7, if_neg h3, if_neg h4]; exact decide_eq_true h
end Go.Proofs.YtdendlkeiaccpaaGreat
