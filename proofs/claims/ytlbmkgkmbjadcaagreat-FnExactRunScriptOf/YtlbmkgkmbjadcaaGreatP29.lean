/- Part 29 of the proof that each of the laws FnExactRunScriptOf, FnExactSpreadResult returns true for every input. No conditions. -/
import Derived.Test.YtlbmkgkmbjadcaaGreatP21
import Derived.Test.YtlbmkgkmbjadcaaGreatP28

set_option linter.unusedSimpArgs false
set_option linter.unusedVariables false
set_option maxRecDepth 100000
namespace Go.Proofs.YtlbmkgkmbjadcaaGreat
open Go.Sx
def Fk (a b:Aa):Prop:=a.epoch<b.epoch∨(a.epoch=b.epoch∧(a.op<b.op∨(a.op=b.op∧(a.key<b.key∨(a.key=b.key∧a.val<b.val)))))
theorem Nd {a b:Aa}:J6 a b<0↔Fk a b:=by
 simp only [J6,M5,P8,K9,Fk]
 (repeat' split)<;>omega
theorem Fk.trans {a b c:Aa}(h:Fk a b)(h':Fk b c):Fk a c:=by
 simp only [Fk] at *
 omega
theorem Fk.tri {a b:Aa}(h:a≠b)(h':¬ Fk a b):Fk b a:=by
 obtain ⟨a1,a2,a3,a4⟩:=a
 obtain ⟨b1,b2,b3,b4⟩:=b
 simp only [Fk,ne_eq,Aa.mk.injEq] at *
 omega
theorem Vq:∀{l:List Aa},N5 l↔l.Pairwise Fk
 | []=>by simp [N5]
 | [x]=>by simp [N5]
 |x::y::r=>by
  have ih:=Vq (l:=y::r)
  have h1:N5 (x::y::r)↔Fk x y∧N5 (y::r):=by
   constructor
   ·intro h
    refine ⟨Nd.1 (by simpa using h 0 C7),fun i hi=>?_⟩
    simpa using h (i+1) (by simp at hi ⊢;omega)
   ·rintro ⟨h1,h2⟩ i hi
    cases i with
    |zero=>simpa using Nd.2 h1
    |succ i=>simpa using h2 i (by simp at hi ⊢;omega)
  rw [h1,ih,List.pairwise_cons (a:=x)]
  constructor
  ·rintro ⟨h1,h2⟩
   refine ⟨fun z hz=>?_,h2⟩
   rcases List.mem_cons.1 hz with rfl|hz
   ·exact h1
   ·exact h1.trans ((List.pairwise_cons.1 h2).1 z hz)
  ·rintro ⟨h1,h2⟩
   exact ⟨h1 y C7,h2⟩
theorem W1 {α:Type}(p:α→Bool):∀l:List α,Fm p l≤l.length
 | []=>by simp [Fm]
 |x::r=>by
  have:=W1 p r
  simp only [Fm]
  split<;>simp<;>omega
theorem R0 {α:Type}(p:α→Bool):∀l:List α,∀x∈l.take (Fm p l),p x=false
 | []=>by simp [Fm]
 |x::r=>by
  intro y hy
  simp only [Fm] at hy
  split at hy
  ·simp at hy
  ·rename_i hx
   simp only [List.take_succ_cons,List.mem_cons] at hy
   rcases hy with rfl|hy
   ·simpa using hx
   ·exact R0 p r y hy
theorem W0 {α:Type} [Inhabited α] (p:α→Bool):∀l:List α,Fm p l<l.length→p (l.getD (Fm p l) default)=true
 | []=>by simp [Fm]
 |x::r=>by
  intro h
  simp only [Fm] at h ⊢
  split at h
  ·rename_i hx
   simp [hx]
  ·rename_i hx
   rw [if_neg hx]
   simpa using W0 p r (by simpa using h)
theorem B25 {l:List Aa}{x:Aa}(h:l.Pairwise Fk):(Du l x).Pairwise Fk:=by
 unfold Du
 split
 ·exact h
 ·rename_i hn
  have hx:x∉l:=fun hm=>hn (List.any_eq_true.2 ⟨x,hm,by simp⟩)
  have e:=(List.take_append_drop (Kf l x) l).symm
  rw [e] at h
  obtain ⟨h1,h2,h3⟩:=List.pairwise_append.1 h
  have hlo:∀y∈l.take (Kf l x),Fk y x:=fun y hy=>by
   have:=R0 _ l y hy
   simp only [Bool.not_eq_false',decide_eq_true_eq] at this
   exact Nd.1 this
  have hhi:∀y∈l.drop (Kf l x),Fk x y:=by
   by_cases hk:Kf l x<l.length
   ·have hat:=W0 (fun y=>!decide (J6 y x<0)) l hk
    simp only [Bool.not_eq_true',decide_eq_false_iff_not] at hat
    have hat:¬ Fk (l.getD (Kf l x) default) x:=fun hc=>hat (Nd.2 hc)
    have hne:l.getD (Kf l x) default≠x:=fun e=>hx (e▸B2 hk)
    have h0:=Fk.tri hne hat
    intro y hy
    rw [List.drop_eq_getElem_cons hk] at hy h2
    have e0:l[Kf l x]=l.getD (Kf l x) default:=by simp [List.getD,hk]
    rw [e0] at hy h2
    rcases List.mem_cons.1 hy with rfl|hy
    ·exact h0
    ·exact h0.trans ((List.pairwise_cons.1 h2).1 y hy)
   ·rw [List.drop_of_length_le Ad];simp
  refine List.pairwise_append.2 ⟨h1,List.pairwise_cons.2 ⟨hhi,h2⟩,fun y hy z hz=>?_⟩
  rcases List.mem_cons.1 hz with rfl|hz
  ·exact hlo y hy
  ·exact (hlo y hy).trans (hhi z hz)
theorem A8n {l:List Aa}{x:Aa}(h:l.Pairwise Fk):(Ih l x).1.Pairwise Fk:=by
 unfold Ih
 split
 ·exact h
 ·exact B25 (h.sublist List.filter_sublist)
theorem Zu {k:Int}{l:List Aa}{x:Aa}(h:l.Pairwise Fk):(Db k l x).1.Pairwise Fk:=by
 unfold Db
 split
 ·exact A8n h
 ·split
  ·split
   ·exact h
   ·exact B25 h
  ·exact h
theorem A0i {x:Au}{k v:Int}(hx:Jm x)(h:Me k v):Me (Bt x k v).1 (Bt x k v).2.1:=by
 obtain ⟨_,h2,_,h4,_⟩:=hx
 unfold Bt
 obtain ⟨⟨a1,a2⟩,a3,a4⟩:=h
 have hm:=Int.tmod_lt_of_pos (k+x.a) (show (0:Int)<100 by decide)
 (repeat' split)<;>simp only [Me] at * <;>(try (rename_i hk;have:=h2 hk))<;>(try (rename_i hk;have:=h4 hk;have:=Int.tmod_nonneg 100 (show 0≤k+x.a by omega)))<;>omega
theorem U6 {s:Dq}(h:(C8 s).2=true):(C8 s).1=⟨s.epoch,s.turn+1⟩∧(0≤s.epoch∧s.epoch≤3)∧0≤s.turn∧s.turn<6:=by
 unfold C8 at *
 split at h
 ·rename_i hs
  rw [if_pos hs]
  have:=of_decide_eq_true hs.1
  exact ⟨rfl,this.1,this.2.1,hs.2⟩
 ·cases h
theorem Zn {g:Ar}{op:Int}(h:H1 g)(h0:0≤op)(h1:op<g.nodes.length):M3 g op.toNat:=h.2.2.2 op.toNat Ad
theorem B1l {g:Ar}{r:A3}(h:Kr g r):Ss g.nodes.length (Ob g r):=by
 obtain ⟨hg,hr,ho⟩:=h
 obtain ⟨r1,r2,r3,r4,r5⟩:=hr
 have hn:=Zn hg r1.1 ho
 have hc:=A0i (k:=r.key) (v:=r.val) hn.1 ⟨r4,r5⟩
 unfold Ob
 intro q hq
 split at hq
 ·simp at hq
 ·rename_i hb
  obtain ⟨k,hk,rfl⟩:=List.mem_map.1 hq
  have he:=hn.2.2 k hk
  have hk7:=hn.1.2.2.2.2.2.2.2.2 k hk
  refine ⟨⟨hk7,?_,?_,hc.1,hc.2⟩,he.1⟩
  ·simp only
   split
   ·rename_i h7
    have:=U6 (s:=r.stamp) (by simpa [h7] using hb)
    rw [this.1];exact this.2.1
   ·exact r2
  ·simp only
   split
   ·rename_i h7
    have:=U6 (s:=r.stamp) (by simpa [h7] using hb)
    rw [this.1];simp only;omega
   ·exact r3
theorem A6q {g:Ar}{cs:List Aa}{r:A3}:Ss g.nodes.length (G1 g cs r).2.1:=by
 unfold G1
 split
 ·rename_i h
  (repeat' split)
  ·intro q hq;simp at hq
  ·intro q hq;simp at hq
  ·exact B1l h
 ·intro q hq;simp at hq
theorem B0f {g:Ar}{cs:List Aa}{r:A3}(h:cs.Pairwise Fk):(G1 g cs r).1.Pairwise Fk:=by
 unfold G1
 (repeat' split)
 ·exact h
 ·exact Zu h
 ·exact Zu h
 ·exact h
theorem A8z {g:Ar}{r:A3}(h:Kr g r):(Ob g r).length≤2:=by
 unfold Ob
 have:=(Zn h.1 h.2.1.1.1 h.2.2).1.2.2.2.2.2.1
 split
 ·simp
 ·rw [List.length_map];exact this
theorem A6p {g:Ar}{cs:List Aa}{r:A3}:(G1 g cs r).2.1.length≤2:=by
 unfold G1
 split
 ·rename_i h
  (repeat' split)
  ·simp
  ·simp
  ·exact A8z h
 ·simp
theorem A7z {l:List Aa}{x:Aa}:(Du l x).length≤l.length+1:=by
 unfold Du
 split
 ·omega
 ·have:=W1 (fun y=>!decide (J6 y x<0)) l
  simp only [List.length_append,List.length_cons,List.length_take,List.length_drop,Kf]
  omega
theorem Xb {k:Int}{l:List Aa}{x:Aa}:(Db k l x).1.length≤l.length+1:=by
 unfold Db
 split
 ·unfold Ih
  split
  ·simp
  ·have h1:=A7z (l:=l.filter fun y=>!Bn x y) (x:=x)
   have h2:=List.length_filter_le (fun y=>!Bn x y) l
   simp only
   omega
 ·split
  ·split
   ·simp
   ·exact A7z
  ·simp
theorem A4l {g:Ar}{cs:List Aa}{r:A3}:(G1 g cs r).1.length≤cs.length+1:=by
 unfold G1
 (repeat' split)
 ·simp
 ·exact Xb
 ·exact Xb
 ·simp
theorem A9g {l:List A3}(h:A4z l):A4z (l.drop 1):=by
 intro i hi
 obtain ⟨h1,h2,h3⟩:=h (i+1) (by simp at hi;omega)
 have e:∀j,(l.drop 1).getD j default=l.getD (j+1) default:=fun j=>by simp [List.getD,Nat.add_comm]
 refine ⟨by rw [e];exact h1,by rw [e];exact h2,fun h0=>?_⟩
 rw [e,e,show i-1+1=i by omega]
 exact h3 Ad
theorem Q0 {n k:Nat}{l:List A3}(h:Ss n l):Ss n (l.drop k):=fun r hr=>h r (List.mem_of_mem_drop hr)
theorem Tc {n:Nat}{l:List A3}{r:A3}(h:Ss n l)(hr:Gx r∧r.op<n):Ss n (l++[r]):=fun q hq=>by
 rcases List.mem_append.1 hq with hq|hq
 ·exact h q hq
 ·rw [List.mem_singleton.1 hq];exact hr
theorem B0l {g:Ar}{w:A6}(h:Da g.nodes.length w):Da g.nodes.length (Kq g w):=by
 obtain ⟨⟨a1,a2,a3,a4⟩,⟨l1,l2,l3⟩,hi,hs,hd⟩:=h
 refine ⟨⟨Q0 a1,A6q,a3,Vq.2 (B0f (Vq.1 a4))⟩,⟨l1,l2,?_⟩,hi,hs,hd⟩
 simp only [Kq]
 split
 ·rw [List.length_set];exact l3
 ·exact l3
theorem A2h {n:Nat}{w:A6}(h:Da n w)(h0:0<w.inputs.length):Da n (Ld w):=by
 obtain ⟨⟨a1,a2,a3,a4⟩,hl,hi,hs,hd⟩:=h
 exact ⟨⟨Tc a1 (a3 _ (B2 h0)),a2,Q0 a3,a4⟩,hl,A9g hi,hs,hd⟩
theorem A7l {n:Nat}{w:A6}{r:A3}(h:Da n w)(hr:Gx r∧r.op<n):Da n (kept w r):=by
 obtain ⟨⟨a1,a2,a3,a4⟩,hl,hi,hs,hd⟩:=h
 exact ⟨⟨Tc a1 hr,a2,a3,a4⟩,hl,hi,hs,hd⟩
theorem Xz {n:Nat}{w:A6}(h:Da n w):Da n (E4 w):=by
 obtain ⟨⟨a1,a2,a3,a4⟩,hl,hi,hs,hd⟩:=h
 exact ⟨⟨a1,Q0 a2,a3,a4⟩,hl,hi,hs,hd⟩
theorem Vo {n:Nat}{w:A6}{e:Int}{b:Bool}(h:Da n w):Da n ⟨w.queue,w.staged,w.inputs,w.cells,w.sums,w.black.set e.toNat b,w.caps,w.dones⟩:=by
 obtain ⟨ha,⟨l1,l2,l3⟩,hi,hs,hd⟩:=h
 exact ⟨ha,⟨l1,by simpa using l2,l3⟩,hi,hs,hd⟩
theorem A66 {n:Nat}{w:A6}{e k:Int}(h:Da n w)(h1:0≤e∧e≤3):Da n (Gj w e k)↔Hc (w.sums.getD e.toNat default+k):=by
 obtain ⟨ha,⟨l1,l2,l3⟩,hi,hs,hd⟩:=h
 have hlt:e.toNat<w.sums.length:=by omega
 constructor
 ·rintro ⟨_,_,_,hs',_⟩
  have:=hs' (w.sums.getD e.toNat default+k) (by simp only [Gj];exact List.mem_set hlt _)
  exact this
 ·intro hk
  refine ⟨ha,⟨by simpa [Gj] using l1,l2,l3⟩,hi,fun m hm=>?_,hd⟩
  simp only [Gj] at hm
  rcases List.mem_or_eq_of_mem_set hm with h|rfl
  ·exact hs m h
  ·exact hk
theorem A2p {n:Nat}{w:A6}{e:Int}{b:Bool}(h:Da n w)(h1:0≤e∧e≤3)(h2:Gp w e=false):Da n (H8 w ⟨e,b⟩):=by
 obtain ⟨ha,hl,hi,hs,hd⟩:=h
 refine ⟨ha,hl,hi,hs,fun i hi'=>?_⟩
 simp only [H8,List.length_append,List.length_singleton] at hi'
 have e1:∀j,j<w.dones.length→(w.dones++[(⟨e,b⟩:Bp)]).getD j default=w.dones.getD j default:=fun j hj=>by simp [List.getD,List.getElem?_append_left hj]
 have e2:(w.dones++[(⟨e,b⟩:Bp)]).getD w.dones.length default=⟨e,b⟩:=by simp [List.getD]
 simp only [H8]
 by_cases hlt:i<w.dones.length
 ·obtain ⟨d1,d2⟩:=hd i hlt
  exact ⟨by rw [e1 i hlt];exact d1,fun k hk=>by rw [e1 i hlt,e1 k Ad];exact d2 k hk⟩
 ·obtain rfl:i=w.dones.length:=by omega
  refine ⟨by rw [e2];exact h1,fun k hk=>?_⟩
  rw [e2,e1 k hk]
  intro hc
  have:Gp w e=true:=List.any_eq_true.2 ⟨w.dones.getD k default,B2 hk,by simpa using hc⟩
  rw [h2] at this
  cases this
theorem Qe {α:Type}{l:List α}{i:Nat}{a x:α}(h:x∈l.set i a):x∈l∨x=a:=List.mem_or_eq_of_mem_set h
theorem Hw {c:A4}{j:Int}{w:A6}(h:Bg c)(hj:0≤j∧j<c.workers.length):Bg (C0 c j w)↔Da c.graph.nodes.length w:=by
 obtain ⟨⟨g1,g2,g3,g4⟩,hw,hl,ht,hn⟩:=h
 have hlt:j.toNat<c.workers.length:=by omega
 constructor
 ·rintro ⟨_,hw',_⟩
  exact hw' w (by simp only [C0];exact List.mem_set hlt _)
 ·intro h
  refine ⟨⟨g1,by simpa [C0] using g2,g3,g4⟩,fun x hx=>?_,hl,ht,hn⟩
  rcases Qe hx with hx|rfl
  ·exact hw x hx
  ·exact h
theorem Ti {c:A4}{k:Int}{l:As}(h:Bg c)(hl':Gd l∧Yw c k.toNat l):Bg (Df c k l):=by
 obtain ⟨⟨g1,g2,g3,g4⟩,hw,hl,ht,hn⟩:=h
 refine ⟨⟨g1,g2,by simpa [Df] using g3,g4⟩,hw,fun i hi=>?_,ht,hn⟩
 simp only [Df,List.length_set] at hi
 show Gd ((c.links.set k.toNat l).getD i default)∧Yw c i ((c.links.set k.toNat l).getD i default)
 by_cases e:i=k.toNat
 ·subst e
  rw [Sx.getD_set_self _ _ _ _ hi]
  exact hl'
 ·rw [Sx.getD_set_ne _ _ _ _ _ e]
  exact hl i hi
theorem Ll {c:A4}{f t:Int}(h:Bg c)(hf:0≤f∧f<c.graph.workers)(ht:0≤t∧t<c.graph.workers):
  (0≤Az c f t∧Az c f t<c.links.length)∧((Az c f t).toNat:Int).tdiv c.graph.workers=f∧((Az c f t).toNat:Int).tmod c.graph.workers=t:=by
 have hl:=h.1.2.2.1
 have hn:=h.1.1.2.1
 unfold Az
 have hw:c.graph.workers=1∨c.graph.workers=2∨c.graph.workers=3∨c.graph.workers=4:=by omega
 have h0:0≤f * c.graph.workers:=Int.mul_nonneg hf.1 Ad
 have hfw:f=0∨f=1∨f=2∨f=3:=by omega
 have htw:t=0∨t=1∨t=2∨t=3:=by omega
 rw [hl]
 generalize c.graph.workers=n at *
 rcases hw with rfl|rfl|rfl|rfl<;>rcases hfw with rfl|rfl|rfl|rfl<;>rcases htw with rfl|rfl|rfl|rfl<;>first|omega|(refine ⟨⟨by decide,by decide⟩,by decide,by decide⟩)
theorem S3 {c:A4}{k:Int}(h:Bg c)(hk:0≤k∧k<c.links.length):Gd (Bv c k)∧Yw c k.toNat (Bv c k):=h.2.2.1 k.toNat Ad
theorem A97 {l:As}{r:A3}(h:Gd l):Gd (D6 l r).1:=by
 unfold D6
 split
 ·rename_i hs
  obtain ⟨⟨h1,h2,h3,h4,h5,h6,h7⟩,hq⟩:=h
  obtain ⟨_,hr,hc,hs⟩:=hs
  refine ⟨?_,fun q hq'=>?_⟩
  ·simp only [V8,List.length_append,List.length_singleton]
   omega
  ·rcases List.mem_append.1 hq' with hq'|hq'
   ·exact hq q hq'
   ·rw [List.mem_singleton.1 hq'];exact hr
 ·exact h
theorem A4o {l:As}(h:Gd l):Gd (C6 l).1:=by
 unfold C6
 split
 ·rename_i hs
  obtain ⟨⟨h1,h2,h3,h4,h5,h6,h7⟩,hq⟩:=h
  refine ⟨?_,fun q hq'=>hq q (List.mem_of_mem_drop hq')⟩
  simp only [V8,List.length_drop]
  omega
 ·exact h
theorem Ya {l:As}(h:Gd l):Gd (Dw l).1:=by
 unfold Dw
 split
 ·rename_i hs
  obtain ⟨⟨h1,h2,h3,h4,h5,h6,h7⟩,hq⟩:=h
  refine ⟨?_,hq⟩
  simp only [V8]
  omega
 ·exact h
theorem A50 {k n:Int}(hk:0≤k)(hn:1≤n):0≤E3 k n∧E3 k n<n:=by
 have h1:=Int.tmod_lt_of_pos k (show 0<n by omega)
 have h2:=Int.tmod_nonneg n hk
 unfold E3
 (repeat' split)<;>omega
theorem B0k {c:A4}{w:Int}(h:G2 c w):Bg (C0 c w (Ji c.graph (Ag c w)).1):=by
 obtain ⟨hc,h0,h1⟩:=h
 have hw:=hc.2.1 _ (B2 (d:=default) (show w.toNat<c.workers.length by omega))
 refine (Hw hc ⟨h0,h1⟩).2 ?_
 unfold Ji
 split
 ·exact B0l hw
 ·exact hw
theorem A3u {c:A4}{w:Int}(h:Bg c):Bg (Es c w).1:=by
 unfold Es
 split
 ·exact B0k ‹_›
 ·exact h
theorem A1h {c:A4}{w:Int}(h:Bg c):Bg (E5 c w).1:=by
 unfold E5
 split
 ·rename_i hW
  obtain ⟨hc,h0,h1⟩:=hW
  have hw:=hc.2.1 _ (B2 (d:=default) (show w.toNat<c.workers.length by omega))
  refine (Hw hc ⟨h0,h1⟩).2 ?_
  unfold Fw
  split
  ·rename_i hi;exact A2h hw hi.2.2.2.2
  ·exact hw
 ·exact h
theorem Ts {c:A4}{w:Int}(hc:Bg c)(h:0≤w∧w<c.workers.length):Da c.graph.nodes.length (Ag c w):=hc.2.1 _ (B2 (d:=default) (show w.toNat<c.workers.length by omega))
theorem W2 {c:A4}{w:Int}(h:G2 c w)(hs:0<(Ag c w).staged.length):Gx (Bi c w)∧(Bi c w).op<c.graph.nodes.length:=(Ts h.1 h.2).1.2.1 _ (B2 hs)
theorem Zk {c:A4}{w:Int}(h:G2 c w)(hs:0<(Ag c w).staged.length):0≤Bc c w∧Bc c w<c.graph.workers:=
 A50 (W2 h hs).1.2.2.2.1.1 h.1.1.1.2.1.1
theorem Wt {c:A4}{w:Int}(h:G2 c w)(hs:0<(Ag c w).staged.length)(hne:Bc c w≠w):Bg (Df c (Az c w (Bc c w)) (D6 (Bv c (Az c w (Bc c w))) (Bi c w)).1):=by
 have hw:0≤w∧w<c.graph.workers:=by have:=h.1.1.2.1;exact ⟨h.2.1,by have:=h.2.2;omega⟩
 obtain ⟨b1,b2,b3⟩:=Ll h.1 hw (Zk h hs)
 obtain ⟨k1,k2,k3,k4⟩:=S3 h.1 b1
 refine Ti h.1 ⟨A97 k1,?_⟩
 unfold D6
 split
 ·exact ⟨k2,Tc k3 (W2 h hs),fun e=>absurd (by rw [b2,b3] at e;exact e.symm) hne⟩
 ·exact ⟨k2,k3,k4⟩
def A1a (c:A4) (w:Int):Int:=(Ag c w).sums.getD (Bi c w).stamp.epoch.toNat default+1
theorem A4a {n:Nat}{w:A6}{e:Int}(h:Da n w)(he:0≤e∧e≤3):Hn w e=Gj w e 1:=by
 have:=h.2.1.1
 unfold Hn
 rw [if_pos Ad]
theorem Pc {c:A4}{w:Int}(h:Bg c):B8 (D0 c w).1=(if (D0 c w).2=true∧Bc c w≠w then decide (Hc (A1a c w)) else true):=by
 unfold D0
 by_cases hm:G2 c w∧0<(Ag c w).staged.length
 ·obtain ⟨hW,hs⟩:=hm
  rw [if_pos ⟨hW,hs⟩]
  have hfo:=W2 hW hs
  by_cases hself:Bc c w=w
  ·simp only [hself,if_true,ne_eq,not_true_eq_false,and_false,if_false]
   exact decide_eq_true ((Hw h hW.2).2 (A7l (Xz (Ts h hW.2)) hfo))
  ·rw [if_neg hself]
   by_cases hsend:(D6 (Bv c (Az c w (Bc c w))) (Bi c w)).2=true
   ·rw [if_pos hsend]
    simp only [true_and,if_pos hself,ne_eq,hself,not_false_eq_true,and_self,if_true]
    have hc2:=Wt hW hs hself
    unfold B8
    refine decide_eq_decide.2 ?_
    have hw:=Xz (Ts h hW.2)
    rw [Hw hc2 hW.2,A4a hw hfo.1.2.1]
    exact A66 hw hfo.1.2.1
   ·rw [if_neg hsend]
    simp only [Bool.false_eq_true,false_and,if_false]
    exact decide_eq_true h
 ·rw [if_neg hm]
  simp only [Bool.false_eq_true,false_and,if_false]
  exact decide_eq_true h
theorem Xy {c:A4}{f t:Int}(h:Kh c f t):Bg (Df c (Az c f t) (C6 (Bv c (Az c f t))).1):=by
 obtain ⟨b1,b2,b3⟩:=Ll h.1 h.2.2.1 h.2.2.2
 obtain ⟨k1,k2,k3,k4⟩:=S3 h.1 b1
 refine Ti h.1 ⟨A4o k1,?_⟩
 unfold C6
 split
 ·exact ⟨k2,Q0 k3,fun e=>absurd (by rw [b2,b3] at e;exact e) h.2.1⟩
 ·exact ⟨k2,k3,k4⟩
def O8 (c:A4) (f t:Int):A3:=(C6 (Bv c (Az c f t))).2.1
theorem B3s {c:A4}{f t:Int}(h:Kh c f t)(hk:(C6 (Bv c (Az c f t))).2.2=true):Gx (O8 c f t)∧(O8 c f t).op<c.graph.nodes.length:=by
 obtain ⟨b1,b2,b3⟩:=Ll h.1 h.2.2.1 h.2.2.2
 obtain ⟨k1,k2,k3,k4⟩:=S3 h.1 b1
 unfold O8
 unfold C6 at hk ⊢
 split at hk
 ·rename_i hp
  rw [if_pos hp]
  exact k3 _ (B2 hp.2)
 ·cases hk
def A14 (c:A4) (f t:Int):Int:=(Ag c t).sums.getD (O8 c f t).stamp.epoch.toNat default+ -1
theorem A3x {n:Nat}{w:A6}{r:A3}(h:Da n w)(he:0≤r.stamp.epoch∧r.stamp.epoch≤3):H9 w r=Lf (Gj (kept w r) r.stamp.epoch (-1)) r.stamp.epoch:=by
 have:=h.2.1.1
 have:=h.2.1.2.1
 unfold H9
 rw [if_pos Ad]
theorem A8o {n:Nat}{w:A6}{e:Int}{b:Bool}:Da n ⟨w.queue,w.staged,w.inputs,w.cells,w.sums,w.black.set e.toNat b,w.caps,w.dones⟩↔Da n w:=by
 refine ⟨fun h=>?_,Vo⟩
 obtain ⟨ha,⟨l1,l2,l3⟩,hi,hs,hd⟩:=h
 exact ⟨ha,⟨l1,by simpa using l2,l3⟩,hi,hs,hd⟩
theorem U8 {c:A4}{f t:Int}(h:Bg c):B8 (Dt c f t).1=(if (Dt c f t).2=true then decide (Hc (A14 c f t)) else true):=by
 unfold Dt
 by_cases hm:Kh c f t∧(C6 (Bv c (Az c f t))).2.2=true
 ·rw [if_pos hm]
  obtain ⟨hL,hk⟩:=hm
  have hto:=B3s hL hk
  have hc2:=Xy hL
  have ht:0≤t∧t<c.workers.length:=by have:=h.1.2.1;have:=hL.2.2.2;omega
  simp only [if_true]
  unfold B8
  refine decide_eq_decide.2 ?_
  rw [Hw hc2 ht]
  have hw:=Ts h ht
  show Da _ (H9 (Ag c t) (O8 c f t))↔_
  rw [A3x hw hto.1.2.1]
  exact (A8o (w:=Gj (kept (Ag c t) (O8 c f t)) (O8 c f t).stamp.epoch (-1))).trans (A66 (A7l hw hto) hto.1.2.1)
 ·rw [if_neg hm]
  simp only [Bool.false_eq_true,if_false]
  exact decide_eq_true h
theorem Qh {c:A4}{f t:Int}(h:Bg c):Bg (E9 c f t).1:=by
 unfold E9
 split
 ·rename_i hL
  obtain ⟨b1,b2,b3⟩:=Ll h hL.2.2.1 hL.2.2.2
  obtain ⟨k1,k2,k3,k4⟩:=S3 h b1
  refine Ti h ⟨Ya k1,?_⟩
  unfold Dw
  split
  ·exact ⟨k2,k3,k4⟩
  ·exact ⟨k2,k3,k4⟩
 ·exact h
theorem A7s {c:A4}{l:List B7}(h:Bg c)(hl:∀x∈l,M0 c.graph.workers x):Bg ⟨c.graph,c.workers,c.links,c.tokens,l⟩:=⟨h.1,h.2.1,h.2.2.1,h.2.2.2.1,hl⟩
theorem Zm {c:A4}{w:Int}(h:Bg c)(hn:c.news.any (Hd w)=true):F5 c w∈c.news∧(F5 c w).to_=w:=by
 obtain ⟨x,hx,hw⟩:=List.any_eq_true.1 hn
 have hlt:Kn c w<c.news.length:=by
  by_cases hlt:Kn c w<c.news.length
  ·exact hlt
  ·have:=W1 (Hd w) c.news
   have he:Fm (Hd w) c.news=c.news.length:=by unfold Kn at hlt;omega
   have:=R0 (Hd w) c.news x (by rw [he,List.take_length];exact hx)
   rw [hw] at this;cases this
 have:=W0 (Hd w) c.news hlt
 exact ⟨B2 hlt,eq_of_beq this⟩
theorem A2z {c:A4}{w:Int}(h:Bg c):Bg (Eo c w).1:=by
 unfold Eo
 split
 ·rename_i hn
  have hh:Bg (P0 c w):=A7s h fun x hx=>h.2.2.2.2 x (List.mem_of_mem_eraseIdx hx)
  obtain ⟨m1,m2⟩:=Zm h hn.2
  have hN:=h.2.2.2.2 _ m1
  have hw:0≤w∧w<c.workers.length:=by have:=h.1.2.1;have:=hN.1;omega
  split
  ·exact hh
  ·rename_i hd
   have hwk:=A2p (b:=(F5 c w).capped) (Ts h hw) hN.2 (by simpa using hd)
   exact (Hw hh hw).2 hwk
 ·exact h
theorem Tj {c:A4}{e:Int}{t:Ay}(h:Bg c)(ht:Oh c.graph.workers t):Bg (Ff c e t):=by
 obtain ⟨⟨g1,g2,g3,g4⟩,hw,hl,htt,hn⟩:=h
 refine ⟨⟨g1,g2,g3,by simpa [Ff] using g4⟩,hw,hl,fun x hx=>?_,hn⟩
 rcases Qe hx with hx|rfl
 ·exact htt x hx
 ·exact ht
theorem A16 {c:A4}{e:Int}(h:Bg c):Bg (D3 c e).1:=by
 unfold D3
 split
 ·rename_i hT
  obtain ⟨_,he,hD,hP⟩:=hT
  have htl:=h.1.2.2.2
  have hTP:Oh c.graph.workers (Ac c e):=h.2.2.2.1 _ (B2 (d:=default) (show e.toNat<c.tokens.length by omega))
  have hn1:=h.1.1.2.1
  have hwl:=h.1.2.1
  have hat:0≤(Ac c e).at_∧(Ac c e).at_<c.workers.length:=by have:=hTP.1;omega
  have hwk:=Ts h hat
  simp only
  split
  ·have h1:Oh c.graph.workers ⟨true,(c.workers.length:Int)-1,0,false,(Ag c (Ac c e).at_).caps.getD e.toNat default⟩:=⟨⟨by show (0:Int)≤(c.workers.length:Int)-1;omega,by show (c.workers.length:Int)-1≤_;omega⟩,(fun hc=>Bool.noConfusion hc),(by show (-1000000:Int)≤0;decide),(by show (0:Int)≤1000000;decide)⟩
   exact (Hw (Tj (e:=e) h h1) hat).2 (Vo hwk)
  ·split
   ·split
    ·rename_i hg ha hs
     have h1:Oh c.graph.workers ⟨(Ac c e).going,(Ac c e).at_-1,(Ac c e).sum+(Ag c (Ac c e).at_).sums.getD e.toNat default,(Ac c e).black||(Ag c (Ac c e).at_).black.getD e.toNat default,(Ac c e).capped||(Ag c (Ac c e).at_).caps.getD e.toNat default⟩:=
      ⟨⟨by show 0≤(Ac c e).at_-1;omega,by show (Ac c e).at_-1≤_;have:=hTP.1;omega⟩,fun hc=>absurd hc hg,hs⟩
     exact (Hw (Tj (e:=e) h h1) hat).2 (Vo hwk)
    ·exact h
   ·rename_i hg ha
    have hA:(Ac c e).at_=0:=by have:=hTP.1;omega
    have hc1:Bg (Ff c e ⟨false,(Ac c e).at_,(Ac c e).sum,(Ac c e).black,(Ac c e).capped⟩):=Tj h ⟨hTP.1,fun _=>hA,hTP.2.2⟩
    unfold Ho
    split
    ·have hw0:(0:Int)≤0∧(0:Int)<c.workers.length:=by omega
     have hd0:Gp (Ag c (Ac c e).at_) e=false:=by rw [hA];exact hD
     have hdw:=A2p (b:=((Ac c e).capped||(Ag c (Ac c e).at_).caps.getD e.toNat default)) hwk he hd0
     have hw1:=(Hw (j:=0) hc1 hw0).2 hdw
     refine A7s hw1 fun x hx=>?_
     rcases List.mem_append.1 hx with hx|hx
     ·exact h.2.2.2.2 x hx
     ·obtain ⟨i,hi,rfl⟩:=List.mem_map.1 hx
      have:=List.mem_range.1 hi
      have hl2:(Ff c e ⟨false,(Ac c e).at_,(Ac c e).sum,(Ac c e).black,(Ac c e).capped⟩).workers.length=c.workers.length:=rfl
      rw [hl2] at this
      refine ⟨⟨by show (0:Int)≤(i:Int)+1;omega,?_⟩,he⟩
      show (i:Int)+1≤c.graph.workers-1
      omega
    ·exact hc1
 ·exact h
theorem A4m {c : A4} {p : Bo} (h : Bg c) : B8 (B3 c p).1 =
    (if p.kind = 3 then (if (D0 c p.a).2 = true ∧ Bc c p.a ≠ p.a then decide (Hc (A1a c p.a)) else true)
     else if p.kind = 4 then (if (Dt c p.a p.b).2 = true then decide (Hc (A14 c p.a p.b)) else true) else true) := by
  unfold B3
  by_cases h1 : p.kind = 1
  · rw [if_pos h1, if_neg Ad, if_neg Ad]; exact decide_eq_true (A3u h)
  by_cases h2 : p.kind = 2
  · rw [if_neg h1, if_pos h2, if_neg Ad, if_neg Ad]; exact decide_eq_true (A1h h)
  by_cases h3 : p.kind = 3
  · rw [if_neg h1, if_neg h2, if_pos h3, if_pos h3]; exact Pc h
  by_cases h4 : p.kind = 4
  · rw [if_neg h1, if_neg h2, if_neg h3, if_pos h4, if_neg h3, if_pos h4]; exact U8 h
  by_cases h5 : p.kind = 5
  · rw [if_neg h1, if_neg h2, if_neg h3, if_neg h4, if_pos h5, if_neg h3, if_neg h4]; exact decide_eq_true (Qh h)
  by_cases h6 : p.kind = 6
  · rw [if_neg h1, if_neg h2, if_neg h3, if_neg h4, if_neg h5, if_pos h6, if_neg h3, if_neg h4]; exact decide_eq_true (A16 h)
  by_cases h7 : p.kind = 7
  · rw [if_neg h1, if_neg h2, if_neg h3, if_neg h4, if_neg h5, if_neg h6, if_pos h7, if_neg h3, if_neg h4]; exact decide_eq_true (A2z h)
  · rw [if_neg h1, if_neg h2, if_neg h3, if_neg h4, if_neg h5, if_neg h6, if_neg h7, if_neg h3, if_neg h4]; exact decide_eq_true h
end Go.Proofs.YtlbmkgkmbjadcaaGreat
