/- Part 21 of the proof that each of the laws FnTotals returns true for every input. No conditions. -/
import Derived.Test.YtdendlkeiaccpaaGreatP20
import Derived.Test.YtdendlkeiaccpaaGreatP9

set_option linter.unusedSimpArgs false
set_option linter.unusedVariables false
set_option maxRecDepth 100000
namespace Go.Proofs.YtdendlkeiaccpaaGreat
open Go.Sx
def Wl (x:Be):Prop:=x.ok
def F1 (c:A6):Prop:=∀w∈c.workers,∀x∈w.cells,Wl x
theorem A2e {l:List Be}{x y:Be}(h:y∈(J8 l x).1):y∈l∨y=x:=by
 unfold J8 at h
 split at h
 ·exact .inl h
 rcases A4w.1 h with h|h
 ·exact .inl (List.mem_filter.1 h).1
 exact .inr h
theorem Uw {k:Int}{l:List Be}{x y:Be}(h:y∈(Do k l x).1):y∈l∨y=x:=by
 unfold Do at h
 split at h
 ·exact A2e h
 split at h
 ·split at h
  ·exact .inl h
  exact A4w.1 h
 exact .inl h
theorem Vk {g:Ao}{cs:List Be}{r:A9}{y:Be}(h:y∈(Er g cs r).1):y∈cs∨(H7 r∧y=Fs r):=by
 unfold Er at h
 split at h
 ·rename_i hs
  split at h
  ·exact .inl h
  split at h
  ·rcases Uw h with h|h
   ·exact .inl h
   exact .inr ⟨hs.2.1,h⟩
  rcases Uw h with h|h
  ·exact .inl h
  exact .inr ⟨hs.2.1,h⟩
 exact .inl h
theorem M0 {r:A9}(h:H7 r):r.ok:=by
 simp only [H7] at h
 simp only [A9.ok,Bs.ok,Et]
 omega
theorem A0b {r:A9}(h:H7 r):Wl (Fs r):=⟨(M0 h).1,(M0 h).2.1.1,(M0 h).2.2⟩
theorem Fz {c:A6}{j:Int}{w:Ac}(h:F1 c)(hw:∀x∈w.cells,Wl x):F1 (Bc c j w):=fun v hv=>by
 rcases Ha hv with hv|rfl
 ·exact h v hv
 exact hw
theorem G9 {c:A6}{w:Int}(h:F1 c):∀x∈(Af c w).cells,Wl x:=by
 unfold Af
 by_cases hl:w.toNat<c.workers.length
 ·exact h _ (B9 hl)
 rw [show c.workers.getD w.toNat default=default by simp only [List.getD,List.getElem?_eq_none (Nat.le_of_not_lt hl),Option.getD_none]]
 intro x hx
 cases hx
theorem A0c {c:A6}{p:D5}(h:F1 c):F1 (As c p).1:=by
 unfold As
 split
 ·unfold E5
  split
  ·refine Fz h ?_
   unfold Fc
   split
   ·intro x hx
    rcases Vk (show x∈(Er c.graph (Af c p.a).cells ((Af c p.a).queue.getD 0 default)).1 from hx) with hx|⟨hr,rfl⟩
    ·exact G9 h x hx
    exact A0b hr
   exact G9 h
  exact h
 split
 ·unfold Dn
  split
  ·refine Fz h ?_
   unfold Dd
   split<;>exact G9 h
  exact h
 split
 ·unfold Ce
  split
  ·split
   ·exact Fz h (G9 h)
   split
   ·refine Fz (show F1 (Cb c _ _) from h) ?_
    unfold Hc
    split<;>exact G9 h
   exact h
  exact h
 split
 ·unfold D9
  split
  ·refine Fz (show F1 (Cb c _ _) from h) ?_
   unfold Ea
   split<;>exact G9 h
  exact h
 split
 ·unfold Dl
  split<;>exact h
 split
 ·unfold Cq
  dsimp only
  split
  ·split
   ·exact Fz (show F1 (D7 c _ _) from h) (G9 h)
   split
   ·split
    ·exact Fz (show F1 (D7 c _ _) from h) (G9 h)
    exact h
   unfold Ip
   split
   ·exact Fz (show F1 (D7 c _ _) from h) (G9 h)
   exact h
  exact h
 split
 ·unfold Dw
  split
  ·split
   ·exact h
   exact Fz (show F1 (Kq c _) from h) (G9 h)
  exact h
 exact h
def A2c (c:A6):Prop:=B4 c∨∃(d:A6) (j:Int) (v:Ac) (e k:Int),B4 d∧Cs d.graph.nodes.length v∧(k=1∨k= -1)∧c=Bc d j (F4 v e k)
theorem A0z {c:A6}{p:D5}(h:A2c c):A2c (As c p).1:=by
 by_cases hc:B4 c
 ·by_cases hk:B3 (As c p).1=true
  ·exact .inl (of_decide_eq_true hk)
  rw [Sh hc] at hk
  split at hk
  ·rename_i h3
   split at hk
   ·rename_i hm
    obtain ⟨hm,hne⟩:=hm
    have e:(As c p).1=(Ce c p.a).1:=by
     unfold As
     rw [if_neg Ab,if_neg Ab,if_pos h3]
    rw [e]
    unfold Ce at hm ⊢
    split at hm
    ·rename_i hM
     split at hm
     ·rename_i hS
      rw [if_pos hM,if_neg hne,if_pos hS]
      have hv:=Pe (Mf hM.1.1 hM.1.2)
      exact .inr ⟨_,_,_,_,1,Ub hM.1 hM.2 hne,hv,.inl rfl,by rw [S7 hv (Q1 hM.1 hM.2).1.2.1]⟩
     cases hm
    cases hm
   exact absurd rfl hk
  split at hk
  ·rename_i h3 h4
   split at hk
   ·rename_i hm
    have e:(As c p).1=(D9 c p.a p.b).1:=by
     unfold As
     rw [if_neg Ab,if_neg Ab,if_neg h3,if_pos h4]
    rw [e]
    unfold D9 at hm ⊢
    split at hm
    ·rename_i hT
     rw [if_pos hT]
     have hr:=A12 hT.1 hT.2
     have ht:0≤p.b∧p.b<c.workers.length:=⟨hT.1.2.2.2.1,by rw [hc.1.2.1];exact hT.1.2.2.2.2⟩
     have hv:=Yh (Mf hc ht) hr
     have hw:=Mf hc ht
     refine .inr ⟨_,p.b,_,(Jb c p.a p.b).stamp.epoch,-1,Vq hT.1,(Ws (e:=(Jb c p.a p.b).stamp.epoch) (b:=true)).2 hv,.inr rfl,?_⟩
     show Bc _ p.b (Ea (Af c p.b) (Jb c p.a p.b))=_
     rw [S3 hw hr.1.2.1]
     rfl
    cases hm
   exact absurd rfl hk
  exact absurd rfl hk
 rw [Nu hc]
 exact h
theorem B10 {x:Be}(h:Wl x):x.ok:=h
theorem B2y {x:An}(h:Jd x):x.ok:=by
 obtain ⟨hk,h2,h3,h4,h0,ho,_,_,hn⟩:=h
 have hab:(-1000≤x.a∧x.a≤1000)∧(-1000≤x.b∧x.b≤1000):=by
  by_cases k2:x.kind=2
  ·have:=h2 k2;omega
  by_cases k3:x.kind=3
  ·have:=h3 k3;omega
  by_cases k4:x.kind=4
  ·have:=h4 k4;omega
  have:=h0 k2 k3 k4;omega
 refine ⟨?_,?_,?_,by simp only [maxLen];omega,fun y hy=>?_⟩
 ·simp only [Et];omega
 ·simp only [Et];omega
 ·simp only [Et];omega
 have:=hn y hy
 simp only [Et];omega
theorem Ua {α:Type} [Inhabited α] {l:List α}{x:α}(h:x∈l):∃i,i<l.length∧l.getD i default=x:=by
 obtain ⟨i,hi,rfl⟩:=List.getElem_of_mem h
 exact ⟨i,hi,by simp only [List.getD,List.getElem?_eq_getElem hi,Option.getD_some]⟩
theorem A9d {g:Ao}(h:Fa g):g.ok:=by
 obtain ⟨h1,h2,h3,h4⟩:=h
 refine ⟨⟨by simp only [maxLen];omega,fun y hy=>?_⟩,?_,?_⟩
 ·obtain ⟨i,hi,rfl⟩:=Ua hy
  exact B2y (h4 i hi).1
 ·simp only [Et];omega
 simp only [Et];omega
theorem B2l {l:B8}(h:Fq l):l.ok:=by
 obtain ⟨⟨h1,h2,h3,h4,h5,h6,h7⟩,hq⟩:=h
 refine ⟨?_,⟨by simp only [maxLen];omega,fun y hy=>M0 (hq y hy)⟩,?_,?_,?_,?_⟩<;>(simp only [Et];omega)
def St (n:Nat) (w:Ac):Prop:=Np n w∧Xq w.dones∧∀k∈w.sums,-1000001≤k∧k≤1000001
theorem Pg {n:Nat}{w:Ac}(h:Cs n w):St n w:=⟨h.1,h.2.2.2.2,fun k hk=>by
 have:=h.2.2.2.1 k hk
 simp only [Hv] at this
 omega⟩
theorem A7r {n:Nat}{w:Ac}(h:St n w)(hc:∀x∈w.cells,Wl x)(hw:w.w≤100000000):w.ok:=by
 obtain ⟨⟨hq,hs,hi,_⟩,hd,hn⟩:=h
 simp only [Ac.w] at hw
 refine ⟨⟨?_,fun y hy=>M0 (hq y hy).1⟩,⟨?_,fun y hy=>M0 (hs y hy).1⟩,⟨?_,fun y hy=>M0 (hi y hy).1⟩,⟨?_,fun y hy=>B10 (hc y hy)⟩,⟨?_,fun y hy=>?_⟩,?_,?_,?_,fun y hy=>?_⟩
 any_goals (simp only [maxLen];omega)
 ·have:=hn y hy
  simp only [Et];omega
 obtain ⟨i,hi,rfl⟩:=Ua hy
 have:=(hd i hi).1
 simp only [Fi.ok,Et];omega
theorem B42 {α:Type}{w:α→Nat}{l:List α}{x:α}(h:x∈l):w x≤wS w l:=by
 rw [B1m]
 induction l with
 |nil=>cases h
 |cons y l ih=>
  simp only [List.map_cons,List.sum_cons,List.length_cons]
  rcases List.mem_cons.1 h with rfl|h
  ·omega
  have:=ih h;omega
theorem A2h {c:A6}(hg:Fa c.graph)(hw:∀w∈c.workers,St c.graph.nodes.length w)(hl:∀i,i<c.links.length→Fq (c.links.getD i default))(ht:∀t∈c.tokens,Mv c.graph.workers t)
  (hn:∀x∈c.news,Mg c.graph.workers x)(hb:F1 c)(hs:c.w≤100000000):c.ok:=by
 have hgw:=hg.2.1
 simp only [A6.w] at hs
 have h1:=B1m Ac.w c.workers
 have h2:=B1m B8.w c.links
 refine ⟨A9d hg,⟨?_,fun y hy=>A7r (hw y hy) (hb y hy) ?_⟩,⟨?_,fun y hy=>?_⟩,⟨?_,fun y hy=>?_⟩,⟨?_,fun y hy=>?_⟩⟩
 ·simp only [maxLen];omega
 ·have:=B42 (w:=Ac.w) hy
  omega
 ·simp only [maxLen];omega
 ·obtain ⟨i,hi,rfl⟩:=Ua hy
  exact B2l (hl i hi)
 ·simp only [maxLen];omega
 ·have:=ht y hy
  simp only [Mv] at this
  simp only [Di.ok,Et];omega
 ·simp only [maxLen];omega
 have:=hn y hy
 simp only [Mg] at this
 simp only [Fm.ok,Et];omega
def OkQ (c:A6):Prop:=Fa c.graph∧(∀w∈c.workers,St c.graph.nodes.length w)∧(∀i,i<c.links.length→Fq (c.links.getD i default))∧(∀t∈c.tokens,Mv c.graph.workers t)∧(∀x∈c.news,Mg c.graph.workers x)
theorem B4r {c:A6}(h:OkQ c∧F1 c)(hs:c.w≤100000000):c.ok:=A2h h.1.1 h.1.2.1 h.1.2.2.1 h.1.2.2.2.1 h.1.2.2.2.2 h.2 hs
theorem A2x {c:A6}(h:A2c c):OkQ c:=by
 rcases h with h|⟨d,j,v,e,k,hd,hv,hk,rfl⟩
 ·obtain ⟨hh,hw,hl,ht,hn⟩:=h
  exact ⟨hh.1,fun w hw'=>Pg (hw w hw'),fun i hi=>(hl i hi).1,ht,hn⟩
 obtain ⟨hh,hw,hl,ht,hn⟩:=hd
 refine ⟨hh.1,fun w hw'=>?_,fun i hi=>(hl i hi).1,ht,hn⟩
 rcases Ha hw' with hw'|rfl
 ·exact Pg (hw w hw')
 have hq:=Pg hv
 refine ⟨hq.1,hq.2.1,fun n hn=>?_⟩
 rcases Ha hn with hn|rfl
 ·exact hq.2.2 n hn
 by_cases hl:e.toNat<v.sums.length
 ·have:=hv.2.2.2.1 _ (B9 (d:=default) hl)
  simp only [Hv] at this
  omega
 rw [show v.sums.getD e.toNat default=0 by simp only [List.getD,List.getElem?_eq_none (Nat.le_of_not_lt hl),Option.getD_none];rfl]
 omega
theorem A98 {c:A6}{p:D5}(h:OkQ c∧F1 c):OkQ (As c p).1∧F1 (As c p).1:=by
 refine ⟨?_,A0c h.2⟩
 by_cases hc:B4 c
 ·exact A2x (A0z (.inl hc))
 rw [Nu hc]
 exact h.1
theorem A1m {c:A6}{l:List D5}(h:OkQ c∧F1 c):OkQ (Bk c l).1∧F1 (Bk c l).1:=by
 have:∀(l:List D5) (s:A6×List Bool),OkQ s.1∧F1 s.1→OkQ (l.foldl Gh s).1∧F1 (l.foldl Gh s).1:=by
  intro l
  induction l with
  |nil=>intro s hs;exact hs
  |cons p l ih=>intro s hs;exact ih (Gh s p) (A98 hs)
 exact this l (c,[]) h
theorem A83 (n:Nat):∀{c:A6},OkQ c∧F1 c→OkQ (Dz n c).1∧F1 (Dz n c).1:=by
 induction n with
 |zero=>intro c h;exact h
 |succ n ih=>
  intro c h
  have h1:OkQ (Cp c).1∧F1 (Cp c).1:=A1m h
  unfold Dz
  split
  ·exact h1
  exact ih h1
theorem A25 {n:Int}{l:List A9}{w:Nat}{r:A9}(h:r∈A24 n l w):r∈l:=by
 simp only [A24,List.mem_flatMap,List.mem_filter] at h
 obtain ⟨e,_,h,_⟩:=h
 simp only [Gz,List.mem_filter] at h
 exact h.1
theorem B2u {g:Ao}{l:List A9}(h:(Ca g l).2=true):OkQ (Ca g l).1∧F1 (Ca g l).1:=by
 have hN:Vz g l:=by
  by_cases hN:Vz g l
  ·exact hN
  rw [P4 hN] at h
  cases h
 rw [Jm hN]
 obtain ⟨hg,hl,hr⟩:=hN
 have hg1:=hg.1
 have hg2:=hg.2.1
 have hw:∀w∈E4 g.workers l g.workers.toNat,(w.queue=[]∧w.staged=[]∧w.cells=[]∧w.dones=[]∧w.sums=List.replicate 4 0)∧∀r∈w.inputs,r∈l:=by
  intro w hw
  simp only [E4,List.mem_map] at hw
  obtain ⟨i,_,rfl⟩:=hw
  exact ⟨⟨rfl,rfl,rfl,rfl,rfl⟩,fun r hr=>A25 hr⟩
 refine ⟨⟨hg,fun w hw'=>?_,fun i hi=>?_,fun t ht=>?_,fun x hx=>?_⟩,fun w hw' x hx=>?_⟩
 ·obtain ⟨⟨e1,e2,e3,e4,e5⟩,hi⟩:=hw w hw'
  refine ⟨⟨?_,?_,fun r hr'=>?_,?_⟩,?_,fun k hk=>?_⟩
  ·rw [e1];intro r hr;cases hr
  ·rw [e2];intro r hr;cases hr
  ·have:=hr r (hi r hr')
   refine ⟨this.1,?_⟩
   show r.op<(g.nodes.length:Int)
   omega
  ·rw [e3];intro i hi;exact absurd hi (Nat.not_lt_zero i)
  ·rw [e4];intro i hi;exact absurd hi (Nat.not_lt_zero i)
  rw [e5] at hk
  have:=List.eq_of_mem_replicate hk
  omega
 ·have hm:=B9 (d:=default) hi
  rw [List.eq_of_mem_replicate hm]
  have hb:=G8 g.cap 1 4 Aw
  refine ⟨⟨?_,?_,?_,?_,?_,?_,?_⟩,fun r hr=>by cases hr⟩<;>simp only [Gk,List.length_nil]<;>omega
 ·rw [List.eq_of_mem_replicate ht]
  have e:Mv g.workers default↔(0≤(0:Int)∧(0:Int)≤g.workers-1)∧(false=false→(0:Int)=0)∧(-1000000≤(0:Int)∧(0:Int)≤1000000):=Iff.rfl
  exact e.2 ⟨by omega,fun _=>rfl,by omega⟩
 ·cases hx
 rw [(hw w hw').1.2.2.1] at hx
 cases hx
theorem Vn {α:Type}(f:α→Int)(n m:Nat)(hn:n * m≤1000000000000):∀(xs:List α),xs.length≤n→(∀x∈xs,0≤f x∧f x≤m)→Gn f xs=(xs.map f).sum∧0≤(xs.map f).sum∧(xs.map f).sum≤xs.length * m:=by
 have key:∀(xs:List α) (s:Int) (k:Nat),0≤s→s≤k * m→k+xs.length≤n→(∀x∈xs,0≤f x∧f x≤m)→xs.foldl (fun n x=>IntKind.i64.wrap (n+f x)) s=s+(xs.map f).sum∧0≤(xs.map f).sum∧(xs.map f).sum≤xs.length * m:=by
  intro xs
  induction xs with
  |nil=>intro s k _ _ _ _;exact ⟨by simp,by simp,by simp⟩
  |cons x xs ih=>
   intro s k h0 h1 h2 hx
   obtain ⟨x0,x1⟩:=hx x (List.mem_cons_self ..)
   simp only [List.length_cons] at h2
   have hk:(k+1) * m≤n * m:=Nat.mul_le_mul_right m Ab
   have hkm:((k:Int)+1) * m=k * m+m:=by rw [Int.add_mul,Int.one_mul]
   have hki:((k:Int)+1) * m=(((k+1) * m:Nat):Int):=by rw [Int.natCast_mul,Int.natCast_add,Int.natCast_one]
   have hw:IntKind.i64.wrap (s+f x)=s+f x:=by rw [IntKind.wrap_i64];omega
   obtain ⟨i1,i2,i3⟩:=ih (s+f x) (k+1) Ab (by rw [Int.natCast_add,Int.natCast_one];omega) Ab (fun y hy=>hx y (List.mem_cons_of_mem _ hy))
   simp only [List.foldl_cons,List.map_cons,List.sum_cons,List.length_cons]
   rw [hw,i1]
   refine ⟨by omega,by omega,?_⟩
   rw [Int.natCast_add,Int.natCast_one,Int.add_mul,Int.one_mul]
   omega
 intro xs hl hx
 obtain ⟨h1,h2,h3⟩:=key xs 0 0 (Int.le_refl _) Cg Ab hx
 exact ⟨by unfold Gn;rw [h1];omega,h2,h3⟩
theorem Vo {α:Type}(f:α→Nat):∀xs:List α,(xs.map fun x=>(f x:Int)).sum=((xs.map f).sum:Nat)
 | []=>rfl
 |x::xs=>by
  rw [List.map_cons,List.sum_cons,List.map_cons,List.sum_cons,Vo f xs,Int.natCast_add]
theorem A1y {α:Type}(f g:α→Int):∀xs:List α,(xs.map f).sum-(xs.map g).sum=(xs.map fun x=>f x-g x).sum
 | []=>rfl
 |x::xs=>by
  have:=A1y f g xs
  simp only [List.map_cons,List.sum_cons]
  omega
def lkL (c:A6):Nat:=(c.links.map fun l=>l.queue.length).sum
theorem A29 (c:A6):(Dc c).length=lkL c+(c.workers.map I9).sum:=by
 rw [show Dc c=Cv (I4 c) from rfl,Gc,I5,List.length_append,N4,N4]
 have e:(c.workers.map fun x=>(Kc x).length)=c.workers.map I9:=List.map_congr_left fun w _=>by simp only [Kc,List.length_append,I9]
 rw [e]
 show _+lkL c=_
 omega
theorem A9s {α:Type}(f:α→Nat):∀{xs:List α} {x:α},x∈xs→f x≤(xs.map f).sum
 |y::xs,x,h=>by
  rw [List.map_cons,List.sum_cons]
  rcases List.mem_cons.1 h with rfl|h
  ·omega
  have:=A9s f h
  omega
theorem A0u {c:A6}(h:c.w≤100000):Gn (fun l:B8=>(l.queue.length:Int)) c.links=lkL c:=by
 have hp:=Na c
 rw [N4,N4] at hp
 have hl:=A6.links_le h
 have:=(Vn (fun l:B8=>(l.queue.length:Int)) 100000 100000 Aw c.links hl (fun l hlm=>by
  have:=A9s (fun l:B8=>l.queue.length) hlm
  omega)).1
 rw [this,Vo]
 rfl
theorem B0x {c:A6}(h:B4 c)(hw:c.w≤100000):Gn (fun l:B8=>l.sent) c.links-Gn (fun l:B8=>l.got) c.links=lkL c∧(0≤Gn (fun l:B8=>l.sent) c.links∧Gn (fun l:B8=>l.sent) c.links≤1000000000000)∧(0≤Gn (fun l:B8=>l.got) c.links∧Gn (fun l:B8=>l.got) c.links≤1000000000000):=by
 obtain ⟨hh,_,hl,_⟩:=h
 have hk:=hh.1.2.1
 have hlen:c.links.length≤16:=by
  have h1:=hh.2.2.1
  obtain ⟨n,hn⟩:∃n:Nat,c.graph.workers=n:=⟨c.graph.workers.toNat,by omega⟩
  rw [hn] at h1 hk
  have h2:n * n≤4 * 4:=Nat.mul_le_mul Ab Ab
  have h3:(c.links.length:Int)=((n * n:Nat):Int):=by rw [h1,Int.natCast_mul]
  omega
 have hN:∀l∈c.links,T6 l:=fun l hlm=>by
  obtain ⟨i,hi,rfl⟩:=Ua hlm
  exact (hl i hi).1.1
 obtain ⟨s1,s2,s3⟩:=Vn (fun l:B8=>l.sent) 16 1000000000 Aw c.links hlen (fun l hlm=>by have:=(hN l hlm).2.2.2.2.1;exact ⟨this.1,by omega⟩)
 obtain ⟨g1,g2,g3⟩:=Vn (fun l:B8=>l.got) 16 1000000000 Aw c.links hlen (fun l hlm=>by
  obtain ⟨_,_,_,_,h5,h6,h7⟩:=hN l hlm
  exact ⟨h6,by omega⟩)
 have e:(c.links.map fun l=>l.sent-l.got)=c.links.map fun l=>(l.queue.length:Int):=List.map_congr_left fun l hlm=>(hN l hlm).2.2.2.2.2.2
 have hd:=A1y (fun l:B8=>l.sent) (fun l:B8=>l.got) c.links
 rw [e,Vo] at hd
 have hb:(c.links.length:Int) * (1000000000:Nat)≤16 * 1000000000:=by
  have:c.links.length * 1000000000≤16 * 1000000000:=Nat.mul_le_mul_right _ hlen
  omega
 rw [s1,g1]
 exact ⟨hd,⟨s2,by omega⟩,g2,by omega⟩
theorem A1w (a b:List Bq):Kb (a++b)=Kb a+Kb b:=by
 unfold Kb
 rw [List.map_append,List.sum_append]
theorem B1f {t:List Bq}{s:Bs}(h:Dp s=true):Kb (J7 t s)=Kb t+1:=by
 by_cases hh:L8 t s
 ·rw [Zu h hh,A1w]
  have h0:=hh.1
  have e:=Nz (t:=t) (k:=t.length-1) Ab
  rw [show t.length-1+1=t.length by omega,List.take_length] at e
  have e2:Kb [(⟨s,(t.getD (t.length-1) default).n+1⟩:Bq)]=(t.getD (t.length-1) default).n+1:=by simp [Kb]
  rw [e2]
  omega
 rw [Pm h hh,A1w]
 have e2:Kb [(⟨s,1⟩:Bq)]=1:=by simp [Kb]
 rw [e2]
theorem A1x {xs:List A9}(h:∀r∈xs,Dp r.stamp=true):Kb (Ef xs)=xs.length:=by
 have:∀(xs:List A9) (t:List Bq),(∀r∈xs,Dp r.stamp=true)→Kb (xs.foldl (fun t r=>J7 t r.stamp) t)=Kb t+xs.length:=by
  intro xs
  induction xs with
  |nil=>intro t _;simp
  |cons x xs ih=>
   intro t hx
   simp only [List.foldl_cons,List.length_cons]
   rw [ih _ (fun r hr=>hx r (List.mem_cons_of_mem _ hr)),B1f (hx x (List.mem_cons_self ..))]
   omega
 have:=this xs [] h
 rw [show Kb []=0 from rfl] at this
 unfold Ef
 omega
theorem Rd {r:A9}(h:H7 r):Dp r.stamp=true:=decide_eq_true ⟨h.2.1,h.2.2.1⟩
theorem A07 {c:A6}(h:B4 c):∀r∈Dc c,Dp r.stamp=true:=fun r hr=>by
 have hr:r∈I4 c:=(K3 (I4 c)).mem_iff.1 hr
 rw [I5] at hr
 rcases List.mem_append.1 hr with hr|hr
 ·obtain ⟨w,hw,hr⟩:=List.mem_flatMap.1 hr
  have hA:=(h.2.1 w hw).1
  rcases List.mem_append.1 hr with hr|hr
  ·exact Rd (hA.1 r hr).1
  exact Rd (hA.2.1 r hr).1
 obtain ⟨l,hl,hr⟩:=List.mem_flatMap.1 hr
 obtain ⟨i,hi,rfl⟩:=Ua hl
 exact Rd ((h.2.2.1 i hi).1.2 r hr)
end Go.Proofs.YtdendlkeiaccpaaGreat
