/- Part 20 of the proof that each of the laws FnSpread returns true for every input. No conditions. -/
import Derived.Test.YtdendlkeiaccpaaGreatQ19
import Derived.Test.YtdendlkeiaccpaaGreatQ13
import Derived.Test.YtdendlkeiaccpaaGreatQ15
import Derived.Test.YtdendlkeiaccpaaGreatQ16
import Derived.Test.YtdendlkeiaccpaaGreatQ8
import Derived.Test.YtdendlkeiaccpaaGreatQ10
import Derived.Test.YtdendlkeiaccpaaGreatQ12

set_option linter.unusedSimpArgs false
set_option linter.unusedVariables false
set_option maxRecDepth 100000
namespace Go.Proofs.YtdendlkeiaccpaaGreat
open Go.Sx
def A3k (x:Ae):Prop:=x.ok
def Gl (c:A3):Prop:=∀w∈c.workers,∀x∈w.cells,A3k x
theorem B0k {l:List Ae}{x y:Ae}(h:y∈(Ei l x).1):y∈l∨y=x:=by
 unfold Ei at h
 split at h
 ·exact .inl h
 rcases J2.1 h with h|h
 ·exact .inl (List.mem_filter.1 h).1
 exact .inr h
theorem A10 {k:Int}{l:List Ae}{x y:Ae}(h:y∈(Bs k l x).1):y∈l∨y=x:=by
 unfold Bs at h
 split at h
 ·exact B0k h
 split at h
 ·split at h
  ·exact .inl h
  exact J2.1 h
 exact .inl h
theorem A2m {g:Ah}{cs:List Ae}{r:Aa}{y:Ae}(h:y∈(Cj g cs r).1):y∈cs∨(H2 r∧y=Co r):=by
 unfold Cj at h
 split at h
 ·rename_i hs
  split at h
  ·exact .inl h
  split at h
  ·rcases A10 h with h|h
   ·exact .inl h
   exact .inr ⟨hs.2.1,h⟩
  rcases A10 h with h|h
  ·exact .inl h
  exact .inr ⟨hs.2.1,h⟩
 exact .inl h
theorem Q5 {r:Aa}(h:H2 r):r.ok:=by
 simp only [H2] at h;simp only [Aa.ok,Fo.ok,Gk];omega
theorem A7p {r:Aa}(h:H2 r):A3k (Co r):=⟨(Q5 h).1,(Q5 h).2.1.1,(Q5 h).2.2⟩
theorem Hy {c:A3}{j:Int}{w:Ab}(h:Gl c)(hw:∀x∈w.cells,A3k x):Gl (Av c j w):=fun v hv=>by
 rcases Ie hv with hv|rfl
 ·exact h v hv
 exact hw
theorem Ic {c:A3}{w:Int}(h:Gl c):∀x∈(A8 c w).cells,A3k x:=by
 unfold A8
 by_cases hl:w.toNat<c.workers.length
 ·exact h _ (At hl)
 rw [show c.workers.getD w.toNat default=default by simp only [List.getD,List.getElem?_eq_none (Nat.le_of_not_lt hl),Option.getD_none]]
 intro x hx
 cases hx
theorem A7q {c:A3}{p:D7}(h:Gl c):Gl (Aq c p).1:=by
 unfold Aq
 split
 ·unfold Dk
  split
  ·refine Hy h ?_
   unfold Fi
   split
   ·intro x hx
    rcases A2m (show x∈(Cj c.graph (A8 c p.a).cells ((A8 c p.a).queue.getD 0 default)).1 from hx) with hx|⟨hr,rfl⟩
    ·exact Ic h x hx
    exact A7p hr
   exact Ic h
  exact h
 split
 ·unfold D9
  split
  ·refine Hy h ?_
   unfold Df
   split<;>exact Ic h
  exact h
 split
 ·unfold C7
  split
  ·split
   ·exact Hy h (Ic h)
   split
   ·refine Hy (show Gl (Bi c _ _) from h) ?_
    unfold E5
    split<;>exact Ic h
   exact h
  exact h
 split
 ·unfold Ct
  split
  ·refine Hy (show Gl (Bi c _ _) from h) ?_
   unfold D0
   split<;>exact Ic h
  exact h
 split
 ·unfold D4
  split<;>exact h
 split
 ·unfold Ci
  dsimp only
  split
  ·split
   ·exact Hy (show Gl (De c _ _) from h) (Ic h)
   split
   ·split
    ·exact Hy (show Gl (De c _ _) from h) (Ic h)
    exact h
   unfold Gw
   split
   ·exact Hy (show Gl (De c _ _) from h) (Ic h)
   exact h
  exact h
 split
 ·unfold Dj
  split
  ·split
   ·exact h
   exact Hy (show Gl (Jd c _) from h) (Ic h)
  exact h
 exact h
def B0i (c:A3):Prop:=B7 c∨∃(d:A3) (j:Int) (v:Ab) (e k:Int),B7 d∧Db d.graph.nodes.length v∧(k=1∨k= -1)∧c=Av d j (Fk v e k)
theorem A8t {c:A3}{p:D7}(h:B0i c):B0i (Aq c p).1:=by
 by_cases hc:B7 c
 ·by_cases hk:Bf (Aq c p).1=true
  ·exact .inl (of_decide_eq_true hk)
  rw [Rz hc] at hk
  split at hk
  ·rename_i h3
   split at hk
   ·rename_i hm
    obtain ⟨hm,hne⟩:=hm
    have e:(Aq c p).1=(C7 c p.a).1:=by
     unfold Aq;rw [if_neg Ad,if_neg Ad,if_pos h3]
    rw [e];unfold C7 at hm ⊢
    split at hm
    ·rename_i hM
     split at hm
     ·rename_i hS
      rw [if_pos hM,if_neg hne,if_pos hS];have hv:=Qh (Mc hM.1.1 hM.1.2);exact .inr ⟨_,_,_,_,1,Tx hM.1 hM.2 hne,hv,.inl rfl,by rw [Rt hv (N1 hM.1 hM.2).1.2.1]⟩
     cases hm
    cases hm
   exact absurd rfl hk
  split at hk
  ·rename_i h3 h4
   split at hk
   ·rename_i hm
    have e:(Aq c p).1=(Ct c p.a p.b).1:=by
     unfold Aq;rw [if_neg Ad,if_neg Ad,if_neg h3,if_pos h4]
    rw [e];unfold Ct at hm ⊢
    split at hm
    ·rename_i hT
     rw [if_pos hT];have hr:=W6 hT.1 hT.2;have ht:0≤p.b∧p.b<c.workers.length:=⟨hT.1.2.2.2.1,by rw [hc.1.2.1];exact hT.1.2.2.2.2⟩;have hv:=A55 (Mc hc ht) hr;have hw:=Mc hc ht;refine .inr ⟨_,p.b,_,(Hq c p.a p.b).stamp.epoch,-1,Uc hT.1,(A3p (e:=(Hq c p.a p.b).stamp.epoch) (b:=true)).2 hv,.inr rfl,?_⟩
     show Av _ p.b (D0 (A8 c p.b) (Hq c p.a p.b))=_
     rw [Rn hw hr.1.2.1];rfl
    cases hm
   exact absurd rfl hk
  exact absurd rfl hk
 rw [Sf hc];exact h
theorem C00 {x:Ae}(h:A3k x):x.ok:=h
theorem C15 {x:Bw}(h:Jv x):x.ok:=by
 obtain ⟨hk,h2,h3,h4,h0,ho,_,_,hn⟩:=h
 have hab:(-1000≤x.a∧x.a≤1000)∧(-1000≤x.b∧x.b≤1000):=by
  by_cases k2:x.kind=2
  ·have:=h2 k2;omega
  by_cases k3:x.kind=3
  ·have:=h3 k3;omega
  by_cases k4:x.kind=4
  ·have:=h4 k4;omega
  have:=h0 k2 k3 k4;omega
 refine ⟨?_,?_,?_,by simp only [maxLen];omega,fun y hy=>?_⟩
 ·simp only [Gk];omega
 ·simp only [Gk];omega
 ·simp only [Gk];omega
 have:=hn y hy
 simp only [Gk];omega
theorem B1d {α:Type} [Inhabited α] {l:List α}{x:α}(h:x∈l):∃i,i<l.length∧l.getD i default=x:=by
 obtain ⟨i,hi,rfl⟩:=List.getElem_of_mem h;exact ⟨i,hi,by simp only [List.getD,List.getElem?_eq_getElem hi,Option.getD_some]⟩
theorem B8d {g:Ah}(h:Ea g):g.ok:=by
 obtain ⟨h1,h2,h3,h4⟩:=h;refine ⟨⟨by simp only [maxLen];omega,fun y hy=>?_⟩,?_,?_⟩
 ·obtain ⟨i,hi,rfl⟩:=B1d hy
  exact C15 (h4 i hi).1
 ·simp only [Gk];omega
 simp only [Gk];omega
theorem C1r {l:Ca}(h:Gn l):l.ok:=by
 obtain ⟨⟨h1,h2,h3,h4,h5,h6,h7⟩,hq⟩:=h;refine ⟨?_,⟨by simp only [maxLen];omega,fun y hy=>Q5 (hq y hy)⟩,?_,?_,?_,?_⟩<;>(simp only [Gk];omega)
def Yr (n:Nat) (w:Ab):Prop:=Nl n w∧A4z w.dones∧∀k∈w.sums,-1000001≤k∧k≤1000001
theorem Uf {n:Nat}{w:Ab}(h:Db n w):Yr n w:=⟨h.1,h.2.2.2.2,fun k hk=>by
 have:=h.2.2.2.1 k hk
 simp only [Hf] at this
 omega⟩
theorem B6k {n:Nat}{w:Ab}(h:Yr n w)(hc:∀x∈w.cells,A3k x)(hw:w.w≤100000000):w.ok:=by
 obtain ⟨⟨hq,hs,hi,_⟩,hd,hn⟩:=h;simp only [Ab.w] at hw;refine ⟨⟨?_,fun y hy=>Q5 (hq y hy).1⟩,⟨?_,fun y hy=>Q5 (hs y hy).1⟩,⟨?_,fun y hy=>Q5 (hi y hy).1⟩,⟨?_,fun y hy=>C00 (hc y hy)⟩,⟨?_,fun y hy=>?_⟩,?_,?_,?_,fun y hy=>?_⟩
 any_goals (simp only [maxLen];omega)
 ·have:=hn y hy
  simp only [Gk];omega
 obtain ⟨i,hi,rfl⟩:=B1d hy
 have:=(hd i hi).1
 simp only [F6.ok,Gk];omega
theorem C4m {α:Type}{w:α→Nat}{l:List α}{x:α}(h:x∈l):w x≤wS w l:=by
 rw [C0q]
 induction l with
 |nil=>cases h
 |cons y l ih=>
  simp only [List.map_cons,List.sum_cons,List.length_cons]
  rcases List.mem_cons.1 h with rfl|h
  ·omega
  have:=ih h;omega
theorem B0r {c:A3}(hg:Ea c.graph)(hw:∀w∈c.workers,Yr c.graph.nodes.length w)(hl:∀i,i<c.links.length→Gn (c.links.getD i default))(ht:∀t∈c.tokens,Lt c.graph.workers t)
  (hn:∀x∈c.news,Ls c.graph.workers x)(hb:Gl c)(hs:c.w≤100000000):c.ok:=by
 have hgw:=hg.2.1;simp only [A3.w] at hs;have h1:=C0q Ab.w c.workers;have h2:=C0q Ca.w c.links;refine ⟨B8d hg,⟨?_,fun y hy=>B6k (hw y hy) (hb y hy) ?_⟩,⟨?_,fun y hy=>?_⟩,⟨?_,fun y hy=>?_⟩,⟨?_,fun y hy=>?_⟩⟩
 ·simp only [maxLen];omega
 ·have:=C4m (w:=Ab.w) hy
  omega
 ·simp only [maxLen];omega
 ·obtain ⟨i,hi,rfl⟩:=B1d hy
  exact C1r (hl i hi)
 ·simp only [maxLen];omega
 ·have:=ht y hy
  simp only [Lt] at this;simp only [Fs.ok,Gk];omega
 ·simp only [maxLen];omega
 have:=hn y hy
 simp only [Ls] at this;simp only [Di.ok,Gk];omega
def OkQ (c:A3):Prop:=Ea c.graph∧(∀w∈c.workers,Yr c.graph.nodes.length w)∧(∀i,i<c.links.length→Gn (c.links.getD i default))∧(∀t∈c.tokens,Lt c.graph.workers t)∧(∀x∈c.news,Ls c.graph.workers x)
theorem C37 {c:A3}(h:OkQ c∧Gl c)(hs:c.w≤100000000):c.ok:=B0r h.1.1 h.1.2.1 h.1.2.2.1 h.1.2.2.2.1 h.1.2.2.2.2 h.2 hs
theorem B1g {c:A3}(h:B0i c):OkQ c:=by
 rcases h with h|⟨d,j,v,e,k,hd,hv,hk,rfl⟩
 ·obtain ⟨hh,hw,hl,ht,hn⟩:=h
  exact ⟨hh.1,fun w hw'=>Uf (hw w hw'),fun i hi=>(hl i hi).1,ht,hn⟩
 obtain ⟨hh,hw,hl,ht,hn⟩:=hd;refine ⟨hh.1,fun w hw'=>?_,fun i hi=>(hl i hi).1,ht,hn⟩
 rcases Ie hw' with hw'|rfl
 ·exact Uf (hw w hw')
 have hq:=Uf hv;refine ⟨hq.1,hq.2.1,fun n hn=>?_⟩
 rcases Ie hn with hn|rfl
 ·exact hq.2.2 n hn
 by_cases hl:e.toNat<v.sums.length
 ·have:=hv.2.2.2.1 _ (At (d:=default) hl)
  simp only [Hf] at this;omega
 rw [show v.sums.getD e.toNat default=0 by simp only [List.getD,List.getElem?_eq_none (Nat.le_of_not_lt hl),Option.getD_none];rfl]
 omega
theorem B9a {c:A3}{p:D7}(h:OkQ c∧Gl c):OkQ (Aq c p).1∧Gl (Aq c p).1:=by
 refine ⟨?_,A7q h.2⟩
 by_cases hc:B7 c
 ·exact B1g (A8t (.inl hc))
 rw [Sf hc];exact h.1
theorem A9m {c:A3}{l:List D7}(h:OkQ c∧Gl c):OkQ (Bb c l).1∧Gl (Bb c l).1:=by
 have:∀(l:List D7) (s:A3×List Bool),OkQ s.1∧Gl s.1→OkQ (l.foldl G8 s).1∧Gl (l.foldl G8 s).1:=by
  intro l
  induction l with
  |nil=>intro s hs;exact hs
  |cons p l ih=>intro s hs;exact ih (G8 s p) (B9a hs)
 exact this l (c,[]) h
theorem B72 (n:Nat):∀{c:A3},OkQ c∧Gl c→OkQ (Cy n c).1∧Gl (Cy n c).1:=by
 induction n with
 |zero=>intro c h;exact h
 |succ n ih=>
  intro c h;have h1:OkQ (C5 c).1∧Gl (C5 c).1:=A9m h;unfold Cy
  split
  ·exact h1
  exact ih h1
theorem B1m {n:Int}{l:List Aa}{w:Nat}{r:Aa}(h:r∈Rf n l w):r∈l:=by
 simp only [Rf,List.mem_flatMap,List.mem_filter] at h;obtain ⟨e,_,h,_⟩:=h;simp only [Cz,List.mem_filter] at h;exact h.1
theorem C11 {g:Ah}{l:List Aa}(h:(Aj g l).2=true):OkQ (Aj g l).1∧Gl (Aj g l).1:=by
 have hN:L3 g l:=by
  by_cases hN:L3 g l
  ·exact hN
  rw [J8 hN] at h
  cases h
 rw [J3 hN];obtain ⟨hg,hl,hr⟩:=hN;have hg1:=hg.1;have hg2:=hg.2.1
 have hw:∀w∈Du g.workers l g.workers.toNat,(w.queue=[]∧w.staged=[]∧w.cells=[]∧w.dones=[]∧w.sums=List.replicate 4 0)∧∀r∈w.inputs,r∈l:=by
  intro w hw;simp only [Du,List.mem_map] at hw;obtain ⟨i,_,rfl⟩:=hw;exact ⟨⟨rfl,rfl,rfl,rfl,rfl⟩,fun r hr=>B1m hr⟩
 refine ⟨⟨hg,fun w hw'=>?_,fun i hi=>?_,fun t ht=>?_,fun x hx=>?_⟩,fun w hw' x hx=>?_⟩
 ·obtain ⟨⟨e1,e2,e3,e4,e5⟩,hi⟩:=hw w hw'
  refine ⟨⟨?_,?_,fun r hr'=>?_,?_⟩,?_,fun k hk=>?_⟩
  ·rw [e1];intro r hr;cases hr
  ·rw [e2];intro r hr;cases hr
  ·have:=hr r (hi r hr')
   refine ⟨this.1,?_⟩
   show r.op<(g.nodes.length:Int)
   omega
  ·rw [e3];intro i hi;exact absurd hi (Nat.not_lt_zero i)
  ·rw [e4];intro i hi;exact absurd hi (Nat.not_lt_zero i)
  rw [e5] at hk
  have:=List.eq_of_mem_replicate hk
  omega
 ·have hm:=At (d:=default) hi
  rw [List.eq_of_mem_replicate hm];have hb:=Fe g.cap 1 4 B5;refine ⟨⟨?_,?_,?_,?_,?_,?_,?_⟩,fun r hr=>by cases hr⟩<;>simp only [F2,List.length_nil]<;>omega
 ·rw [List.eq_of_mem_replicate ht]
  have e:Lt g.workers default↔(0≤(0:Int)∧(0:Int)≤g.workers-1)∧(false=false→(0:Int)=0)∧(-1000000≤(0:Int)∧(0:Int)≤1000000):=Iff.rfl;exact e.2 ⟨by omega,fun _=>rfl,by omega⟩
 ·cases hx
 rw [(hw w hw').1.2.2.1] at hx
 cases hx
structure Za (w:Ab):Prop where
 q:∀y∈w.queue,y.ok
 s:∀y∈w.staged,y.ok
 i:∀y∈w.inputs,y.ok
 c:∀y∈w.cells,y.ok
 n:∀y∈w.sums,Gk .i64 y
 d:∀y∈w.dones,y.ok
theorem C38 {w:Ab}(h:Za w)(hw:w.w≤1000):w.ok:=by
 simp only [Ab.w] at hw;refine ⟨⟨?_,h.q⟩,⟨?_,h.s⟩,⟨?_,h.i⟩,⟨?_,h.c⟩,⟨?_,h.n⟩,?_,?_,?_,h.d⟩<;>(simp only [maxLen];omega)
theorem C1k {ins:List Aa}(h:Ui ins):∀y∈ins,y.ok:=fun y hy=>by
 obtain ⟨h1,h2,h3,h4,h5⟩:=h.2 y hy;simp only [Aa.ok,Fo.ok,Gk];omega
theorem C18 {xs:List Aa}(h:∀y∈xs,y.ok):Za (Hr xs):=
 ⟨fun y hy=>(by cases hy),fun y hy=>(by cases hy),h,fun y hy=>(by cases hy),fun y hy=>(by rw [List.eq_of_mem_replicate hy];exact ⟨by decide,by decide⟩),fun y hy=>(by cases hy)⟩
theorem B9c {g:Ah}{w:Ab}(h:Za w):Za (Df g w).1:=by
 unfold Df
 split
 ·rename_i hi
  refine ⟨fun y hy=>?_,h.s,fun y hy=>h.i y (List.mem_of_mem_drop hy),h.c,h.n,h.d⟩
  rcases List.mem_append.1 hy with hy|hy
  ·exact h.q y hy
  rw [List.mem_singleton.1 hy];exact h.i _ (At (d:=default) hi.2.2.2.2)
 exact h
theorem B9d {g:Ah}{w:Ab}(h:Za w):Za (Fi g w).1:=by
 unfold Fi
 split
 ·refine ⟨fun y hy=>h.q y (List.mem_of_mem_drop hy),fun y hy=>Q5 (A2n (g:=g) y hy).1,h.i,fun y hy=>?_,h.n,h.d⟩
  rcases A2m (show y∈(Cj g w.cells (w.queue.getD 0 default)).1 from hy) with hy|⟨hr,rfl⟩
  ·exact h.c y hy
  exact A7p hr
 exact h
theorem C19 {w:Ab}(h:Za w):Za (Gx w).1:=by
 unfold Gx
 split
 ·exact ⟨h.q,fun y hy=>h.s y (List.mem_of_mem_drop hy),h.i,h.c,h.n,h.d⟩
 exact h
theorem C3b {w:Ab}{q:List Aa}(h:Za w)(hq:∀y∈q,y.ok):Za ⟨q,w.staged,w.inputs,w.cells,w.sums,w.black,w.caps,w.dones⟩:=⟨hq,h.s,h.i,h.c,h.n,h.d⟩
theorem C5d {w:Ab}{q:List Aa}(h:Za w)(hq:∀y∈q,y.ok):Za ⟨w.queue,w.staged,q,w.cells,w.sums,w.black,w.caps,w.dones⟩:=⟨h.q,h.s,hq,h.c,h.n,h.d⟩
theorem B9b {w:Ab}{q:List Int}(h:Za w)(hq:∀y∈q,Gk .i64 y):Za ⟨w.queue,w.staged,w.inputs,w.cells,q,w.black,w.caps,w.dones⟩:=⟨h.q,h.s,h.i,h.c,hq,h.d⟩
theorem C3a {w:Ab}{q:List F6}(h:Za w)(hq:∀y∈q,y.ok):Za ⟨w.queue,w.staged,w.inputs,w.cells,w.sums,w.black,w.caps,q⟩:=⟨h.q,h.s,h.i,h.c,h.n,hq⟩
theorem C5c {w:Ab}{q:List Ae}(h:Za w)(hq:∀y∈q,y.ok):Za ⟨w.queue,w.staged,w.inputs,q,w.sums,w.black,w.caps,w.dones⟩:=⟨h.q,h.s,h.i,hq,h.n,h.d⟩
theorem C29 {w:Ab}{q:List Bool}(h:Za w):Za ⟨w.queue,w.staged,w.inputs,w.cells,w.sums,q,w.caps,w.dones⟩:=⟨h.q,h.s,h.i,h.c,h.n,h.d⟩
theorem Ke {α:Type}{p:α→Prop}{xs:List α}{x:α}(h:∀y∈xs,p y)(hx:p x):∀y∈xs++[x],p y:=fun y hy=>by
 rcases List.mem_append.1 hy with hy|hy
 ·exact h y hy
 rw [List.mem_singleton.1 hy];exact hx
theorem Uj {α:Type}{p:α→Prop}{xs:List α}{x:α}{k:Nat}(h:∀y∈xs,p y)(hx:p x):∀y∈xs.set k x,p y:=fun y hy=>by
 rcases List.mem_or_eq_of_mem_set hy with hy|rfl
 ·exact h y hy
 exact hx
theorem B2s {α:Type}{p:α→Prop}{xs:List α}{k:Nat}(h:∀y∈xs,p y):∀y∈xs.take k,p y:=fun y hy=>h y (List.mem_of_mem_take hy)
structure OkL (l:Ca):Prop where
 c:Gk .i64 l.cap
 q:∀y∈l.queue,y.ok
 r:Gk .i64 l.credits
 b:Gk .i64 l.back
 s:Gk .i64 l.sent
 g:Gk .i64 l.got
theorem C36 {l:Ca}(h:OkL l)(hw:l.queue.length≤1000):l.ok:=⟨h.c,⟨by simp only [maxLen];omega,h.q⟩,h.r,h.b,h.s,h.g⟩
theorem C17 (n:Int):OkL (F2 n):=by
 have:=Fe n 1 4 B5
 refine ⟨?_,fun y hy=>(by cases hy),?_,?_,?_,?_⟩<;>(simp only [Gk,F2];omega)
theorem B89 {l:Ca}(h:OkL l):OkL (Bc l).1:=by
 unfold Bc
 split
 ·rename_i hp
  obtain ⟨⟨h1,h2,h3,h4,h5,h6,h7⟩,hq⟩:=hp.1;refine ⟨h.c,fun y hy=>h.q y (List.mem_of_mem_drop hy),h.r,?_,h.s,?_⟩<;>(simp only [Gk];omega)
 exact h
theorem B87 {l:Ca}(h:OkL l):OkL (Ce l).1:=by
 unfold Ce
 split
 ·rename_i hp
  obtain ⟨⟨h1,h2,h3,h4,h5,h6,h7⟩,hq⟩:=hp.1;refine ⟨h.c,h.q,?_,?_,h.s,h.g⟩<;>(simp only [Gk];omega)
 exact h
theorem B88 {l:Ca}{r:Aa}(h:OkL l):OkL (Cf l r).1:=by
 unfold Cf
 split
 ·rename_i hp
  obtain ⟨⟨⟨h1,h2,h3,h4,h5,h6,h7⟩,hq⟩,hr,_,_⟩:=hp;refine ⟨h.c,Ke h.q (Q5 hr),?_,h.b,?_,h.g⟩<;>(simp only [Gk];omega)
 exact h
theorem B5n {c:A3}{j:Int}{w:Ab}(h:c.ok)(hw:w.ok):(Av c j w).ok:=⟨h.1,⟨by show (c.workers.set _ _).length≤_;rw [List.length_set];exact h.2.1.1,Uj h.2.1.2 hw⟩,h.2.2⟩
theorem B5m {c:A3}{j:Int}{l:Ca}(h:c.ok)(hl:l.ok):(Bi c j l).ok:=⟨h.1,h.2.1,⟨by show (c.links.set _ _).length≤_;rw [List.length_set];exact h.2.2.1.1,Uj h.2.2.1.2 hl⟩,h.2.2.2⟩
theorem A4c {c:A3}{e:Int}{t:Fs}(h:c.ok)(ht:t.ok):(De c e t).ok:=⟨h.1,h.2.1,h.2.2.1,⟨by show (c.tokens.set _ _).length≤_;rw [List.length_set];exact h.2.2.2.1.1,Uj h.2.2.2.1.2 ht⟩,h.2.2.2.2⟩
theorem B0a {c:A3}{j:Nat}(h:c.ok)(hj:j<c.tokens.length):(c.tokens.getD j default).ok:=h.2.2.2.1.2 _ (At hj)
theorem P2 (x:Ab):x.queue.length≤x.w∧x.staged.length≤x.w∧x.inputs.length≤x.w∧x.cells.length≤x.w∧x.sums.length≤x.w∧x.black.length≤x.w∧x.caps.length≤x.w∧x.dones.length≤x.w:=by simp only [Ab.w];omega
theorem B97 (x:Ab)(r:Aa)(h:x.w≤1000000):B3 Tryz.prog 180 [.agg x.c,.agg r.c] [.agg (kept x r).c]:=by
 have hw:=P2 x;refine Aw A0 false Tryz.func180 rfl B5 fun W=>?_;conv=>whnf
 refine Bd (Iv x Ad) rfl (A7 ?_);refine Bj A0 rfl rfl rfl rfl rfl rfl rfl rfl rfl rfl rfl (Af (x.queue++[r])) (An rfl) C6 Ad (A7 ?_);refine Am A0 rfl rfl ?_;exact B0
theorem Vn {w:Ab}{r:Aa}(h1:w.sums.length=4)(h2:w.black.length=4)(he:0≤r.stamp.epoch∧r.stamp.epoch≤3):D0 w r=Hw (Fk (kept w r) r.stamp.epoch (-1)) r.stamp.epoch:=by
 unfold D0;rw [if_pos ⟨by omega,by omega,by omega⟩]
structure WD (k:Nat) (x:Ab):Prop where
 w:x.w≤20+3 * k
 s4:x.sums.length=4
 b4:x.black.length=4
 s:∀n∈x.sums,-(k:Int)≤n∧n≤k
 o:Za x
set_option maxHeartbeats 1000000 in
theorem A6v (x:Ab)(r:Aa)(h:x.w≤1000000)(hS:∀n∈x.sums,-1000≤n∧n≤1000)(h1:x.sums.length=4)(h2:x.black.length=4)(he:0≤r.stamp.epoch∧r.stamp.epoch≤3):B3 Tryz.prog 151 [.agg x.c,.agg r.c] [.agg (D0 x r).c]:=by
 have hw:=P2 x;have hk:r.stamp.epoch.toNat<x.sums.length:=by omega
 have hk2:r.stamp.epoch.toNat<x.black.length:=by omega
 have hs: -1000≤(x.sums.getD r.stamp.epoch.toNat default)∧(x.sums.getD r.stamp.epoch.toNat default)≤1000:=hS _ (At hk);obtain ⟨s1,s2⟩:=hs;have g1:(kept x r).sums.length=4:=h1;have g2:(kept x r).black.length=4:=h2;have g3:(kept x r).sums.getD r.stamp.epoch.toNat default=x.sums.getD r.stamp.epoch.toNat default:=rfl;refine Aw A0 false Tryz.func151 rfl B5 fun W=>?_;conv=>whnf
 refine Bd (B97 x r Ad) rfl (A7 ?_);(repeat refine Ap ?_);refine As (G9 r.stamp.epoch 0 (x.sums.length-1)) rfl (A7 ?_);have hyes:E6 r.stamp.epoch 0 (x.sums.length-1)=true:=Go.Sx.Al.2 ⟨he.1,by omega⟩;rw [hyes]
 repeat refine B2 ?_
 refine ⟨fun h7=>?_,fun h7=>absurd (of_decide_eq_false h7) Ad⟩;conv=>whnf
 refine Gs rfl ?_;refine Bt A0 false 0 rfl rfl rfl A6 rfl (A4 Br) ?_;refine Bt A0 false 2 rfl rfl rfl A6 rfl (A4 Br) ?_;refine Bt A0 false 3 rfl rfl rfl A6 rfl (A4 Br) ?_;refine Bt A0 false 5 rfl rfl rfl A6 rfl (A4 Br) ?_;refine A5 [1,4] A6 ⟨?_,?_,trivial⟩
 focus
  refine A7 ?_;refine Ag (A5 [4] A6 ⟨A7 ?_,trivial⟩);refine Ag (A5 [6] A6 ⟨A7 ?_,trivial⟩);(repeat refine Ap ?_);refine Ag (A5 [7] A6 ⟨A7 ?_,trivial⟩);refine Ag ?_;refine Bt A0 false 8 rfl rfl rfl A6 rfl (A4 Br) ?_
 rotate_left 1
 focus
  refine A7 ?_;refine Ag ?_;refine A5 [1,6] A6 ⟨?_,?_,trivial⟩
  focus
   refine A7 ?_;refine Ag (A5 [6] A6 ⟨A7 ?_,trivial⟩);(repeat refine Ap ?_);refine Ag (A5 [7] A6 ⟨A7 ?_,trivial⟩);refine Ag ?_;refine Bt A0 false 8 rfl rfl rfl A6 rfl (A4 Br) ?_
  rotate_left 1
  focus
   refine A7 ?_;(repeat refine Ap ?_);refine Ag ?_;refine A5 [1,7] A6 ⟨?_,?_,trivial⟩
   focus
    refine A7 ?_;refine Ag (A5 [7] A6 ⟨A7 ?_,trivial⟩);refine Ag ?_;refine Bt A0 false 8 rfl rfl rfl A6 rfl (A4 Br) ?_
   rotate_left 1
   focus
    refine A7 ?_;refine Ag ?_;refine Bt A0 false 8 rfl rfl rfl A6 rfl (A4 Br) ?_;refine A5 [1] A6 ⟨A7 ?_,trivial⟩;refine Ag ?_
 all_goals
  refine A5 [9] A6 ⟨A7 ?_,trivial⟩;(repeat refine Ap ?_);refine Ag (A5 [10] A6 ⟨A7 ?_,trivial⟩);refine Bv (j:=r.stamp.epoch) A0 rfl rfl rfl rfl rfl rfl rfl rfl (Bh (x.sums.set r.stamp.epoch.toNat (x.sums.getD r.stamp.epoch.toNat default+ -1))) (Ck hk rfl) (A7 ?_);refine Ag (Gr A6 (A7 ?_))
 all_goals
  (repeat refine Ap ?_);refine Bv (j:=r.stamp.epoch) A0 rfl rfl rfl rfl rfl rfl rfl rfl (Dw (x.black.set r.stamp.epoch.toNat true)) (Ck hk2 rfl) (A7 ?_);rw [Vn h1 h2 he];refine Am A0 rfl rfl ?_;exact B0
theorem A64 {w:Ab}(h:¬ 0<w.staged.length):Gx w=(w,default,false):=if_neg h
theorem A3g {w:Ab}(h:0<w.staged.length):Gx w=(Cd w,w.staged.getD 0 default,true):=if_pos h
theorem A6x (x:Ab)(h:x.w≤1000000):B3 Tryz.prog 153 [.agg x.c] [.agg (Gx x).1.c,.agg (Gx x).2.1.c,.one (vb (Gx x).2.2)]:=by
 have hw:=P2 x;refine Aw A0 false Tryz.func153 rfl B5 fun W=>?_;conv=>whnf
 refine Bd (Iv x Ad) rfl (A7 ?_);refine ⟨fun h1=>have h1:=eq_of_beq h1;?_,fun h1=>have h1:=beq_eq_false_iff_ne.1 h1;?_⟩<;>conv=>whnf
 ·repeat refine B2 ?_
  rw [A64 Ad];refine Am A0 rfl rfl ?_;exact B0
 have h1:0<x.staged.length:=by omega
 repeat refine B2 ?_
 refine Xh A0 rfl rfl rfl rfl rfl rfl rfl rfl (l:=1) rfl rfl (⟨by omega,by omega,by omega⟩) (Af (x.staged.drop 1)) (Fq (k:=1) h1) (A7 ?_);refine Bj A0 rfl rfl rfl rfl rfl rfl rfl rfl rfl rfl rfl (Af (x.staged.drop 1)) (C9) (fun _=>G5 _) (by (rw [List.length_drop];omega)) (A7 ?_);refine H0 rfl ?_;refine Cl (s':=?_) 0 rfl A6 ?_ ?_;rotate_left;refine A7 ?_;(repeat refine Ap ?_);exact B6
 refine Dp [1,2] A6 ⟨?_,?_,trivial⟩
 focus
  refine A7 ?_;(repeat refine Ap ?_);refine Dq ?_;refine Dp [2] A6 ⟨?_,trivial⟩;refine A7 ?_;(repeat refine Ap ?_);refine Dq ?_
 rotate_left 1
 focus
  refine A7 ?_;(repeat refine Ap ?_);refine Dq ?_;refine Cl (s':=?_) 1 rfl A6 ?_ ?_;rotate_left;refine A7 ?_;(repeat refine Ap ?_);exact B6
 all_goals
  refine Dp [3] A6 ⟨?_,trivial⟩;refine A7 ?_;(repeat refine Ap ?_);refine Dq ?_;refine Bp A0 false 4 rfl rfl A6 rfl (A4 Br) ?_;refine Qk A6 (A7 ?_)
 all_goals
  rw [A3g h1];refine Am A0 rfl rfl ?_;exact B0
theorem Ot {g:Ah}{w:Ab}(h:¬ O4 g w):Df g w=(w,false):=if_neg h
theorem B1b {g:Ah}{w:Ab}(h:O4 g w):Df g w=(I7 w,true):=if_pos h
set_option maxHeartbeats 1000000 in
theorem A3b (g:Ah)(x:Ab)(hg:g.w≤1000000)(h:x.w≤1000000):B3 Tryz.prog 150 [.agg g.c,.agg x.c] [.agg (Df g x).1.c,.one (vb (Df g x).2)]:=by
 have hw:=P2 x;refine Aw A0 false Tryz.func150 rfl B5 fun W=>?_;conv=>whnf
 refine Bd (Iv x Ad) rfl (A7 ?_);refine As (Iw g Ad) rfl (A7 ?_);refine ⟨fun h1=>?_,fun h1=>?_⟩<;>conv=>whnf
 ·have h1:F1 g=false:=by simpa using h1
  repeat refine B2 ?_
  rw [Ot (fun p=>absurd p.1 (of_decide_eq_false h1))];refine Am A0 rfl rfl ?_;exact B0
 have h1:Ea g:=of_decide_eq_true (show F1 g=true by simpa using h1)
 repeat refine B2 ?_
 refine As (Qd g x Ad Ad) rfl (A7 ?_)
 repeat refine B2 ?_
 refine ⟨fun h2=>?_,fun h2=>?_⟩<;>conv=>whnf
 ·have h2:Hd g.nodes.length x=false:=by simpa using h2
  repeat refine B2 ?_
  rw [Ot (fun p=>absurd p.2.1 (of_decide_eq_false h2))];refine Am A0 rfl rfl ?_;exact B0
 have h2:Db g.nodes.length x:=of_decide_eq_true (show Hd g.nodes.length x=true by simpa using h2)
 repeat refine B2 ?_
 refine ⟨fun h3=>?_,fun h3=>?_⟩<;>conv=>whnf
 ·have h3:¬ x.staged.length=0:=by have:=of_decide_eq_true h3;omega
  repeat refine B2 ?_
  rw [Ot (fun p=>h3 p.2.2.1)];refine Am A0 rfl rfl ?_;exact B0
 have h3:x.staged.length=0:=by have:=of_decide_eq_false h3;omega
 repeat refine B2 ?_
 refine ⟨fun h4=>?_,fun h4=>?_⟩<;>conv=>whnf
 ·have h4:¬ x.queue.length=0:=by have:=of_decide_eq_true h4;omega
  repeat refine B2 ?_
  rw [Ot (fun p=>h4 p.2.2.2.1)];refine Am A0 rfl rfl ?_;exact B0
 have h4:x.queue.length=0:=by have:=of_decide_eq_false h4;omega
 repeat refine B2 ?_
 refine ⟨fun h5=>have h5:=eq_of_beq h5;?_,fun h5=>have h5:=beq_eq_false_iff_ne.1 h5;?_⟩<;>conv=>whnf
 ·repeat refine B2 ?_
  rw [Ot (fun p=>by have:=p.2.2.2.2;omega)];refine Am A0 rfl rfl ?_;exact B0
 have h5:0<x.inputs.length:=by omega
 repeat refine B2 ?_
 refine Gs rfl ?_;refine Bt A0 false 0 rfl rfl rfl A6 rfl (A4 Br) ?_;refine Bt A0 false 2 rfl rfl rfl A6 rfl (A4 Br) ?_;refine A5 [1,3] A6 ⟨?_,?_,trivial⟩
 focus
  refine A7 ?_;refine Ag (A5 [3] A6 ⟨A7 ?_,trivial⟩);refine Ag (A5 [4] A6 ⟨A7 ?_,trivial⟩);(repeat refine Ap ?_);refine Ag (A5 [5] A6 ⟨A7 ?_,trivial⟩);refine Ag ?_;refine A5 [6] A6 ⟨?_,trivial⟩
 rotate_left 1
 focus
  refine A7 ?_;refine Ag ?_;refine A5 [1,4] A6 ⟨?_,?_,trivial⟩
  focus
   refine A7 ?_;refine Ag (A5 [4] A6 ⟨A7 ?_,trivial⟩);(repeat refine Ap ?_);refine Ag (A5 [5] A6 ⟨A7 ?_,trivial⟩);refine Ag ?_;refine A5 [6] A6 ⟨?_,trivial⟩
  rotate_left 1
  focus
   refine A7 ?_;(repeat refine Ap ?_);refine Ag ?_;refine A5 [1,5] A6 ⟨?_,?_,trivial⟩
   focus
    refine A7 ?_;refine Ag (A5 [5] A6 ⟨A7 ?_,trivial⟩);refine Ag ?_;refine A5 [6] A6 ⟨?_,trivial⟩
   rotate_left 1
   focus
    refine A7 ?_;refine Ag ?_;refine A5 [1,6] A6 ⟨?_,?_,trivial⟩
    focus
     refine A7 ?_;refine Ag ?_;refine A5 [6] A6 ⟨?_,trivial⟩
    rotate_left 1
    focus
     refine A7 ?_;refine Ag ?_;refine A5 [1] A6 ⟨?_,trivial⟩
 all_goals
  refine A7 ?_;refine Ag (A5 [7] A6 ⟨A7 ?_,trivial⟩);refine Bj A0 rfl rfl rfl rfl rfl rfl rfl rfl rfl rfl rfl (Af (x.queue++[x.inputs.getD 0 default])) (An rfl) C6 Ad (A7 ?_);refine Ag ?_;refine Bt A0 false 8 rfl rfl rfl A6 rfl (A4 Br) ?_;refine A5 [9] A6 ⟨A7 ?_,trivial⟩;refine Ag (Gr A6 (A7 ?_))
 all_goals
  (repeat refine Ap ?_);refine Xh A0 rfl rfl rfl rfl rfl rfl rfl rfl (l:=1) rfl rfl (⟨by omega,by omega,by omega⟩) (Af (x.inputs.drop 1)) (Fq (k:=1) h5) (A7 ?_);refine Bj A0 rfl rfl rfl rfl rfl rfl rfl rfl rfl rfl rfl (Af (x.inputs.drop 1)) (C9) (fun _=>G5 _) (by (rw [List.length_drop];omega)) (A7 ?_);rw [B1b ⟨h1,h2,h3,h4,h5⟩];refine Am A0 rfl rfl ?_;exact B0
theorem W9 {g:Ah}{w:Ab}(h:¬ Qu g w):Fi g w=(w,false):=if_neg h
theorem A4x {g:Ah}{w:Ab}(h:Qu g w):Fi g w=(F9 g w,true):=if_pos h
set_option maxHeartbeats 1000000 in
theorem B16 (g:Ah)(x:Ab)(hg:g.w≤1000000)(h:x.w≤1000000):B3 Tryz.prog 154 [.agg g.c,.agg x.c] [.agg (Fi g x).1.c,.one (vb (Fi g x).2)]:=by
 have hw:=P2 x;refine Aw A0 false Tryz.func154 rfl B5 fun W=>?_;conv=>whnf
 refine Bd (Iv x Ad) rfl (A7 ?_);refine As (Iw g Ad) rfl (A7 ?_);refine ⟨fun h1=>?_,fun h1=>?_⟩<;>conv=>whnf
 ·have h1:F1 g=false:=by simpa using h1
  repeat refine B2 ?_
  rw [W9 (fun p=>absurd p.1 (of_decide_eq_false h1))];refine Am A0 rfl rfl ?_;exact B0
 have h1:Ea g:=of_decide_eq_true (show F1 g=true by simpa using h1)
 repeat refine B2 ?_
 refine As (Qd g x Ad Ad) rfl (A7 ?_)
 repeat refine B2 ?_
 refine ⟨fun h2=>?_,fun h2=>?_⟩<;>conv=>whnf
 ·have h2:Hd g.nodes.length x=false:=by simpa using h2
  repeat refine B2 ?_
  rw [W9 (fun p=>absurd p.2.1 (of_decide_eq_false h2))];refine Am A0 rfl rfl ?_;exact B0
 have h2:Db g.nodes.length x:=of_decide_eq_true (show Hd g.nodes.length x=true by simpa using h2)
 repeat refine B2 ?_
 refine ⟨fun h3=>?_,fun h3=>?_⟩<;>conv=>whnf
 ·have h3:¬ x.staged.length=0:=by have:=of_decide_eq_true h3;omega
  repeat refine B2 ?_
  rw [W9 (fun p=>h3 p.2.2.1)];refine Am A0 rfl rfl ?_;exact B0
 have h3:x.staged.length=0:=by have:=of_decide_eq_false h3;omega
 repeat refine B2 ?_
 refine ⟨fun h4=>have h4:=eq_of_beq h4;?_,fun h4=>have h4:=beq_eq_false_iff_ne.1 h4;?_⟩<;>conv=>whnf
 ·repeat refine B2 ?_
  rw [W9 (fun p=>by have:=p.2.2.2;omega)];refine Am A0 rfl rfl ?_;exact B0
 have h4:0<x.queue.length:=by omega
 have hR:=h2.1.1 _ (At (d:=default) h4);have hE:=hR.1.2.1;have hcl:x.caps.length=4:=h2.2.1.2.2;have hc:(x.queue.getD 0 default).stamp.epoch.toNat<x.caps.length:=by have:=h2.2.1.2.2;omega
 repeat refine B2 ?_
 refine Bd (A2k g x.cells (x.queue.getD 0 default) Ad Ad) rfl (A7 ?_);(repeat refine Ap ?_);refine Xh A0 rfl rfl rfl rfl rfl rfl rfl rfl (l:=1) rfl rfl (⟨by omega,by omega,by omega⟩) (Af (x.queue.drop 1)) (Fq (k:=1) h4) (A7 ?_);refine Bj A0 rfl rfl rfl rfl rfl rfl rfl rfl rfl rfl rfl (Af (x.queue.drop 1)) (C9) (fun _=>G5 _) (by (rw [List.length_drop];omega)) (A7 ?_);refine As (A2f g (x.queue.getD 0 default) Ad) rfl (A7 ?_);refine ⟨fun h5=>?_,fun h5=>?_⟩<;>conv=>whnf
 ·have h5:capped g (x.queue.getD 0 default)=true:=h5
  refine ⟨by (show 0≤(x.queue.getD 0 default).stamp.epoch∧(x.queue.getD 0 default).stamp.epoch<x.caps.length;omega),?_⟩
  conv=>whnf
  refine Bv (j:=(x.queue.getD 0 default).stamp.epoch) A0 rfl rfl rfl rfl rfl rfl rfl rfl (Dw (x.caps.set (x.queue.getD 0 default).stamp.epoch.toNat true)) (Ck hc rfl) (A7 ?_);rw [A4x ⟨h1,h2,h3,h4⟩,F9,if_pos h5];refine Am A0 rfl rfl ?_;exact B0
 have h5:capped g (x.queue.getD 0 default)=false:=h5;rw [A4x ⟨h1,h2,h3,h4⟩,F9,if_neg (by rw [h5];decide)];refine Am A0 rfl rfl ?_;exact B0
theorem Gu {n:Int}(h: -9000000000≤n)(h':n≤9000000000):Gk .i64 n:=⟨by omega,by omega⟩
theorem B4x (d:Ey)(i h:Int)(hi:0≤i∧i≤d.n):E3 Tryz.prog HT 155 d.pins (d.cur i h) [] (fun r:Int×Int×Fo=>(0≤r.1∧r.1≤d.n)∧(0≤r.2.2.epoch∧r.2.2.epoch≤3)∧r.2.2.ok) (fun r=>d.cur r.1 r.2.1) (fun r=>[.agg r.2.2.c]):=by
 refine Em A0 false Tryz.func155 rfl B5 fun B b hH hp=>?_;conv=>whnf
 refine Ay (Au d i h 4 hi B5) hH hp rfl B0 rfl rfl (fun r hr=>go A0 false ?_);conv=>whnf
 refine Ay (Au d r.1 r.2.1 5 hr.1 B5) hH hp rfl B0 rfl rfl (fun r2 hr2=>go A0 false ?_);conv=>whnf
 have h4:=hr.2.2.2 B5;have h5:=hr.2.1;have h6:=hr2.2.2.2 B5;have h7:=hr2.2.1;exact C3 A0 (r2.1,r2.2.1,⟨r.2.2,r2.2.2⟩) ⟨hr2.1,⟨hr.2.1,by show r.2.2≤3;omega⟩,Gu (by show _≤r.2.2;omega) (by show r.2.2≤_;omega),Gu (by show _≤r2.2.2;omega) (by show r2.2.2≤_;omega)⟩ rfl rfl rfl rfl B0
theorem To (d:Ey)(i h:Int)(hi:0≤i∧i≤d.n):E3 Tryz.prog HT 122 d.pins (d.cur i h) [] (fun r:Int×Int×Aa=>(0≤r.1∧r.1≤d.n)∧(0≤r.2.2.stamp.epoch∧r.2.2.stamp.epoch≤3)∧r.2.2.ok) (fun r=>d.cur r.1 r.2.1) (fun r=>[.agg r.2.2.c]):=by
 refine Em A0 false Tryz.func122 rfl B5 fun B b hH hp=>?_;conv=>whnf
 refine Ay (Au d i h 5 hi B5) hH hp rfl B0 rfl rfl (fun r hr=>go A0 false ?_);conv=>whnf
 refine Ay (B4x d r.1 r.2.1 hr.1) hH hp rfl B0 rfl rfl (fun s hs=>go A0 false ?_);conv=>whnf
 refine Ay (Au d s.1 s.2.1 12 hs.1 B5) hH hp rfl B0 rfl rfl (fun r2 hr2=>go A0 false ?_);conv=>whnf
 refine Ay (Au d r2.1 r2.2.1 40 hr2.1 B5) hH hp rfl B0 rfl rfl (fun r3 hr3=>go A0 false ?_);conv=>whnf
 have k1:=hr.2.2.2 B5;have k2:=hr.2.1;have k3:=hr2.2.2.2 B5;have k4:=hr2.2.1;have k5:=hr3.2.2.2 B5;have k6:=hr3.2.1;exact C3 A0 (r3.1,r3.2.1,⟨r.2.2,s.2.2,r2.2.2,r3.2.2⟩) ⟨hr3.1,hs.2.1,Gu (by show _≤r.2.2;omega) (by show r.2.2≤_;omega),hs.2.2,Gu (by show _≤r2.2.2;omega) (by show r2.2.2≤_;omega),Gu (by show _≤r3.2.2;omega) (by show r3.2.2≤_;omega)⟩ rfl rfl rfl rfl B0
theorem A5g (d:Ey)(i h:Int)(g:Ah)(hi:0≤i∧i≤d.n)(hg:g.nodes.length≤1000):E3 Tryz.prog HT 152 d.pins (d.cur i h) [.agg g.c] (fun r:Int×Int×Aa=>(0≤r.1∧r.1≤d.n)∧(0≤r.2.2.stamp.epoch∧r.2.2.stamp.epoch≤3)∧r.2.2.ok) (fun r=>d.cur r.1 r.2.1) (fun r=>[.agg r.2.2.c]):=by
 refine Em A0 false Tryz.func152 rfl B5 fun B b hH hp=>?_;conv=>whnf
 refine Ay (To d i h hi) hH hp rfl B0 rfl rfl (fun r hr=>go A0 false ?_);conv=>whnf
 refine ⟨fun c0=>?_,fun c0=>?_⟩<;>conv=>whnf
 ·refine Ay (Au d r.1 r.2.1 g.nodes.length hr.1 Ad) hH hp rfl B0 rfl rfl (fun r2 hr2=>go A0 false ?_)
  conv=>whnf
  have k2:=hr2.2.1;have k3:=hr2.2.2.2;have ho2:Gk .i64 r2.2.2:=Gu Ad (by have:=k3 (of_decide_eq_true c0);omega);refine Ay (Up d r2.1 r2.2.1 4 hr2.1 B5) hH hp rfl B0 rfl rfl (fun r3 hr3=>go A0 false ?_);conv=>whnf
  refine ⟨fun c1=>?_,fun c1=>?_⟩<;>conv=>whnf
  ·refine Ay (Au d r3.1 r3.2.1 2 hr3 B5) hH hp rfl B0 rfl rfl (fun r4 hr4=>go A0 false ?_)
   conv=>whnf
   have h4:=hr4.2.2.2 B5;have h5:=hr4.2.1;(repeat refine Ap ?_);exact C3 A0 (r4.1,r4.2.1,⟨r2.2.2,⟨r.2.2.stamp.epoch,5+r4.2.2⟩,r.2.2.key,r.2.2.val⟩) ⟨hr4.1,hr.2.1,ho2,⟨hr.2.2.2.1.1,Gu (by show _≤5+r4.2.2;omega) (by show 5+r4.2.2≤_;omega)⟩,hr.2.2.2.2⟩ rfl rfl rfl rfl B0
  exact C3 A0 (r3.1,r3.2.1,⟨r2.2.2,r.2.2.stamp,r.2.2.key,r.2.2.val⟩) ⟨hr3,hr.2.1,ho2,hr.2.2.2⟩ rfl rfl rfl rfl B0
 refine Ay (Up d r.1 r.2.1 4 hr.1 B5) hH hp rfl B0 rfl rfl (fun r3 hr3=>go A0 false ?_);conv=>whnf
 refine ⟨fun c1=>?_,fun c1=>?_⟩<;>conv=>whnf
 ·refine Ay (Au d r3.1 r3.2.1 2 hr3 B5) hH hp rfl B0 rfl rfl (fun r4 hr4=>go A0 false ?_)
  conv=>whnf
  have h4:=hr4.2.2.2 B5;have h5:=hr4.2.1;(repeat refine Ap ?_);exact C3 A0 (r4.1,r4.2.1,⟨r.2.2.op,⟨r.2.2.stamp.epoch,5+r4.2.2⟩,r.2.2.key,r.2.2.val⟩) ⟨hr4.1,hr.2.1,hr.2.2.1,⟨hr.2.2.2.1.1,Gu (by show _≤5+r4.2.2;omega) (by show 5+r4.2.2≤_;omega)⟩,hr.2.2.2.2⟩ rfl rfl rfl rfl B0
 exact C3 A0 (r3.1,r3.2.1,r.2.2) ⟨hr3,hr.2⟩ rfl rfl rfl rfl B0
theorem C4n {xs:List Aa}(h:xs.length≤5)(ho:∀y∈xs,y.ok):WD 0 (Hr xs):=by
 refine ⟨?_,rfl,rfl,fun n hn=>?_,C18 ho⟩
 ·simp only [Ab.w,Hr,List.length_nil,List.length_replicate];omega
 have:n=0:=List.eq_of_mem_replicate hn
 omega
theorem A66 {k:Nat}{x y:Ab}(h:WD k x)(hw:y.w≤x.w+3)(hs:y.sums=x.sums)(hb:y.black.length=x.black.length)(ho:Za y):WD (k+1) y:=
 ⟨by have:=h.w;omega,by rw [hs];exact h.s4,by rw [hb];exact h.b4,fun n hn=>by rw [hs] at hn;have:=h.s n hn;omega,ho⟩
theorem C5o {k m:Nat}{x:Ab}(h:WD k x)(hk:k≤m):WD m x:=⟨by have:=h.w;omega,h.s4,h.b4,fun n hn=>by have:=h.s n hn;omega,h.o⟩
theorem C2x {k:Nat}{x:Ab}{g:Ah}(h:WD k x):WD (k+1) (Df g x).1:=by
 have hw:=Yh (g:=g) (w:=x);refine A66 h Ad ?_ ?_ (B9c h.o)<;>unfold Df<;>split<;>rfl
theorem C2y {k:Nat}{x:Ab}{g:Ah}(h:WD k x):WD (k+1) (Fi g x).1:=by
 have hw:=B0e (g:=g) (w:=x);refine A66 h Ad ?_ ?_ (B9d h.o)<;>unfold Fi<;>split<;>first|rfl|(unfold F9;rfl)
theorem C4p {k:Nat}{x:Ab}(h:WD k x):WD (k+1) (Gx x).1:=by
 refine A66 h ?_ ?_ ?_ (C19 h.o)<;>unfold Gx<;>split<;>first|rfl|(simp only [Ab.w,Cd,List.length_drop];omega)|omega
theorem C4o {k:Nat}{x:Ab}{r:Aa}(h:WD k x)(he:0≤r.stamp.epoch∧r.stamp.epoch≤3)(ho:r.ok)(hk8:k≤8):WD (k+1) (D0 x r):=by
 have hw:=A12 (w:=x) (r:=r);rw [Vn h.s4 h.b4 he] at *;refine ⟨by have:=h.w;omega,?_,?_,fun n hn=>?_,B9b (C29 (q:=x.black.set r.stamp.epoch.toNat true) (C3b (q:=x.queue++[r]) h.o (Ke h.o.q ho))) (Uj h.o.n ?_)⟩
 ·simp only [Hw,Fk,kept,List.length_set];exact h.s4
 ·simp only [Hw,Fk,kept,List.length_set];exact h.b4
 ·have hn:n∈x.sums.set r.stamp.epoch.toNat (x.sums.getD r.stamp.epoch.toNat default+ -1):=hn
  rcases List.mem_or_eq_of_mem_set hn with hn|rfl
  ·have:=h.s n hn;omega
  have hk:r.stamp.epoch.toNat<x.sums.length:=by have:=h.s4;omega
  have:=h.s _ (At (d:=default) hk)
  omega
 have hk:r.stamp.epoch.toNat<x.sums.length:=by have:=h.s4;omega
 have:=h.s _ (At (d:=default) hk)
 exact Gu (by show _≤x.sums.getD _ _+_;omega) (by show x.sums.getD _ _+_≤_;omega)
structure JWk where
 k:Nat
 i:Int
 h:Int
 x:Ab
set_option maxHeartbeats 4000000 in
theorem B0t (d:Ey)(i h:Int)(g:Ah)(hi:0≤i∧i≤d.n)(hg:g.w≤1000):E3 Tryz.prog HT 121 d.pins (d.cur i h) [.agg g.c] (fun r:Int×Int×Ab=>(0≤r.1∧r.1≤d.n)∧WD 8 r.2.2) (fun r=>d.cur r.1 r.2.1) (fun r=>[.agg r.2.2.c]):=by
 have hgl:g.nodes.length≤g.w:=by show g.nodes.length≤g.nodes.length+(g.nodes.map Bw.w).sum;omega
 refine Em A0 false Tryz.func121 rfl B5 fun B b hH hp=>?_;conv=>whnf
 refine Ay (Wp d i h hi) hH hp rfl B0 rfl rfl (fun r hr=>go A0 false ?_);conv=>whnf
 have hrl:=hr.2.1;refine Bd (Td r.2.2 Ad) rfl (A7 ?_);refine Bk A0 false [8,9] (fun j:JWk=>[(6,.c (vi j.k))]) (fun j=>[⟨12,[.own 4,.own 5,.own 6,.own 7,.own 8,.own 9,.own 10,.own 11]⟩,⟨0,[.c (.val d.v),.c (vi j.i),.c (vi j.h)]⟩,⟨2,[.c (.val (.slice none 0 0)),.c (.val (.slice none 0 0)),.c (.val (.slice none 0 0)),.c (.val (.slice none 0 0)),.c (.val (.slice none 0 0)),.c (.val (.slice none 0 0)),.c (.val (.slice none 0 0)),.c (.val (.slice none 0 0))]⟩,⟨1,[.c (Bg g.nodes),.c (vi g.workers),.c (vi g.cap)]⟩]) (fun j=>[⟨4,Af j.x.queue⟩,⟨5,Af j.x.staged⟩,⟨6,Af j.x.inputs⟩,⟨7,Ak j.x.cells⟩,⟨8,Bh j.x.sums⟩,⟨9,Dw j.x.black⟩,⟨10,Dw j.x.caps⟩,⟨11,G1 j.x.dones⟩]) (fun j=>(0≤j.i∧j.i≤d.n)∧j.k≤7∧WD j.k j.x) (fun j=>8-j.k) (⟨0,r.1,r.2.1,Hr r.2.2⟩) (⟨hr.1,Nat.zero_le _,C4n hrl (C1k hr.2)⟩) ⟨F0,trivial⟩ C2 ⟨Dm,Dm,Dm,Dm,Dm,Dm,Dm,Dm,trivial⟩ C1 A6 (fun j hj=>?_);conv=>whnf
 obtain ⟨hi2,hk2,hx⟩:=hj;have hxw:=hx.w;refine Ay (Au d j.i j.h 8 hi2 B5) hH hp rfl B0 rfl rfl (fun s hs=>go A0 false ?_);conv=>whnf
 refine Eo (fun hlt=>?_) fun hlt=>?_<;>conv=>whnf
 ·have hlt2:s.2.2<8:=hs.2.2.2 B5
  refine Ay (Au d s.1 s.2.1 5 hs.1 B5) hH hp rfl B0 rfl rfl (fun t ht=>go A0 false ?_);conv=>whnf
  refine ⟨fun c0=>?_,fun c0=>?_⟩<;>conv=>whnf
  ·refine Bd (A3b g j.x Ad Ad) rfl (A7 ?_)
   (repeat refine Ap ?_);refine Az [(4,13),(5,14),(6,15),(7,16),(8,17),(9,18),(10,19),(11,20)] (⟨j.k+1,t.1,t.2.1,(Df g j.x).1⟩) (⟨ht.1,by show j.k+1≤7;omega,C2x hx⟩) (by show 8-(j.k+1)<_;omega) ⟨rfl,trivial⟩ ⟨rfl,rfl,rfl,rfl,rfl,rfl,rfl,rfl,trivial⟩ C2 A6 C1 A6
  refine ⟨fun c1=>?_,fun c1=>?_⟩<;>conv=>whnf
  ·refine Gs rfl ?_
   refine Bt A0 false 1 rfl rfl rfl A6 rfl (A4 Br) ?_;refine A5 [0,2] A6 ⟨?_,?_,trivial⟩
   focus
    refine A7 ?_;refine Ag (A5 [2] A6 ⟨A7 ?_,trivial⟩);refine Ag (A5 [3] A6 ⟨A7 ?_,trivial⟩);refine Ay (A5g d t.1 t.2.1 g ht.1 Ad) hH hp rfl B0 rfl rfl (fun r9 hr9=>go A0 false ?_)
   rotate_left 1
   focus
    refine A7 ?_;refine Ag ?_;refine A5 [0,3] A6 ⟨?_,?_,trivial⟩
    focus
     refine A7 ?_;refine Ag (A5 [3] A6 ⟨A7 ?_,trivial⟩);refine Ay (A5g d t.1 t.2.1 g ht.1 Ad) hH hp rfl B0 rfl rfl (fun r9 hr9=>go A0 false ?_)
    rotate_left 1
    focus
     refine A7 ?_;refine Ay (A5g d t.1 t.2.1 g ht.1 Ad) hH hp rfl B0 rfl rfl (fun r9 hr9=>go A0 false ?_);conv=>whnf
     refine Ag ?_;refine A5 [0] A6 ⟨?_,trivial⟩;refine go A0 false ?_
   all_goals
    conv=>whnf
    refine Ag (A5 [4] A6 ⟨A7 ?_,trivial⟩);refine Bd (A6v j.x r9.2.2 Ad (fun n hn=>by have:=hx.s n hn;omega) hx.s4 hx.b4 hr9.2.1) rfl (A7 ?_);refine Ag (A5 [5] A6 ⟨A7 ?_,trivial⟩);refine Ag (Gr A6 (A7 ?_))
   all_goals
    (repeat refine Ap ?_);refine Az [(4,13),(5,14),(6,15),(7,16),(8,17),(9,18),(10,19),(11,20)] (⟨j.k+1,r9.1,r9.2.1,D0 j.x r9.2.2⟩) (⟨hr9.1,by show j.k+1≤7;omega,C4o hx hr9.2.1 hr9.2.2 Ad⟩) (by show 8-(j.k+1)<_;omega) ⟨rfl,trivial⟩ ⟨rfl,rfl,rfl,rfl,rfl,rfl,rfl,rfl,trivial⟩ C2 A6 C1 A6
  refine ⟨fun c2=>?_,fun c2=>?_⟩<;>conv=>whnf
  ·refine Bd (A6x j.x Ad) rfl (A7 ?_)
   (repeat refine Ap ?_);refine Az [(4,13),(5,14),(6,15),(7,16),(8,17),(9,18),(10,19),(11,20)] (⟨j.k+1,t.1,t.2.1,(Gx j.x).1⟩) (⟨ht.1,by show j.k+1≤7;omega,C4p hx⟩) (by show 8-(j.k+1)<_;omega) ⟨rfl,trivial⟩ ⟨rfl,rfl,rfl,rfl,rfl,rfl,rfl,rfl,trivial⟩ C2 A6 C1 A6
  refine Bd (B16 g j.x Ad Ad) rfl (A7 ?_);(repeat refine Ap ?_);refine Az [(4,13),(5,14),(6,15),(7,16),(8,17),(9,18),(10,19),(11,20)] (⟨j.k+1,t.1,t.2.1,(Fi g j.x).1⟩) (⟨ht.1,by show j.k+1≤7;omega,C2y hx⟩) (by show 8-(j.k+1)<_;omega) ⟨rfl,trivial⟩ ⟨rfl,rfl,rfl,rfl,rfl,rfl,rfl,rfl,trivial⟩ C2 A6 C1 A6
 exact C3 A0 (s.1,s.2.1,j.x) ⟨hs.1,C5o hx Ad⟩ rfl rfl rfl rfl B0
theorem Ha (xs:List Int)(k:Nat)(h:∀x∈xs,Gk .i64 x):Gk .i64 (xs.getD k 0):=A0u (p:=fun w=>Gk .i64 w) xs k 0 h ⟨by decide,by decide⟩
theorem Et {n:Int}(h: -9223372036854775808≤n)(h':n≤9223372036854775807):Gk .i64 n:=⟨h,h'⟩
theorem A7x (d:Ey)(i h:Int)(hi:0≤i∧i≤d.n):E3 Tryz.prog HT 155 d.pins (d.cur i h) [] (fun r:Int×Int×Fo=>(0≤r.1∧r.1≤d.n)∧r.2.2.ok) (fun r=>d.cur r.1 r.2.1) (fun r=>[.agg r.2.2.c]):=by
 refine Em A0 false Tryz.func155 rfl B5 fun B b hH hp=>?_;conv=>whnf
 refine Ay (Au d i h 4 hi B5) hH hp rfl B0 rfl rfl (fun r hr=>go A0 false ?_);conv=>whnf
 refine Ay (Au d r.1 r.2.1 5 hr.1 B5) hH hp rfl B0 rfl rfl (fun r2 hr2=>go A0 false ?_);conv=>whnf
 exact C3 A0 (r2.1,r2.2.1,⟨r.2.2,r2.2.2⟩) ⟨hr2.1,Et (by show _≤r.2.2;omega) (by show r.2.2≤_;omega),Et (by show _≤r2.2.2;omega) (by show r2.2.2≤_;omega)⟩ rfl rfl rfl rfl B0
theorem A7v (d:Ey)(i h:Int)(hi:0≤i∧i≤d.n):E3 Tryz.prog HT 125 d.pins (d.cur i h) [] (fun r:Int×Int×Fo=>(0≤r.1∧r.1≤d.n)∧r.2.2.ok) (fun r=>d.cur r.1 r.2.1) (fun r=>[.agg r.2.2.c]):=by
 refine Em A0 false Tryz.func125 rfl B5 fun B b hH hp=>?_;conv=>whnf
 refine Ay (A7x d i h hi) hH hp rfl B0 rfl rfl (fun r hr=>go A0 false ?_);conv=>whnf
 refine Ay (Au d r.1 r.2.1 10 hr.1 B5) hH hp rfl B0 rfl rfl (fun r2 hr2=>go A0 false ?_);conv=>whnf
 refine ⟨fun c0=>?_,fun c0=>?_⟩<;>conv=>whnf
 ·refine Fx 3 (Bh [-1,3,4,9223372036854775807]) rfl (Bu rfl C2) ?_
  refine Ay (Dt d r2.1 r2.2.1 [-1,3,4,9223372036854775807] hr2.1 B5) hH hp rfl B0 rfl rfl (fun r3 hr3=>go A0 false ?_);conv=>whnf
  exact C3 A0 (r3.1,r3.2.1,⟨[-1,3,4,9223372036854775807].getD r3.2.2 0,r.2.2.turn⟩) ⟨hr3.1,Ha _ _ (by intro x hx;simp only [List.mem_cons,List.not_mem_nil,or_false] at hx;show _∧_;omega),hr.2.2⟩ rfl rfl rfl rfl B0
 refine ⟨fun c1=>?_,fun c1=>?_⟩<;>conv=>whnf
 ·refine Fx 3 (Bh [-1,5,6,7,-9223372036854775808]) rfl (Bu rfl C2) ?_
  refine Ay (Dt d r2.1 r2.2.1 [-1,5,6,7,-9223372036854775808] hr2.1 B5) hH hp rfl B0 rfl rfl (fun r3 hr3=>go A0 false ?_);conv=>whnf
  exact C3 A0 (r3.1,r3.2.1,⟨r.2.2.epoch,[-1,5,6,7,-9223372036854775808].getD r3.2.2 0⟩) ⟨hr3.1,hr.2.1,Ha _ _ (by intro x hx;simp only [List.mem_cons,List.not_mem_nil,or_false] at hx;show _∧_;omega)⟩ rfl rfl rfl rfl B0
 exact C3 A0 (r2.1,r2.2.1,r.2.2) ⟨hr2.1,hr.2⟩ rfl rfl rfl rfl B0
theorem B4w (d:Ey)(i h:Int)(hi:0≤i∧i≤d.n):E3 Tryz.prog HT 122 d.pins (d.cur i h) [] (fun r:Int×Int×Aa=>(0≤r.1∧r.1≤d.n)∧r.2.2.ok) (fun r=>d.cur r.1 r.2.1) (fun r=>[.agg r.2.2.c]):=by
 refine Em A0 false Tryz.func122 rfl B5 fun B b hH hp=>?_;conv=>whnf
 refine Ay (Au d i h 5 hi B5) hH hp rfl B0 rfl rfl (fun r hr=>go A0 false ?_);conv=>whnf
 refine Ay (A7x d r.1 r.2.1 hr.1) hH hp rfl B0 rfl rfl (fun s hs=>go A0 false ?_);conv=>whnf
 refine Ay (Au d s.1 s.2.1 12 hs.1 B5) hH hp rfl B0 rfl rfl (fun r2 hr2=>go A0 false ?_);conv=>whnf
 refine Ay (Au d r2.1 r2.2.1 40 hr2.1 B5) hH hp rfl B0 rfl rfl (fun r3 hr3=>go A0 false ?_);conv=>whnf
 exact C3 A0 (r3.1,r3.2.1,⟨r.2.2,s.2.2,r2.2.2,r3.2.2⟩) ⟨hr3.1,Et (by show _≤r.2.2;omega) (by show r.2.2≤_;omega),hs.2,Et (by show _≤r2.2.2;omega) (by show r2.2.2≤_;omega),Et (by show _≤r3.2.2;omega) (by show r3.2.2≤_;omega)⟩ rfl rfl rfl rfl B0
theorem Mj (d:Ey)(i h:Int)(hi:0≤i∧i≤d.n):E3 Tryz.prog HT 91 d.pins (d.cur i h) [] (fun r:Int×Int×Aa=>(0≤r.1∧r.1≤d.n)∧r.2.2.ok) (fun r=>d.cur r.1 r.2.1) (fun r=>[.agg r.2.2.c]):=by
 refine Em A0 false Tryz.func91 rfl B5 fun B b hH hp=>?_;conv=>whnf
 refine Ay (B4w d i h hi) hH hp rfl B0 rfl rfl (fun r hr=>go A0 false ?_);conv=>whnf
 refine Ay (Au d r.1 r.2.1 12 hr.1 B5) hH hp rfl B0 rfl rfl (fun r2 hr2=>go A0 false ?_);conv=>whnf
 refine ⟨fun c0=>?_,fun c0=>?_⟩<;>conv=>whnf
 ·refine Fx 3 (Bh [-1,7,8]) rfl (Bu rfl C2) ?_
  refine Ay (Dt d r2.1 r2.2.1 [-1,7,8] hr2.1 B5) hH hp rfl B0 rfl rfl (fun r3 hr3=>go A0 false ?_);conv=>whnf
  exact C3 A0 (r3.1,r3.2.1,⟨[-1,7,8].getD r3.2.2 0,r.2.2.stamp,r.2.2.key,r.2.2.val⟩) ⟨hr3.1,Ha _ _ (by intro x hx;simp only [List.mem_cons,List.not_mem_nil,or_false] at hx;show _∧_;omega),hr.2.2⟩ rfl rfl rfl rfl B0
 refine ⟨fun c1=>?_,fun c1=>?_⟩<;>conv=>whnf
 ·refine Ay (A7v d r2.1 r2.2.1 hr2.1) hH hp rfl B0 rfl rfl (fun r3 hr3=>go A0 false ?_)
  conv=>whnf
  exact C3 A0 (r3.1,r3.2.1,⟨r.2.2.op,r3.2.2,r.2.2.key,r.2.2.val⟩) ⟨hr3.1,hr.2.1,hr3.2,hr.2.2.2⟩ rfl rfl rfl rfl B0
 refine ⟨fun c2=>?_,fun c2=>?_⟩<;>conv=>whnf
 ·refine Fx 3 (Bh [-1,99,100,-9223372036854775808]) rfl (Bu rfl C2) ?_
  refine Ay (Dt d r2.1 r2.2.1 [-1,99,100,-9223372036854775808] hr2.1 B5) hH hp rfl B0 rfl rfl (fun r3 hr3=>go A0 false ?_);conv=>whnf
  exact C3 A0 (r3.1,r3.2.1,⟨r.2.2.op,r.2.2.stamp,[-1,99,100,-9223372036854775808].getD r3.2.2 0,r.2.2.val⟩) ⟨hr3.1,hr.2.1,hr.2.2.1,Ha _ _ (by intro x hx;simp only [List.mem_cons,List.not_mem_nil,or_false] at hx;show _∧_;omega),hr.2.2.2.2⟩ rfl rfl rfl rfl B0
 refine ⟨fun c3=>?_,fun c3=>?_⟩<;>conv=>whnf
 ·refine Fx 3 (Bh [-1,999,1000,9223372036854775807]) rfl (Bu rfl C2) ?_
  refine Ay (Dt d r2.1 r2.2.1 [-1,999,1000,9223372036854775807] hr2.1 B5) hH hp rfl B0 rfl rfl (fun r3 hr3=>go A0 false ?_);conv=>whnf
  exact C3 A0 (r3.1,r3.2.1,⟨r.2.2.op,r.2.2.stamp,r.2.2.key,[-1,999,1000,9223372036854775807].getD r3.2.2 0⟩) ⟨hr3.1,hr.2.1,hr.2.2.1,hr.2.2.2.1,Ha _ _ (by intro x hx;simp only [List.mem_cons,List.not_mem_nil,or_false] at hx;show _∧_;omega)⟩ rfl rfl rfl rfl B0
 exact C3 A0 (r2.1,r2.2.1,r.2.2) ⟨hr2.1,hr.2⟩ rfl rfl rfl rfl B0
end Go.Proofs.YtdendlkeiaccpaaGreat
