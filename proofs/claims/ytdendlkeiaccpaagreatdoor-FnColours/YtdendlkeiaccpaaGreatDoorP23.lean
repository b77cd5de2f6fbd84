/- Part 23 of the proof that each of the laws FnColours returns true for every input. No conditions. -/
import Derived.Test.YtdendlkeiaccpaaGreatDoorP22
import Derived.Test.YtdendlkeiaccpaaGreatDoorP4
import Derived.Test.YtdendlkeiaccpaaGreatDoorP6
import Derived.Test.YtdendlkeiaccpaaGreatDoorP17

set_option linter.unusedSimpArgs false
set_option linter.unusedVariables false
set_option maxRecDepth 100000
namespace Go.Proofs.YtdendlkeiaccpaaGreatDoor
open Go.Sx
def Yp (x:Bj):Prop:=x.ok
def Fi (c:A3):Prop:=∀w∈c.workers,∀x∈w.cells,Yp x
theorem A5h {l:List Bj}{x y:Bj}(h:y∈(Km l x).1):y∈l∨y=x:=by
 unfold Km at h
 split at h
 ·exact .inl h
 rcases A72.1 h with h|h
 ·exact .inl (List.mem_filter.1 h).1
 exact .inr h
theorem X2 {k:Int}{l:List Bj}{x y:Bj}(h:y∈(Dx k l x).1):y∈l∨y=x:=by
 unfold Dx at h
 split at h
 ·exact A5h h
 split at h
 ·split at h
  ·exact .inl h
  exact A72.1 h
 exact .inl h
theorem Xo {g:Aq}{cs:List Bj}{r:Ae}{y:Bj}(h:y∈(F0 g cs r).1):y∈cs∨(H2 r∧y=Gn r):=by
 unfold F0 at h
 split at h
 ·rename_i hs
  split at h
  ·exact .inl h
  split at h
  ·rcases X2 h with h|h
   ·exact .inl h
   exact .inr ⟨hs.2.1,h⟩
  rcases X2 h with h|h
  ·exact .inl h
  exact .inr ⟨hs.2.1,h⟩
 exact .inl h
theorem Ni {r:Ae}(h:H2 r):r.ok:=by
 simp only [H2] at h
 simp only [Ae.ok,Ea.ok,Eu]
 omega
theorem A2x {r:Ae}(h:H2 r):Yp (Gn r):=⟨(Ni h).1,(Ni h).2.1.1,(Ni h).2.2⟩
theorem Gz {c:A3}{j:Int}{w:Aa}(h:Fi c)(hw:∀x∈w.cells,Yp x):Fi (B3 c j w):=fun v hv=>by
 rcases Ha hv with hv|rfl
 ·exact h v hv
 exact hw
theorem H9 {c:A3}{w:Int}(h:Fi c):∀x∈(Ab c w).cells,Yp x:=by
 unfold Ab
 by_cases hl:w.toNat<c.workers.length
 ·exact h _ (Ay hl)
 rw [show c.workers.getD w.toNat default=default by simp only [List.getD,List.getElem?_eq_none (Nat.le_of_not_lt hl),Option.getD_none]]
 intro x hx
 cases hx
theorem A2y {c:A3}{p:C7}(h:Fi c):Fi (Aj c p).1:=by
 unfold Aj
 split
 ·unfold Df
  split
  ·refine Gz h ?_
   unfold F3
   split
   ·intro x hx
    rcases Xo (show x∈(F0 c.graph (Ab c p.a).cells ((Ab c p.a).queue.getD 0 default)).1 from hx) with hx|⟨hr,rfl⟩
    ·exact H9 h x hx
    exact A2x hr
   exact H9 h
  exact h
 split
 ·unfold Cz
  split
  ·refine Gz h ?_
   unfold D8
   split<;>exact H9 h
  exact h
 split
 ·unfold C3
  split
  ·split
   ·exact Gz h (H9 h)
   split
   ·refine Gz (show Fi (C2 c _ _) from h) ?_
    unfold H5
    split<;>exact H9 h
   exact h
  exact h
 split
 ·unfold Cm
  split
  ·refine Gz (show Fi (C2 c _ _) from h) ?_
   unfold E8
   split<;>exact H9 h
  exact h
 split
 ·unfold Cy
  split<;>exact h
 split
 ·unfold Bc
  dsimp only
  split
  ·split
   ·exact Gz (show Fi (C9 c _ _) from h) (H9 h)
   split
   ·split
    ·exact Gz (show Fi (C9 c _ _) from h) (H9 h)
    exact h
   unfold F2
   split
   ·exact Gz (show Fi (C9 c _ _) from h) (H9 h)
   exact h
  exact h
 split
 ·unfold D5
  split
  ·split
   ·exact h
   exact Gz (show Fi (I8 c _) from h) (H9 h)
  exact h
 exact h
def A5e (c:A3):Prop:=As c∨∃(d:A3) (j:Int) (v:Aa) (e k:Int),As d∧Cx d.graph.nodes.length v∧(k=1∨k= -1)∧c=B3 d j (El v e k)
theorem A3x {c:A3}{p:C7}(h:A5e c):A5e (Aj c p).1:=by
 by_cases hc:As c
 ·by_cases hk:B9 (Aj c p).1=true
  ·exact .inl (of_decide_eq_true hk)
  rw [Pe hc] at hk
  split at hk
  ·rename_i h3
   split at hk
   ·rename_i hm
    obtain ⟨hm,hne⟩:=hm
    have e:(Aj c p).1=(C3 c p.a).1:=by
     unfold Aj
     rw [if_neg Ac,if_neg Ac,if_pos h3]
    rw [e]
    unfold C3 at hm ⊢
    split at hm
    ·rename_i hM
     split at hm
     ·rename_i hS
      rw [if_pos hM,if_neg hne,if_pos hS]
      have hv:=Ny (Jy hM.1.1 hM.1.2)
      exact .inr ⟨_,_,_,_,1,Qz hM.1 hM.2 hne,hv,.inl rfl,by rw [P8 hv (Mm hM.1 hM.2).1.2.1]⟩
     cases hm
    cases hm
   exact absurd rfl hk
  split at hk
  ·rename_i h3 h4
   split at hk
   ·rename_i hm
    have e:(Aj c p).1=(Cm c p.a p.b).1:=by
     unfold Aj
     rw [if_neg Ac,if_neg Ac,if_neg h3,if_pos h4]
    rw [e]
    unfold Cm at hm ⊢
    split at hm
    ·rename_i hT
     rw [if_pos hT]
     have hr:=Sk hT.1 hT.2
     have ht:0≤p.b∧p.b<c.workers.length:=⟨hT.1.2.2.2.1,by rw [hc.1.2.1];exact hT.1.2.2.2.2⟩
     have hv:=A09 (Jy hc ht) hr
     have hw:=Jy hc ht
     refine .inr ⟨_,p.b,_,(Gu c p.a p.b).stamp.epoch,-1,R9 hT.1,(Yu (e:=(Gu c p.a p.b).stamp.epoch) (b:=true)).2 hv,.inr rfl,?_⟩
     show B3 _ p.b (E8 (Ab c p.b) (Gu c p.a p.b))=_
     rw [P3 hw hr.1.2.1]
     rfl
    cases hm
   exact absurd rfl hk
  exact absurd rfl hk
 rw [L5 hc]
 exact h
theorem B5b {x:Bj}(h:Yp x):x.ok:=h
theorem B6f {x:Av}(h:K6 x):x.ok:=by
 obtain ⟨hk,h2,h3,h4,h0,ho,_,_,hn⟩:=h
 have hab:(-1000≤x.a∧x.a≤1000)∧(-1000≤x.b∧x.b≤1000):=by
  by_cases k2:x.kind=2
  ·have:=h2 k2;omega
  by_cases k3:x.kind=3
  ·have:=h3 k3;omega
  by_cases k4:x.kind=4
  ·have:=h4 k4;omega
  have:=h0 k2 k3 k4;omega
 refine ⟨?_,?_,?_,by simp only [maxLen];omega,fun y hy=>?_⟩
 ·simp only [Eu];omega
 ·simp only [Eu];omega
 ·simp only [Eu];omega
 have:=hn y hy
 simp only [Eu];omega
theorem A1d {α:Type} [Inhabited α] {l:List α}{x:α}(h:x∈l):∃i,i<l.length∧l.getD i default=x:=by
 obtain ⟨i,hi,rfl⟩:=List.getElem_of_mem h
 exact ⟨i,hi,by simp only [List.getD,List.getElem?_eq_getElem hi,Option.getD_some]⟩
theorem B2t {g:Aq}(h:Ft g):g.ok:=by
 obtain ⟨h1,h2,h3,h4⟩:=h
 refine ⟨⟨by simp only [maxLen];omega,fun y hy=>?_⟩,?_,?_⟩
 ·obtain ⟨i,hi,rfl⟩:=A1d hy
  exact B6f (h4 i hi).1
 ·simp only [Eu];omega
 simp only [Eu];omega
theorem B50 {l:Bz}(h:Gm l):l.ok:=by
 obtain ⟨⟨h1,h2,h3,h4,h5,h6,h7⟩,hq⟩:=h
 refine ⟨?_,⟨by simp only [maxLen];omega,fun y hy=>Ni (hq y hy)⟩,?_,?_,?_,?_⟩<;>(simp only [Eu];omega)
def Uq (n:Nat) (w:Aa):Prop:=Lp n w∧V5 w.dones∧∀k∈w.sums,-1000001≤k∧k≤1000001
theorem Rc {n:Nat}{w:Aa}(h:Cx n w):Uq n w:=⟨h.1,h.2.2.2.2,fun k hk=>by
 have:=h.2.2.2.1 k hk
 simp only [Gj] at this
 omega⟩
theorem B01 {n:Nat}{w:Aa}(h:Uq n w)(hc:∀x∈w.cells,Yp x)(hw:w.w≤100000000):w.ok:=by
 obtain ⟨⟨hq,hs,hi,_⟩,hd,hn⟩:=h
 simp only [Aa.w] at hw
 refine ⟨⟨?_,fun y hy=>Ni (hq y hy).1⟩,⟨?_,fun y hy=>Ni (hs y hy).1⟩,⟨?_,fun y hy=>Ni (hi y hy).1⟩,⟨?_,fun y hy=>B5b (hc y hy)⟩,⟨?_,fun y hy=>?_⟩,?_,?_,?_,fun y hy=>?_⟩
 any_goals (simp only [maxLen];omega)
 ·have:=hn y hy
  simp only [Eu];omega
 obtain ⟨i,hi,rfl⟩:=A1d hy
 have:=(hd i hi).1
 simp only [Dn.ok,Eu];omega
theorem B8p {α:Type}{w:α→Nat}{l:List α}{x:α}(h:x∈l):w x≤wS w l:=by
 rw [B4x]
 induction l with
 |nil=>cases h
 |cons y l ih=>
  simp only [List.map_cons,List.sum_cons,List.length_cons]
  rcases List.mem_cons.1 h with rfl|h
  ·omega
  have:=ih h;omega
theorem A5k {c:A3}(hg:Ft c.graph)(hw:∀w∈c.workers,Uq c.graph.nodes.length w)(hl:∀i,i<c.links.length→Gm (c.links.getD i default))(ht:∀t∈c.tokens,Jm c.graph.workers t)
  (hn:∀x∈c.news,K5 c.graph.workers x)(hb:Fi c)(hs:c.w≤100000000):c.ok:=by
 have hgw:=hg.2.1
 simp only [A3.w] at hs
 have h1:=B4x Aa.w c.workers
 have h2:=B4x Bz.w c.links
 refine ⟨B2t hg,⟨?_,fun y hy=>B01 (hw y hy) (hb y hy) ?_⟩,⟨?_,fun y hy=>?_⟩,⟨?_,fun y hy=>?_⟩,⟨?_,fun y hy=>?_⟩⟩
 ·simp only [maxLen];omega
 ·have:=B8p (w:=Aa.w) hy
  omega
 ·simp only [maxLen];omega
 ·obtain ⟨i,hi,rfl⟩:=A1d hy
  exact B50 (hl i hi)
 ·simp only [maxLen];omega
 ·have:=ht y hy
  simp only [Jm] at this
  simp only [Cu.ok,Eu];omega
 ·simp only [maxLen];omega
 have:=hn y hy
 simp only [K5] at this
 simp only [Fe.ok,Eu];omega
def OkQ (c:A3):Prop:=Ft c.graph∧(∀w∈c.workers,Uq c.graph.nodes.length w)∧(∀i,i<c.links.length→Gm (c.links.getD i default))∧(∀t∈c.tokens,Jm c.graph.workers t)∧(∀x∈c.news,K5 c.graph.workers x)
theorem B3n {c:A3}(h:OkQ c∧Fi c)(hs:c.w≤100000000):c.ok:=A5k h.1.1 h.1.2.1 h.1.2.2.1 h.1.2.2.2.1 h.1.2.2.2.2 h.2 hs
theorem Wj {c:A3}(h:A5e c):OkQ c:=by
 rcases h with h|⟨d,j,v,e,k,hd,hv,hk,rfl⟩
 ·obtain ⟨hh,hw,hl,ht,hn⟩:=h
  exact ⟨hh.1,fun w hw'=>Rc (hw w hw'),fun i hi=>(hl i hi).1,ht,hn⟩
 obtain ⟨hh,hw,hl,ht,hn⟩:=hd
 refine ⟨hh.1,fun w hw'=>?_,fun i hi=>(hl i hi).1,ht,hn⟩
 rcases Ha hw' with hw'|rfl
 ·exact Rc (hw w hw')
 have hq:=Rc hv
 refine ⟨hq.1,hq.2.1,fun n hn=>?_⟩
 rcases Ha hn with hn|rfl
 ·exact hq.2.2 n hn
 by_cases hl:e.toNat<v.sums.length
 ·have:=hv.2.2.2.1 _ (Ay (d:=default) hl)
  simp only [Gj] at this
  omega
 rw [show v.sums.getD e.toNat default=0 by simp only [List.getD,List.getElem?_eq_none (Nat.le_of_not_lt hl),Option.getD_none];rfl]
 omega
theorem A31 {c:A3}{p:C7}(h:OkQ c∧Fi c):OkQ (Aj c p).1∧Fi (Aj c p).1:=by
 refine ⟨?_,A2y h.2⟩
 by_cases hc:As c
 ·exact Wj (A3x (.inl hc))
 rw [L5 hc]
 exact h.1
theorem A4h {c:A3}{l:List C7}(h:OkQ c∧Fi c):OkQ (Bg c l).1∧Fi (Bg c l).1:=by
 have:∀(l:List C7) (s:A3×List Bool),OkQ s.1∧Fi s.1→OkQ (l.foldl Dy s).1∧Fi (l.foldl Dy s).1:=by
  intro l
  induction l with
  |nil=>intro s hs;exact hs
  |cons p l ih=>intro s hs;exact ih (Dy s p) (A31 hs)
 exact this l (c,[]) h
theorem B2l (n:Nat):∀{c:A3},OkQ c∧Fi c→OkQ (D7 n c).1∧Fi (D7 n c).1:=by
 induction n with
 |zero=>intro c h;exact h
 |succ n ih=>
  intro c h
  have h1:OkQ (Bt c).1∧Fi (Bt c).1:=A4h h
  unfold D7
  split
  ·exact h1
  exact ih h1
theorem A6e {n:Int}{l:List Ae}{w:Nat}{r:Ae}(h:r∈R2 n l w):r∈l:=by
 simp only [R2,List.mem_flatMap,List.mem_filter] at h
 obtain ⟨e,_,h,_⟩:=h
 simp only [Cp,List.mem_filter] at h
 exact h.1
theorem B6b {g:Aq}{l:List Ae}(h:(B4 g l).2=true):OkQ (B4 g l).1∧Fi (B4 g l).1:=by
 have hN:Ob g l:=by
  by_cases hN:Ob g l
  ·exact hN
  rw [Ov hN] at h
  cases h
 rw [Jz hN]
 obtain ⟨hg,hl,hr⟩:=hN
 have hg1:=hg.1
 have hg2:=hg.2.1
 have hw:∀w∈E3 g.workers l g.workers.toNat,(w.queue=[]∧w.staged=[]∧w.cells=[]∧w.dones=[]∧w.sums=List.replicate 4 0)∧∀r∈w.inputs,r∈l:=by
  intro w hw
  simp only [E3,List.mem_map] at hw
  obtain ⟨i,_,rfl⟩:=hw
  exact ⟨⟨rfl,rfl,rfl,rfl,rfl⟩,fun r hr=>A6e hr⟩
 refine ⟨⟨hg,fun w hw'=>?_,fun i hi=>?_,fun t ht=>?_,fun x hx=>?_⟩,fun w hw' x hx=>?_⟩
 ·obtain ⟨⟨e1,e2,e3,e4,e5⟩,hi⟩:=hw w hw'
  refine ⟨⟨?_,?_,fun r hr'=>?_,?_⟩,?_,fun k hk=>?_⟩
  ·rw [e1];intro r hr;cases hr
  ·rw [e2];intro r hr;cases hr
  ·have:=hr r (hi r hr')
   refine ⟨this.1,?_⟩
   show r.op<(g.nodes.length:Int)
   omega
  ·rw [e3];intro i hi;exact absurd hi (Nat.not_lt_zero i)
  ·rw [e4];intro i hi;exact absurd hi (Nat.not_lt_zero i)
  rw [e5] at hk
  have:=List.eq_of_mem_replicate hk
  omega
 ·have hm:=Ay (d:=default) hi
  rw [List.eq_of_mem_replicate hm]
  have hb:=H8 g.cap 1 4 Az
  refine ⟨⟨?_,?_,?_,?_,?_,?_,?_⟩,fun r hr=>by cases hr⟩<;>simp only [Gc,List.length_nil]<;>omega
 ·rw [List.eq_of_mem_replicate ht]
  have e:Jm g.workers default↔(0≤(0:Int)∧(0:Int)≤g.workers-1)∧(false=false→(0:Int)=0)∧(-1000000≤(0:Int)∧(0:Int)≤1000000):=Iff.rfl
  exact e.2 ⟨by omega,fun _=>rfl,by omega⟩
 ·cases hx
 rw [(hw w hw').1.2.2.1] at hx
 cases hx
structure E4 where
 a:Option Addr
 n:Nat
 c:Nat
 b:Nat→Nat
 hb:∀i,b i≤255
 hn:n≤16777216
abbrev E4.v (d:E4):Value:= .slice d.a d.n d.c
abbrev E4.cell (d:E4):Af:= .sl d.n 1 fun i=>[.val (.int .u8 (d.b i))]
abbrev E4.pins (d:E4):List (Af×Value):=[(d.cell,d.v)]
abbrev E4.cur (d:E4) (i h:Int):List Af:=[.val d.v,vi i,vi h]
abbrev HT:World→Prop:=fun _=>True
theorem Rk (d:E4)(i h:Int)(hi:0≤i∧i≤d.n):Dd Tryz.prog HT 83 d.pins (d.cur i h) [] (fun r:Int×Int×Int=>(0≤r.1∧r.1≤d.n)∧0≤r.2.2∧r.2.2≤255) (fun r=>d.cur r.1 r.2.1) (fun r=>[.one (vi r.2.2)]):=by
 have hn:=d.hn
 refine Dp A0 true Tryz.func83 rfl Az fun B b hH hp=>?_
 conv=>whnf
 first|(refine Ax 2 rfl [0,1,2,3,4,5,6,7,8,9,10,11,12] A7 (go A0 true ?_);conv=>whnf)|(refine Ax 3 rfl [0,1,2,3,4,5,6,7,8,9] A7 (go A0 true ?_);conv=>whnf)|(refine Ax 4 rfl [0,1,2,3,4,5,6,7,8,9,10,11,12,13,14] A7 (go A0 true ?_);conv=>whnf)
 refine B9p rfl rfl rfl rfl Az (fun r=>go A0 true ?_)
 conv=>whnf
 refine B9p rfl rfl rfl rfl Az (fun r2=>go A0 true ?_)
 conv=>whnf
 refine B96 rfl rfl rfl rfl (fun r3=>go A0 true ?_)
 conv=>whnf
 refine B7s rfl rfl rfl rfl Az Az (fun x0 h0 h1=>go A0 true ?_)
 conv=>whnf
 first|(refine Ax 2 rfl [0,1,2,3,4,5,6,7,8,9,10,11,12] A7 (go A0 true ?_);conv=>whnf)|(refine Ax 3 rfl [0,1,2,3,4,5,6,7,8,9] A7 (go A0 true ?_);conv=>whnf)|(refine Ax 4 rfl [0,1,2,3,4,5,6,7,8,9,10,11,12,13,14] A7 (go A0 true ?_);conv=>whnf)
 refine F4 (fun hlt=>?_) fun hlt=>?_<;>conv=>whnf
 ·first|(refine Ax 2 rfl [0,1,2,3,4,5,6,7,8,9,10,11,12] A7 (go A0 true ?_);conv=>whnf)|(refine Ax 3 rfl [0,1,2,3,4,5,6,7,8,9] A7 (go A0 true ?_);conv=>whnf)|(refine Ax 4 rfl [0,1,2,3,4,5,6,7,8,9,10,11,12,13,14] A7 (go A0 true ?_);conv=>whnf)
  refine B88 A0 hp 0 rfl rfl rfl rfl rfl rfl rfl rfl rfl (⟨hi.1,hlt⟩) (go A0 true ?_)
  conv=>whnf
  refine B7s rfl rfl rfl rfl Az Az (fun x1 g0 g1=>go A0 true ?_)
  conv=>whnf
  exact Bu A0 (i+1,_,x1) ⟨⟨by omega,by show i+1≤_;omega⟩,g0,g1⟩ rfl rfl rfl rfl ⟨⟨Wr _ _,by show Af.val _=_;rw [show IntKind.i64.wrap (i+1)=i+1 by rw [IntKind.wrap_i64];omega],rfl,trivial⟩,rfl,trivial⟩
 exact Bu A0 (i,_,x0) ⟨hi,h0,h1⟩ rfl rfl rfl rfl B1
theorem B7b {i:Int}(h: -9223372036854775808≤i∧i≤9223372036854775807):IntKind.i64.wrap i=i:=by rw [IntKind.wrap_i64];omega
theorem Vt (d:E4):A0f Tryz.prog 41 d.pins [.one (.val d.v)] (fun _:Int=>True) (fun h=>d.cur 0 h):=by
 have hn:=d.hn
 refine B2f A0 true Tryz.func41 rfl Az fun W hp=>?_
 conv=>whnf
 refine C0 A0 true [] (fun j:Nat×Int=>[(3,.c (vi j.2)),(4,.c (vi j.1))]) (fun j=>[]) (fun j=>[]) (fun j=>(j.1:Int)≤d.n) (fun j=>d.n-j.1) ((0,_)) (Int.natCast_nonneg _) ⟨G3,G3,trivial⟩ trivial trivial Co A7 (fun j hj=>?_)
 conv=>whnf
 refine F4 (fun h=>?_) fun h=>?_<;>conv=>whnf
 ·refine A7w (by first|with_reducible rfl|assumption|(simp only [decide_eq_true_eq];omega)|simp) ?_
  conv=>whnf
  refine A7w (by first|with_reducible rfl|assumption|(simp only [decide_eq_true_eq];omega)|simp) ?_
  conv=>whnf
  refine F4 (fun h2=>?_) fun h2=>?_<;>conv=>whnf
  ·refine B88 A0 hp 0 rfl rfl rfl rfl rfl rfl rfl rfl rfl (⟨by omega,h⟩) (go A0 true ?_)
   conv=>whnf
   refine B7s rfl rfl rfl rfl Az Az (fun r r0 r1=>go A0 true ?_)
   conv=>whnf
   refine B8 [] ((j.1+1,r)) ((by show ((j.1+1:Nat):Int)≤_;omega)) (by show d.n-(j.1+1)<_;omega) ⟨rfl,(by show AV.c (vi _)=AV.c (vi _);rw [B7b Ac];rfl),trivial⟩ trivial trivial A7 Co A7
  exact B8e A0 j.2 trivial rfl rfl rfl B1
 repeat' (first|(refine J1 ?_;conv=>whnf)|(refine J2 ?_;conv=>whnf)|(refine ⟨fun h=>?_,fun h=>?_⟩<;>conv=>whnf)|(refine Ex ?_;conv=>whnf)|fail)
 exact B8e A0 j.2 trivial rfl rfl rfl B1
theorem Ai (d:E4)(i h n:Int)(hi:0≤i∧i≤d.n)(hn:n≤1099511627776):Dd Tryz.prog HT 43 d.pins (d.cur i h) [.one (vi n)] (fun r:Int×Int×Int=>(0≤r.1∧r.1≤d.n)∧0≤r.2.2∧(n≤0→r.2.2=0)∧(0<n→r.2.2<n)) (fun r=>d.cur r.1 r.2.1) (fun r=>[.one (vi r.2.2)]):=by
 have hdn:=d.hn
 refine Dp A0 false Tryz.func43 rfl Az fun B b hH hp=>?_
 conv=>whnf
 refine F4 (fun h0=>?_) fun h0=>?_<;>conv=>whnf
 ·exact Bu A0 (i,h,0) ⟨hi,Int.le_refl _,fun _=>rfl,fun h=>by omega⟩ rfl rfl rfl rfl B1
 refine F4 (fun h1=>?_) fun h1=>?_<;>conv=>whnf
 ·refine Ak (Rk d i h hi) hH hp rfl B1 rfl rfl (fun r hr=>go A0 false ?_)
  conv=>whnf
  (repeat refine An ?_)
  exact Bu A0 (r.1,r.2.1,r.2.2.tmod n) ⟨hr.1,Int.tmod_nonneg _ hr.2.1,fun h=>by omega,fun h=>Int.tmod_lt_of_pos _ h⟩ rfl rfl rfl rfl B1
 refine Ak (Rk d i h hi) hH hp rfl B1 rfl rfl (fun r hr=>go A0 false ?_)
 conv=>whnf
 refine Ak (Rk d r.1 r.2.1 hr.1) hH hp rfl B1 rfl rfl (fun r2 hr2=>go A0 false ?_)
 conv=>whnf
 refine Ak (Rk d r2.1 r2.2.1 hr2.1) hH hp rfl B1 rfl rfl (fun r3 hr3=>go A0 false ?_)
 conv=>whnf
 refine Ak (Rk d r3.1 r3.2.1 hr3.1) hH hp rfl B1 rfl rfl (fun r4 hr4=>go A0 false ?_)
 conv=>whnf
 (repeat refine An ?_)
 exact Bu A0 (r4.1,r4.2.1,(r.2.2 * 16777216+r2.2.2 * 65536+r3.2.2 * 256+r4.2.2).tmod n) ⟨hr4.1,Int.tmod_nonneg _ Ac,fun h=>by omega,fun h=>Int.tmod_lt_of_pos _ h⟩ rfl rfl rfl rfl B1
theorem Lt (d:E4)(i h n:Int)(hi:0≤i∧i≤d.n)(hn:n≤1099511627776):Dd Tryz.prog HT 48 d.pins (d.cur i h) [.one (vi n)] (fun r:Int×Int×Bool=>0≤r.1∧r.1≤d.n) (fun r=>d.cur r.1 r.2.1) (fun r=>[.one (vb r.2.2)]):=by
 refine Dp A0 false Tryz.func48 rfl Az fun B b hH hp=>?_
 conv=>whnf
 refine Ak (Ai d i h n hi hn) hH hp rfl B1 rfl rfl (fun r hr=>go A0 false ?_)
 conv=>whnf
 exact Bu A0 (r.1,r.2.1,_) hr.1 rfl rfl rfl rfl B1
theorem De (d:E4)(i h:Int)(xs:List Int)(hi:0≤i∧i≤d.n)(hx:0<xs.length∧xs.length≤16777216):Dd Tryz.prog HT 101 d.pins (d.cur i h) [.one (Au xs)] (fun r:Int×Int×Nat=>(0≤r.1∧r.1≤d.n)∧r.2.2<xs.length) (fun r=>d.cur r.1 r.2.1) (fun r=>[.one (vi (xs.getD r.2.2 0))]):=by
 refine Dp A0 false Tryz.func101 rfl Az fun B b hH hp=>?_
 conv=>whnf
 refine Ak (Ai d i h xs.length hi Ac) hH hp rfl B1 rfl rfl (fun r hr=>go A0 false ?_)
 conv=>whnf
 (repeat refine An ?_)
 exact Bu A0 (r.1,r.2.1,r.2.2.toNat) ⟨hr.1,by have:=hr.2.2.2 Ac;show r.2.2.toNat<_;omega⟩ rfl rfl rfl rfl B1
def B43 (ins:List Ae):Prop:=ins.length≤5∧∀r∈ins,r.op=0∧r.stamp.turn=0∧(0≤r.stamp.epoch∧r.stamp.epoch≤3)∧(0≤r.key∧r.key≤11)∧(0≤r.val∧r.val≤39)
theorem A90 {xs:List Ae}{e k v:Int}(h:∀r∈xs,r.op=0∧r.stamp.turn=0∧(0≤r.stamp.epoch∧r.stamp.epoch≤3)∧(0≤r.key∧r.key≤11)∧(0≤r.val∧r.val≤39))(he:0≤e∧e≤3)(hk:0≤k∧k≤11)(hv:0≤v∧v≤39):
  ∀r∈xs++[(⟨0,⟨e,0⟩,k,v⟩:Ae)],r.op=0∧r.stamp.turn=0∧(0≤r.stamp.epoch∧r.stamp.epoch≤3)∧(0≤r.key∧r.key≤11)∧(0≤r.val∧r.val≤39):=fun r hr=>by
 rcases List.mem_append.1 hr with hr|hr
 ·exact h r hr
 rw [List.mem_singleton.1 hr]
 exact ⟨rfl,rfl,he,hk,hv⟩
structure JIn where
 k:Nat
 i:Int
 h:Int
 e:Int
 xs:List Ae
theorem Yx (d:E4)(i h:Int)(hi:0≤i∧i≤d.n):Dd Tryz.prog HT 81 d.pins (d.cur i h) [] (fun r:Int×Int×List Ae=>(0≤r.1∧r.1≤d.n)∧B43 r.2.2) (fun r=>d.cur r.1 r.2.1) (fun r=>[.one (Ag r.2.2)]):=by
 refine Dp A0 false Tryz.func81 rfl Az fun B b hH hp=>?_
 conv=>whnf
 refine Eo 1 (Ag []) rfl (Bq rfl Cg) ?_
 refine C0 A0 false [6] (fun j:JIn=>[(4,.c (vi j.e)),(5,.c (vi j.k))]) (fun j=>[⟨0,[.c (.val d.v),.c (vi j.i),.c (vi j.h)]⟩]) (fun j=>[⟨1,Ag j.xs⟩]) (fun j=>(0≤j.i∧j.i≤d.n)∧j.k≤5∧j.xs.length=j.k∧(0≤j.e∧j.e≤2)∧∀r∈j.xs,r.op=0∧r.stamp.turn=0∧(0≤r.stamp.epoch∧r.stamp.epoch≤3)∧(0≤r.key∧r.key≤11)∧(0≤r.val∧r.val≤39)) (fun j=>5-j.k) (⟨0,i,h,0,[]⟩) (⟨hi,Nat.zero_le _,rfl,⟨Int.le_refl _,(by decide:(0:Int)≤2)⟩,fun r hr=>(List.not_mem_nil hr).elim⟩) ⟨G3,G3,trivial⟩ Cg ⟨Ek,trivial⟩ Co A7 (fun j hj=>?_)
 conv=>whnf
 obtain ⟨hi,hk,hx,he,hA⟩:=hj
 refine Ak (Ai d j.i j.h 6 hi Az) hH hp rfl B1 rfl rfl (fun r hr=>go A0 false ?_)
 conv=>whnf
 refine F4 (fun hlt=>?_) fun hlt=>?_<;>conv=>whnf
 ·have hlt2:r.2.2<6:=hr.2.2.2 Ac
  refine Ak (Ai d r.1 r.2.1 2 hr.1 Az) hH hp rfl B1 rfl rfl (fun r2 hr2=>go A0 false ?_)
  conv=>whnf
  have hr2b:r2.2.2<2:=hr2.2.2.2 Ac
  (repeat refine An ?_)
  refine At (M5 (j.e+r2.2.2) 0 2) rfl (A8 ?_)
  have hB:=H8 (j.e+r2.2.2) 0 2 Az
  refine Ak (Ai d r2.1 r2.2.1 12 hr2.1 Az) hH hp rfl B1 rfl rfl (fun r3 hr3=>go A0 false ?_)
  conv=>whnf
  refine Ak (Ai d r3.1 r3.2.1 40 hr3.1 Az) hH hp rfl B1 rfl rfl (fun r4 hr4=>go A0 false ?_)
  conv=>whnf
  have hk3:=hr3.2.2.2 Ac
  have hv4:=hr4.2.2.2 Ac
  refine B6 A0 rfl rfl rfl rfl rfl rfl rfl rfl rfl rfl rfl (Ag (j.xs++[⟨0,⟨Dw (j.e+r2.2.2) 0 2,0⟩,r3.2.2,r4.2.2⟩])) (Ad rfl) Bp Ac (A8 ?_)
  (repeat refine An ?_)
  refine B8 [(1,3)] (⟨j.k+1,r4.1,r4.2.1,Dw (j.e+r2.2.2) 0 2,j.xs++[⟨0,⟨Dw (j.e+r2.2.2) 0 2,0⟩,r3.2.2,r4.2.2⟩]⟩) (⟨hr4.1,by show j.k+1≤5;omega,by simp [hx],hB,A90 hA ⟨hB.1,by omega⟩ ⟨hr3.2.1,by omega⟩ ⟨hr4.2.1,by omega⟩⟩) (by show 5-(j.k+1)<_;omega) ⟨rfl,rfl,trivial⟩ ⟨rfl,trivial⟩ Cg A7 Co A7
 exact Bu A0 (r.1,r.2.1,j.xs) ⟨hr.1,by show j.xs.length≤5;omega,hA⟩ rfl rfl rfl rfl B1
end Go.Proofs.YtdendlkeiaccpaaGreatDoor
