/- Part 21 of the proof that each of the laws FnTold returns true for every input. No conditions. -/
import Derived.Test.YtdendlkeiaccpaaGreatDoorP20
import Derived.Test.YtdendlkeiaccpaaGreatDoorP4
import Derived.Test.YtdendlkeiaccpaaGreatDoorP6
import Derived.Test.YtdendlkeiaccpaaGreatDoorP16

set_option linter.unusedSimpArgs false
set_option linter.unusedVariables false
set_option maxRecDepth 100000
namespace Go.Proofs.YtdendlkeiaccpaaGreatDoor
open Go.Sx
def Wz (x:Ag):Prop:=x.ok
def Ez (c:A5):Prop:=∀w∈c.workers,∀x∈w.cells,Wz x
theorem A28 {l:List Ag}{x y:Ag}(h:y∈(Jd l x).1):y∈l∨y=x:=by
 unfold Jd at h
 split at h
 ·exact .inl h
 rcases A5k.1 h with h|h
 ·exact .inl (List.mem_filter.1 h).1
 exact .inr h
theorem V8 {k:Int}{l:List Ag}{x y:Ag}(h:y∈(Dv k l x).1):y∈l∨y=x:=by
 unfold Dv at h
 split at h
 ·exact A28 h
 split at h
 ·split at h
  ·exact .inl h
  exact A5k.1 h
 exact .inl h
theorem Vt {g:Ap}{cs:List Ag}{r:Ae}{y:Ag}(h:y∈(F3 g cs r).1):y∈cs∨(Hs r∧y=G4 r):=by
 unfold F3 at h
 split at h
 ·rename_i hs
  split at h
  ·exact .inl h
  split at h
  ·rcases V8 h with h|h
   ·exact .inl h
   exact .inr ⟨hs.2.1,h⟩
  rcases V8 h with h|h
  ·exact .inl h
  exact .inr ⟨hs.2.1,h⟩
 exact .inl h
theorem M3 {r:Ae}(h:Hs r):r.ok:=by
 simp only [Hs] at h
 simp only [Ae.ok,Ec.ok,Ee]
 omega
theorem A0z {r:Ae}(h:Hs r):Wz (G4 r):=⟨(M3 h).1,(M3 h).2.1.1,(M3 h).2.2⟩
theorem Gd {c:A5}{j:Int}{w:A9}(h:Ez c)(hw:∀x∈w.cells,Wz x):Ez (Bb c j w):=fun v hv=>by
 rcases Hi hv with hv|rfl
 ·exact h v hv
 exact hw
theorem Gn {c:A5}{w:Int}(h:Ez c):∀x∈(Ad c w).cells,Wz x:=by
 unfold Ad
 by_cases hl:w.toNat<c.workers.length
 ·exact h _ (B8 hl)
 rw [show c.workers.getD w.toNat default=default by simp only [List.getD,List.getElem?_eq_none (Nat.le_of_not_lt hl),Option.getD_none]]
 intro x hx
 cases hx
theorem A00 {c:A5}{p:Cz}(h:Ez c):Ez (Ar c p).1:=by
 unfold Ar
 split
 ·unfold Eh
  split
  ·refine Gd h ?_
   unfold Fk
   split
   ·intro x hx
    rcases Vt (show x∈(F3 c.graph (Ad c p.a).cells ((Ad c p.a).queue.getD 0 default)).1 from hx) with hx|⟨hr,rfl⟩
    ·exact Gn h x hx
    exact A0z hr
   exact Gn h
  exact h
 split
 ·unfold Du
  split
  ·refine Gd h ?_
   unfold Dm
   split<;>exact Gn h
  exact h
 split
 ·unfold Cg
  split
  ·split
   ·exact Gd h (Gn h)
   split
   ·refine Gd (show Ez (Cd c _ _) from h) ?_
    unfold Hm
    split<;>exact Gn h
   exact h
  exact h
 split
 ·unfold Dh
  split
  ·refine Gd (show Ez (Cd c _ _) from h) ?_
   unfold En
   split<;>exact Gn h
  exact h
 split
 ·unfold Dr
  split<;>exact h
 split
 ·unfold Cu
  dsimp only
  split
  ·split
   ·exact Gd (show Ez (Da c _ _) from h) (Gn h)
   split
   ·split
    ·exact Gd (show Ez (Da c _ _) from h) (Gn h)
    exact h
   unfold It
   split
   ·exact Gd (show Ez (Da c _ _) from h) (Gn h)
   exact h
  exact h
 split
 ·unfold E8
  split
  ·split
   ·exact h
   exact Gd (show Ez (Ks c _) from h) (Gn h)
  exact h
 exact h
def A25 (c:A5):Prop:=B6 c∨∃(d:A5) (j:Int) (v:A9) (e k:Int),B6 d∧Cx d.graph.nodes.length v∧(k=1∨k= -1)∧c=Bb d j (Fe v e k)
theorem A1u {c:A5}{p:Cz}(h:A25 c):A25 (Ar c p).1:=by
 by_cases hc:B6 c
 ·by_cases hk:B4 (Ar c p).1=true
  ·exact .inl (of_decide_eq_true hk)
  rw [T0 hc] at hk
  split at hk
  ·rename_i h3
   split at hk
   ·rename_i hm
    obtain ⟨hm,hne⟩:=hm
    have e:(Ar c p).1=(Cg c p.a).1:=by
     unfold Ar
     rw [if_neg Ab,if_neg Ab,if_pos h3]
    rw [e]
    unfold Cg at hm ⊢
    split at hm
    ·rename_i hM
     split at hm
     ·rename_i hS
      rw [if_pos hM,if_neg hne,if_pos hS]
      have hv:=Pq (Mk hM.1.1 hM.1.2)
      exact .inr ⟨_,_,_,_,1,Uo hM.1 hM.2 hne,hv,.inl rfl,by rw [Sq hv (Qe hM.1 hM.2).1.2.1]⟩
     cases hm
    cases hm
   exact absurd rfl hk
  split at hk
  ·rename_i h3 h4
   split at hk
   ·rename_i hm
    have e:(Ar c p).1=(Dh c p.a p.b).1:=by
     unfold Ar
     rw [if_neg Ab,if_neg Ab,if_neg h3,if_pos h4]
    rw [e]
    unfold Dh at hm ⊢
    split at hm
    ·rename_i hT
     rw [if_pos hT]
     have hr:=A2v hT.1 hT.2
     have ht:0≤p.b∧p.b<c.workers.length:=⟨hT.1.2.2.2.1,by rw [hc.1.2.1];exact hT.1.2.2.2.2⟩
     have hv:=Z7 (Mk hc ht) hr
     have hw:=Mk hc ht
     refine .inr ⟨_,p.b,_,(Jf c p.a p.b).stamp.epoch,-1,Vw hT.1,(X6 (e:=(Jf c p.a p.b).stamp.epoch) (b:=true)).2 hv,.inr rfl,?_⟩
     show Bb _ p.b (En (Ad c p.b) (Jf c p.a p.b))=_
     rw [Sl hw hr.1.2.1]
     rfl
    cases hm
   exact absurd rfl hk
  exact absurd rfl hk
 rw [Le hc]
 exact h
theorem B2t {x:Ag}(h:Wz x):x.ok:=h
theorem B3v {x:Aq}(h:Jh x):x.ok:=by
 obtain ⟨hk,h2,h3,h4,h0,ho,_,_,hn⟩:=h
 have hab:(-1000≤x.a∧x.a≤1000)∧(-1000≤x.b∧x.b≤1000):=by
  by_cases k2:x.kind=2
  ·have:=h2 k2;omega
  by_cases k3:x.kind=3
  ·have:=h3 k3;omega
  by_cases k4:x.kind=4
  ·have:=h4 k4;omega
  have:=h0 k2 k3 k4;omega
 refine ⟨?_,?_,?_,by simp only [maxLen];omega,fun y hy=>?_⟩
 ·simp only [Ee];omega
 ·simp only [Ee];omega
 ·simp only [Ee];omega
 have:=hn y hy
 simp only [Ee];omega
theorem A3w {α:Type} [Inhabited α] {l:List α}{x:α}(h:x∈l):∃i,i<l.length∧l.getD i default=x:=by
 obtain ⟨i,hi,rfl⟩:=List.getElem_of_mem h
 exact ⟨i,hi,by simp only [List.getD,List.getElem?_eq_getElem hi,Option.getD_some]⟩
theorem A92 {g:Ap}(h:Fj g):g.ok:=by
 obtain ⟨h1,h2,h3,h4⟩:=h
 refine ⟨⟨by simp only [maxLen];omega,fun y hy=>?_⟩,?_,?_⟩
 ·obtain ⟨i,hi,rfl⟩:=A3w hy
  exact B3v (h4 i hi).1
 ·simp only [Ee];omega
 simp only [Ee];omega
theorem B3f {l:Bv}(h:G1 l):l.ok:=by
 obtain ⟨⟨h1,h2,h3,h4,h5,h6,h7⟩,hq⟩:=h
 refine ⟨?_,⟨by simp only [maxLen];omega,fun y hy=>M3 (hq y hy)⟩,?_,?_,?_,?_⟩<;>(simp only [Ee];omega)
def T6 (n:Nat) (w:A9):Prop:=Nu n w∧Ye w.dones∧∀k∈w.sums,-1000001≤k∧k≤1000001
theorem Ps {n:Nat}{w:A9}(h:Cx n w):T6 n w:=⟨h.1,h.2.2.2.2,fun k hk=>by
 have:=h.2.2.2.1 k hk
 simp only [I4] at this
 omega⟩
theorem A8g {n:Nat}{w:A9}(h:T6 n w)(hc:∀x∈w.cells,Wz x)(hw:w.w≤100000000):w.ok:=by
 obtain ⟨⟨hq,hs,hi,_⟩,hd,hn⟩:=h
 simp only [A9.w] at hw
 refine ⟨⟨?_,fun y hy=>M3 (hq y hy).1⟩,⟨?_,fun y hy=>M3 (hs y hy).1⟩,⟨?_,fun y hy=>M3 (hi y hy).1⟩,⟨?_,fun y hy=>B2t (hc y hy)⟩,⟨?_,fun y hy=>?_⟩,?_,?_,?_,fun y hy=>?_⟩
 any_goals (simp only [maxLen];omega)
 ·have:=hn y hy
  simp only [Ee];omega
 obtain ⟨i,hi,rfl⟩:=A3w hy
 have:=(hd i hi).1
 simp only [Ep.ok,Ee];omega
theorem B55 {α:Type}{w:α→Nat}{l:List α}{x:α}(h:x∈l):w x≤wS w l:=by
 rw [B2a]
 induction l with
 |nil=>cases h
 |cons y l ih=>
  simp only [List.map_cons,List.sum_cons,List.length_cons]
  rcases List.mem_cons.1 h with rfl|h
  ·omega
  have:=ih h;omega
theorem A3b {c:A5}(hg:Fj c.graph)(hw:∀w∈c.workers,T6 c.graph.nodes.length w)(hl:∀i,i<c.links.length→G1 (c.links.getD i default))(ht:∀t∈c.tokens,My c.graph.workers t)
  (hn:∀x∈c.news,Ml c.graph.workers x)(hb:Ez c)(hs:c.w≤100000000):c.ok:=by
 have hgw:=hg.2.1
 simp only [A5.w] at hs
 have h1:=B2a A9.w c.workers
 have h2:=B2a Bv.w c.links
 refine ⟨A92 hg,⟨?_,fun y hy=>A8g (hw y hy) (hb y hy) ?_⟩,⟨?_,fun y hy=>?_⟩,⟨?_,fun y hy=>?_⟩,⟨?_,fun y hy=>?_⟩⟩
 ·simp only [maxLen];omega
 ·have:=B55 (w:=A9.w) hy
  omega
 ·simp only [maxLen];omega
 ·obtain ⟨i,hi,rfl⟩:=A3w hy
  exact B3f (hl i hi)
 ·simp only [maxLen];omega
 ·have:=ht y hy
  simp only [My] at this
  simp only [D0.ok,Ee];omega
 ·simp only [maxLen];omega
 have:=hn y hy
 simp only [Ml] at this
 simp only [Fy.ok,Ee];omega
def OkQ (c:A5):Prop:=Fj c.graph∧(∀w∈c.workers,T6 c.graph.nodes.length w)∧(∀i,i<c.links.length→G1 (c.links.getD i default))∧(∀t∈c.tokens,My c.graph.workers t)∧(∀x∈c.news,Ml c.graph.workers x)
theorem B00 {c:A5}(h:OkQ c∧Ez c)(hs:c.w≤100000000):c.ok:=A3b h.1.1 h.1.2.1 h.1.2.2.1 h.1.2.2.2.1 h.1.2.2.2.2 h.2 hs
theorem Up {c:A5}(h:A25 c):OkQ c:=by
 rcases h with h|⟨d,j,v,e,k,hd,hv,hk,rfl⟩
 ·obtain ⟨hh,hw,hl,ht,hn⟩:=h
  exact ⟨hh.1,fun w hw'=>Ps (hw w hw'),fun i hi=>(hl i hi).1,ht,hn⟩
 obtain ⟨hh,hw,hl,ht,hn⟩:=hd
 refine ⟨hh.1,fun w hw'=>?_,fun i hi=>(hl i hi).1,ht,hn⟩
 rcases Hi hw' with hw'|rfl
 ·exact Ps (hw w hw')
 have hq:=Ps hv
 refine ⟨hq.1,hq.2.1,fun n hn=>?_⟩
 rcases Hi hn with hn|rfl
 ·exact hq.2.2 n hn
 by_cases hl:e.toNat<v.sums.length
 ·have:=hv.2.2.2.1 _ (B8 (d:=default) hl)
  simp only [I4] at this
  omega
 rw [show v.sums.getD e.toNat default=0 by simp only [List.getD,List.getElem?_eq_none (Nat.le_of_not_lt hl),Option.getD_none];rfl]
 omega
theorem A1x {c:A5}{p:Cz}(h:OkQ c∧Ez c):OkQ (Ar c p).1∧Ez (Ar c p).1:=by
 refine ⟨?_,A00 h.2⟩
 by_cases hc:B6 c
 ·exact Up (A1u (.inl hc))
 rw [Le hc]
 exact h.1
theorem A2h {c:A5}{l:List Cz}(h:OkQ c∧Ez c):OkQ (Bi c l).1∧Ez (Bi c l).1:=by
 have:∀(l:List Cz) (s:A5×List Bool),OkQ s.1∧Ez s.1→OkQ (l.foldl Fw s).1∧Ez (l.foldl Fw s).1:=by
  intro l
  induction l with
  |nil=>intro s hs;exact hs
  |cons p l ih=>intro s hs;exact ih (Fw s p) (A1x hs)
 exact this l (c,[]) h
theorem A9s (n:Nat):∀{c:A5},OkQ c∧Ez c→OkQ (Dt n c).1∧Ez (Dt n c).1:=by
 induction n with
 |zero=>intro c h;exact h
 |succ n ih=>
  intro c h
  have h1:OkQ (Ck c).1∧Ez (Ck c).1:=A2h h
  unfold Dt
  split
  ·exact h1
  exact ih h1
theorem A33 {n:Int}{l:List Ae}{w:Nat}{r:Ae}(h:r∈A32 n l w):r∈l:=by
 simp only [A32,List.mem_flatMap,List.mem_filter] at h
 obtain ⟨e,_,h,_⟩:=h
 simp only [H9,List.mem_filter] at h
 exact h.1
theorem B3r {g:Ap}{l:List Ae}(h:(Cc g l).2=true):OkQ (Cc g l).1∧Ez (Cc g l).1:=by
 have hN:W3 g l:=by
  by_cases hN:W3 g l
  ·exact hN
  rw [Pg hN] at h
  cases h
 rw [Jl hN]
 obtain ⟨hg,hl,hr⟩:=hN
 have hg1:=hg.1
 have hg2:=hg.2.1
 have hw:∀w∈Eg g.workers l g.workers.toNat,(w.queue=[]∧w.staged=[]∧w.cells=[]∧w.dones=[]∧w.sums=List.replicate 4 0)∧∀r∈w.inputs,r∈l:=by
  intro w hw
  simp only [Eg,List.mem_map] at hw
  obtain ⟨i,_,rfl⟩:=hw
  exact ⟨⟨rfl,rfl,rfl,rfl,rfl⟩,fun r hr=>A33 hr⟩
 refine ⟨⟨hg,fun w hw'=>?_,fun i hi=>?_,fun t ht=>?_,fun x hx=>?_⟩,fun w hw' x hx=>?_⟩
 ·obtain ⟨⟨e1,e2,e3,e4,e5⟩,hi⟩:=hw w hw'
  refine ⟨⟨?_,?_,fun r hr'=>?_,?_⟩,?_,fun k hk=>?_⟩
  ·rw [e1];intro r hr;cases hr
  ·rw [e2];intro r hr;cases hr
  ·have:=hr r (hi r hr')
   refine ⟨this.1,?_⟩
   show r.op<(g.nodes.length:Int)
   omega
  ·rw [e3];intro i hi;exact absurd hi (Nat.not_lt_zero i)
  ·rw [e4];intro i hi;exact absurd hi (Nat.not_lt_zero i)
  rw [e5] at hk
  have:=List.eq_of_mem_replicate hk
  omega
 ·have hm:=B8 (d:=default) hi
  rw [List.eq_of_mem_replicate hm]
  have hb:=Gm g.cap 1 4 Aw
  refine ⟨⟨?_,?_,?_,?_,?_,?_,?_⟩,fun r hr=>by cases hr⟩<;>simp only [Gw,List.length_nil]<;>omega
 ·rw [List.eq_of_mem_replicate ht]
  have e:My g.workers default↔(0≤(0:Int)∧(0:Int)≤g.workers-1)∧(false=false→(0:Int)=0)∧(-1000000≤(0:Int)∧(0:Int)≤1000000):=Iff.rfl
  exact e.2 ⟨by omega,fun _=>rfl,by omega⟩
 ·cases hx
 rw [(hw w hw').1.2.2.1] at hx
 cases hx
structure Dx where
 a:Option Addr
 n:Nat
 c:Nat
 b:Nat→Nat
 hb:∀i,b i≤255
 hn:n≤16777216
abbrev Dx.v (d:Dx):Value:= .slice d.a d.n d.c
abbrev Dx.cell (d:Dx):Ac:= .sl d.n 1 fun i=>[.val (.int .u8 (d.b i))]
abbrev Dx.pins (d:Dx):List (Ac×Value):=[(d.cell,d.v)]
abbrev Dx.cur (d:Dx) (i h:Int):List Ac:=[.val d.v,vi i,vi h]
abbrev HT:World→Prop:=fun _=>True
theorem Q6 (d:Dx)(i h:Int)(hi:0≤i∧i≤d.n):Cw Tryz.prog HT 83 d.pins (d.cur i h) [] (fun r:Int×Int×Int=>(0≤r.1∧r.1≤d.n)∧0≤r.2.2∧r.2.2≤255) (fun r=>d.cur r.1 r.2.1) (fun r=>[.one (vi r.2.2)]):=by
 have hn:=d.hn
 refine Dn A0 true Tryz.func83 rfl Aw fun B b hH hp=>?_
 conv=>whnf
 first|(refine B7 2 rfl [0,1,2,3,4,5,6,7,8,9,10,11,12] A7 (go A0 true ?_);conv=>whnf)|(refine B7 3 rfl [0,1,2,3,4,5,6,7,8,9] A7 (go A0 true ?_);conv=>whnf)|(refine B7 4 rfl [0,1,2,3,4,5,6,7,8,9,10,11,12,13,14] A7 (go A0 true ?_);conv=>whnf)
 refine B64 rfl rfl rfl rfl Aw (fun r=>go A0 true ?_)
 conv=>whnf
 refine B64 rfl rfl rfl rfl Aw (fun r2=>go A0 true ?_)
 conv=>whnf
 refine B7q rfl rfl rfl rfl (fun r3=>go A0 true ?_)
 conv=>whnf
 refine B47 rfl rfl rfl rfl Aw Aw (fun x0 h0 h1=>go A0 true ?_)
 conv=>whnf
 first|(refine B7 2 rfl [0,1,2,3,4,5,6,7,8,9,10,11,12] A7 (go A0 true ?_);conv=>whnf)|(refine B7 3 rfl [0,1,2,3,4,5,6,7,8,9] A7 (go A0 true ?_);conv=>whnf)|(refine B7 4 rfl [0,1,2,3,4,5,6,7,8,9,10,11,12,13,14] A7 (go A0 true ?_);conv=>whnf)
 refine Fi (fun hlt=>?_) fun hlt=>?_<;>conv=>whnf
 ·first|(refine B7 2 rfl [0,1,2,3,4,5,6,7,8,9,10,11,12] A7 (go A0 true ?_);conv=>whnf)|(refine B7 3 rfl [0,1,2,3,4,5,6,7,8,9] A7 (go A0 true ?_);conv=>whnf)|(refine B7 4 rfl [0,1,2,3,4,5,6,7,8,9,10,11,12,13,14] A7 (go A0 true ?_);conv=>whnf)
  refine B6l A0 hp 0 rfl rfl rfl rfl rfl rfl rfl rfl rfl (⟨hi.1,hlt⟩) (go A0 true ?_)
  conv=>whnf
  refine B47 rfl rfl rfl rfl Aw Aw (fun x1 g0 g1=>go A0 true ?_)
  conv=>whnf
  exact Bl A0 (i+1,_,x1) ⟨⟨by omega,by show i+1≤_;omega⟩,g0,g1⟩ rfl rfl rfl rfl ⟨⟨Uv _ _,by show Ac.val _=_;rw [show IntKind.i64.wrap (i+1)=i+1 by rw [IntKind.wrap_i64];omega],rfl,trivial⟩,rfl,trivial⟩
 exact Bl A0 (i,_,x0) ⟨hi,h0,h1⟩ rfl rfl rfl rfl Ay
theorem B4s {i:Int}(h: -9223372036854775808≤i∧i≤9223372036854775807):IntKind.i64.wrap i=i:=by rw [IntKind.wrap_i64];omega
theorem Yr (d:Dx):Yg Tryz.prog 41 d.pins [.one (.val d.v)] (fun _:Int=>True) (fun h=>d.cur 0 h):=by
 have hn:=d.hn
 refine A9n A0 true Tryz.func41 rfl Aw fun W hp=>?_
 conv=>whnf
 refine C0 A0 true [] (fun j:Nat×Int=>[(3,.c (vi j.2)),(4,.c (vi j.1))]) (fun j=>[]) (fun j=>[]) (fun j=>(j.1:Int)≤d.n) (fun j=>d.n-j.1) ((0,_)) (Int.natCast_nonneg _) ⟨G9,G9,trivial⟩ trivial trivial Cr A7 (fun j hj=>?_)
 conv=>whnf
 refine Fi (fun h=>?_) fun h=>?_<;>conv=>whnf
 ·refine Of B2m ?_
  conv=>whnf
  refine Of B2m ?_
  conv=>whnf
  refine Fi (fun h2=>?_) fun h2=>?_<;>conv=>whnf
  ·refine B6l A0 hp 0 rfl rfl rfl rfl rfl rfl rfl rfl rfl (⟨by omega,h⟩) (go A0 true ?_)
   conv=>whnf
   refine B47 rfl rfl rfl rfl Aw Aw (fun r r0 r1=>go A0 true ?_)
   conv=>whnf
   refine B9 [] ((j.1+1,r)) ((by show ((j.1+1:Nat):Int)≤_;omega)) (by show d.n-(j.1+1)<_;omega) ⟨rfl,(by show AV.c (vi _)=AV.c (vi _);rw [B4s Ab];rfl),trivial⟩ trivial trivial A7 Cr A7
  exact B5w A0 j.2 trivial rfl rfl rfl Ay
 repeat' (first|(refine L6 ?_;conv=>whnf)|(refine L7 ?_;conv=>whnf)|(refine ⟨fun h=>?_,fun h=>?_⟩<;>conv=>whnf)|(refine Ft ?_;conv=>whnf)|fail)
 exact B5w A0 j.2 trivial rfl rfl rfl Ay
theorem Ai (d:Dx)(i h n:Int)(hi:0≤i∧i≤d.n)(hn:n≤1099511627776):Cw Tryz.prog HT 43 d.pins (d.cur i h) [.one (vi n)] (fun r:Int×Int×Int=>(0≤r.1∧r.1≤d.n)∧0≤r.2.2∧(n≤0→r.2.2=0)∧(0<n→r.2.2<n)) (fun r=>d.cur r.1 r.2.1) (fun r=>[.one (vi r.2.2)]):=by
 have hdn:=d.hn
 refine Dn A0 false Tryz.func43 rfl Aw fun B b hH hp=>?_
 conv=>whnf
 refine Fi (fun h0=>?_) fun h0=>?_<;>conv=>whnf
 ·exact Bl A0 (i,h,0) ⟨hi,Int.le_refl _,fun _=>rfl,fun h=>by omega⟩ rfl rfl rfl rfl Ay
 refine Fi (fun h1=>?_) fun h1=>?_<;>conv=>whnf
 ·refine Aj (Q6 d i h hi) hH hp rfl Ay rfl rfl (fun r hr=>go A0 false ?_)
  conv=>whnf
  (repeat refine An ?_)
  exact Bl A0 (r.1,r.2.1,r.2.2.tmod n) ⟨hr.1,Int.tmod_nonneg _ hr.2.1,fun h=>by omega,fun h=>Int.tmod_lt_of_pos _ h⟩ rfl rfl rfl rfl Ay
 refine Aj (Q6 d i h hi) hH hp rfl Ay rfl rfl (fun r hr=>go A0 false ?_)
 conv=>whnf
 refine Aj (Q6 d r.1 r.2.1 hr.1) hH hp rfl Ay rfl rfl (fun r2 hr2=>go A0 false ?_)
 conv=>whnf
 refine Aj (Q6 d r2.1 r2.2.1 hr2.1) hH hp rfl Ay rfl rfl (fun r3 hr3=>go A0 false ?_)
 conv=>whnf
 refine Aj (Q6 d r3.1 r3.2.1 hr3.1) hH hp rfl Ay rfl rfl (fun r4 hr4=>go A0 false ?_)
 conv=>whnf
 (repeat refine An ?_)
 exact Bl A0 (r4.1,r4.2.1,(r.2.2 * 16777216+r2.2.2 * 65536+r3.2.2 * 256+r4.2.2).tmod n) ⟨hr4.1,Int.tmod_nonneg _ Ab,fun h=>by omega,fun h=>Int.tmod_lt_of_pos _ h⟩ rfl rfl rfl rfl Ay
theorem Q7 (d:Dx)(i h n:Int)(hi:0≤i∧i≤d.n)(hn:n≤1099511627776):Cw Tryz.prog HT 48 d.pins (d.cur i h) [.one (vi n)] (fun r:Int×Int×Bool=>0≤r.1∧r.1≤d.n) (fun r=>d.cur r.1 r.2.1) (fun r=>[.one (vb r.2.2)]):=by
 refine Dn A0 false Tryz.func48 rfl Aw fun B b hH hp=>?_
 conv=>whnf
 refine Aj (Ai d i h n hi hn) hH hp rfl Ay rfl rfl (fun r hr=>go A0 false ?_)
 conv=>whnf
 exact Bl A0 (r.1,r.2.1,_) hr.1 rfl rfl rfl rfl Ay
theorem Cn (d:Dx)(i h:Int)(xs:List Int)(hi:0≤i∧i≤d.n)(hx:0<xs.length∧xs.length≤16777216):Cw Tryz.prog HT 101 d.pins (d.cur i h) [.one (At xs)] (fun r:Int×Int×Nat=>(0≤r.1∧r.1≤d.n)∧r.2.2<xs.length) (fun r=>d.cur r.1 r.2.1) (fun r=>[.one (vi (xs.getD r.2.2 0))]):=by
 refine Dn A0 false Tryz.func101 rfl Aw fun B b hH hp=>?_
 conv=>whnf
 refine Aj (Ai d i h xs.length hi Ab) hH hp rfl Ay rfl rfl (fun r hr=>go A0 false ?_)
 conv=>whnf
 (repeat refine An ?_)
 exact Bl A0 (r.1,r.2.1,r.2.2.toNat) ⟨hr.1,by have:=hr.2.2.2 Ab;show r.2.2.toNat<_;omega⟩ rfl rfl rfl rfl Ay
def B2h (ins:List Ae):Prop:=ins.length≤5∧∀r∈ins,r.op=0∧r.stamp.turn=0∧(0≤r.stamp.epoch∧r.stamp.epoch≤3)∧(0≤r.key∧r.key≤11)∧(0≤r.val∧r.val≤39)
theorem A7d {xs:List Ae}{e k v:Int}(h:∀r∈xs,r.op=0∧r.stamp.turn=0∧(0≤r.stamp.epoch∧r.stamp.epoch≤3)∧(0≤r.key∧r.key≤11)∧(0≤r.val∧r.val≤39))(he:0≤e∧e≤3)(hk:0≤k∧k≤11)(hv:0≤v∧v≤39):
  ∀r∈xs++[(⟨0,⟨e,0⟩,k,v⟩:Ae)],r.op=0∧r.stamp.turn=0∧(0≤r.stamp.epoch∧r.stamp.epoch≤3)∧(0≤r.key∧r.key≤11)∧(0≤r.val∧r.val≤39):=fun r hr=>by
 rcases List.mem_append.1 hr with hr|hr
 ·exact h r hr
 rw [List.mem_singleton.1 hr]
 exact ⟨rfl,rfl,he,hk,hv⟩
structure JIn where
 k:Nat
 i:Int
 h:Int
 e:Int
 xs:List Ae
theorem X9 (d:Dx)(i h:Int)(hi:0≤i∧i≤d.n):Cw Tryz.prog HT 81 d.pins (d.cur i h) [] (fun r:Int×Int×List Ae=>(0≤r.1∧r.1≤d.n)∧B2h r.2.2) (fun r=>d.cur r.1 r.2.1) (fun r=>[.one (Ah r.2.2)]):=by
 refine Dn A0 false Tryz.func81 rfl Aw fun B b hH hp=>?_
 conv=>whnf
 refine Ed 1 (Ah []) rfl (Bd rfl Cf) ?_
 refine C0 A0 false [6] (fun j:JIn=>[(4,.c (vi j.e)),(5,.c (vi j.k))]) (fun j=>[⟨0,[.c (.val d.v),.c (vi j.i),.c (vi j.h)]⟩]) (fun j=>[⟨1,Ah j.xs⟩]) (fun j=>(0≤j.i∧j.i≤d.n)∧j.k≤5∧j.xs.length=j.k∧(0≤j.e∧j.e≤2)∧∀r∈j.xs,r.op=0∧r.stamp.turn=0∧(0≤r.stamp.epoch∧r.stamp.epoch≤3)∧(0≤r.key∧r.key≤11)∧(0≤r.val∧r.val≤39)) (fun j=>5-j.k) (⟨0,i,h,0,[]⟩) (⟨hi,Nat.zero_le _,rfl,⟨Int.le_refl _,(by decide:(0:Int)≤2)⟩,fun r hr=>(List.not_mem_nil hr).elim⟩) ⟨G9,G9,trivial⟩ Cf ⟨Eu,trivial⟩ Cr A7 (fun j hj=>?_)
 conv=>whnf
 obtain ⟨hi,hk,hx,he,hA⟩:=hj
 refine Aj (Ai d j.i j.h 6 hi Aw) hH hp rfl Ay rfl rfl (fun r hr=>go A0 false ?_)
 conv=>whnf
 refine Fi (fun hlt=>?_) fun hlt=>?_<;>conv=>whnf
 ·have hlt2:r.2.2<6:=hr.2.2.2 Ab
  refine Aj (Ai d r.1 r.2.1 2 hr.1 Aw) hH hp rfl Ay rfl rfl (fun r2 hr2=>go A0 false ?_)
  conv=>whnf
  have hr2b:r2.2.2<2:=hr2.2.2.2 Ab
  (repeat refine An ?_)
  refine B5 (Ku (j.e+r2.2.2) 0 2) rfl (A8 ?_)
  have hB:=Gm (j.e+r2.2.2) 0 2 Aw
  refine Aj (Ai d r2.1 r2.2.1 12 hr2.1 Aw) hH hp rfl Ay rfl rfl (fun r3 hr3=>go A0 false ?_)
  conv=>whnf
  refine Aj (Ai d r3.1 r3.2.1 40 hr3.1 Aw) hH hp rfl Ay rfl rfl (fun r4 hr4=>go A0 false ?_)
  conv=>whnf
  have hk3:=hr3.2.2.2 Ab
  have hv4:=hr4.2.2.2 Ab
  refine B1 A0 rfl rfl rfl rfl rfl rfl rfl rfl rfl rfl rfl (Ah (j.xs++[⟨0,⟨Em (j.e+r2.2.2) 0 2,0⟩,r3.2.2,r4.2.2⟩])) (Aa rfl) Bg Ab (A8 ?_)
  (repeat refine An ?_)
  refine B9 [(1,3)] (⟨j.k+1,r4.1,r4.2.1,Em (j.e+r2.2.2) 0 2,j.xs++[⟨0,⟨Em (j.e+r2.2.2) 0 2,0⟩,r3.2.2,r4.2.2⟩]⟩) (⟨hr4.1,by show j.k+1≤5;omega,by simp [hx],hB,A7d hA ⟨hB.1,by omega⟩ ⟨hr3.2.1,by omega⟩ ⟨hr4.2.1,by omega⟩⟩) (by show 5-(j.k+1)<_;omega) ⟨rfl,rfl,trivial⟩ ⟨rfl,trivial⟩ Cf A7 Cr A7
 exact Bl A0 (r.1,r.2.1,j.xs) ⟨hr.1,by show j.xs.length≤5;omega,hA⟩ rfl rfl rfl rfl Ay
end Go.Proofs.YtdendlkeiaccpaaGreatDoor
