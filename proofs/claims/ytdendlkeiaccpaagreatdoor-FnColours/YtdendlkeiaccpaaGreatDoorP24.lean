/- Part 24 of the proof that each of the laws FnColours returns true for every input. No conditions. -/
import Derived.Test.YtdendlkeiaccpaaGreatDoorP23
import Derived.Test.YtdendlkeiaccpaaGreatDoorP22
import Derived.Test.YtdendlkeiaccpaaGreatDoorP17
import Derived.Test.YtdendlkeiaccpaaGreatDoorP11
import Derived.Test.YtdendlkeiaccpaaGreatDoorP12

set_option linter.unusedSimpArgs false
set_option linter.unusedVariables false
set_option maxRecDepth 100000
namespace Go.Proofs.YtdendlkeiaccpaaGreatDoor
open Go.Sx
theorem A2z {c:A3}(h:c.ok):Fi c:=fun w hw x hx=>(h.2.1.2 w hw).2.2.2.1.2 x hx
theorem B4m {c:A3}{p:C7}(h:c.ok)(hw:c.w+4≤100000000):(Aj c p).1.ok:=by
 by_cases hc:As c
 ·have h1:(Aj c p).1.w≤c.w+4 * 1:=Mc (c:=c) (l:=[p])
  exact B3n (A31 (p:=p) ⟨Wj (.inl hc),A2z h⟩) Ac
 rw [L5 hc]
 exact h
theorem B37 {c:A3}{l:List C7}(h:c.ok)(hw:c.w+4 * l.length≤100000000):(Bg c l).1.ok:=by
 have:∀(l:List C7) (s:A3×List Bool),s.1.ok→s.1.w+4 * l.length≤100000000→(l.foldl Dy s).1.ok:=by
  intro l
  induction l with
  |nil=>intro s hs _;exact hs
  |cons p l ih=>
   intro s hs hw
   simp only [List.length_cons] at hw
   have h1:(Aj s.1 p).1.w≤s.1.w+4 * 1:=Mc (c:=s.1) (l:=[p])
   exact ih (Dy s p) (B4m hs Ac) (by show (Aj s.1 p).1.w+_≤_;omega)
 exact this l (c,[]) h hw
theorem B2k (n:Nat):∀{c:A3},c.ok→c.w+176 * n≤90000000→(D7 n c).1.ok:=by
 induction n with
 |zero=>intro c h _;exact h
 |succ n ih=>
  intro c h hw
  have hl:=J8 c
  have h1:(Bt c).1.ok:=B37 h Ac
  have h2:(Bt c).1.w≤c.w+176 * 1:=B7g c 1
  unfold D7
  split
  ·exact h1
  exact ih h1 Ac
structure V7 (w:Aa):Prop where
 q:∀y∈w.queue,y.ok
 s:∀y∈w.staged,y.ok
 i:∀y∈w.inputs,y.ok
 c:∀y∈w.cells,y.ok
 n:∀y∈w.sums,Eu .i64 y
 d:∀y∈w.dones,y.ok
theorem B8c {w:Aa}(h:V7 w)(hw:w.w≤1000):w.ok:=by
 simp only [Aa.w] at hw
 refine ⟨⟨?_,h.q⟩,⟨?_,h.s⟩,⟨?_,h.i⟩,⟨?_,h.c⟩,⟨?_,h.n⟩,?_,?_,?_,h.d⟩<;>(simp only [maxLen];omega)
theorem B5s {ins:List Ae}(h:B43 ins):∀y∈ins,y.ok:=fun y hy=>by
 obtain ⟨h1,h2,h3,h4,h5⟩:=h.2 y hy
 simp only [Ae.ok,Ea.ok,Eu]
 omega
theorem B6j {xs:List Ae}(h:∀y∈xs,y.ok):V7 (Hz xs):=
 ⟨fun y hy=>(by cases hy),fun y hy=>(by cases hy),h,fun y hy=>(by cases hy),fun y hy=>(by rw [List.eq_of_mem_replicate hy];exact ⟨by decide,by decide⟩),fun y hy=>(by cases hy)⟩
theorem B3p {g:Aq}{w:Aa}(h:V7 w):V7 (D8 g w).1:=by
 unfold D8
 split
 ·rename_i hi
  refine ⟨fun y hy=>?_,h.s,fun y hy=>h.i y (List.mem_of_mem_drop hy),h.c,h.n,h.d⟩
  rcases List.mem_append.1 hy with hy|hy
  ·exact h.q y hy
  rw [List.mem_singleton.1 hy]
  exact h.i _ (Ay (d:=default) hi.2.2.2.2)
 exact h
theorem B3q {g:Aq}{w:Aa}(h:V7 w):V7 (F3 g w).1:=by
 unfold F3
 split
 ·refine ⟨fun y hy=>h.q y (List.mem_of_mem_drop hy),fun y hy=>Ni (Xp (g:=g) y hy).1,h.i,fun y hy=>?_,h.n,h.d⟩
  rcases Xo (show y∈(F0 g w.cells (w.queue.getD 0 default)).1 from hy) with hy|⟨hr,rfl⟩
  ·exact h.c y hy
  exact A2x hr
 exact h
theorem B6k {w:Aa}(h:V7 w):V7 (Ii w).1:=by
 unfold Ii
 split
 ·exact ⟨h.q,fun y hy=>h.s y (List.mem_of_mem_drop hy),h.i,h.c,h.n,h.d⟩
 exact h
theorem B7m {w:Aa}{q:List Ae}(h:V7 w)(hq:∀y∈q,y.ok):V7 ⟨q,w.staged,w.inputs,w.cells,w.sums,w.black,w.caps,w.dones⟩:=⟨hq,h.s,h.i,h.c,h.n,h.d⟩
theorem B9j {w:Aa}{q:List Ae}(h:V7 w)(hq:∀y∈q,y.ok):V7 ⟨w.queue,w.staged,q,w.cells,w.sums,w.black,w.caps,w.dones⟩:=⟨h.q,h.s,hq,h.c,h.n,h.d⟩
theorem B3o {w:Aa}{q:List Int}(h:V7 w)(hq:∀y∈q,Eu .i64 y):V7 ⟨w.queue,w.staged,w.inputs,w.cells,q,w.black,w.caps,w.dones⟩:=⟨h.q,h.s,h.i,h.c,hq,h.d⟩
theorem B7l {w:Aa}{q:List Dn}(h:V7 w)(hq:∀y∈q,y.ok):V7 ⟨w.queue,w.staged,w.inputs,w.cells,w.sums,w.black,w.caps,q⟩:=⟨h.q,h.s,h.i,h.c,h.n,hq⟩
theorem B9i {w:Aa}{q:List Bj}(h:V7 w)(hq:∀y∈q,y.ok):V7 ⟨w.queue,w.staged,w.inputs,q,w.sums,w.black,w.caps,w.dones⟩:=⟨h.q,h.s,h.i,hq,h.n,h.d⟩
theorem B7k {w:Aa}{q:List Bool}(h:V7 w):V7 ⟨w.queue,w.staged,w.inputs,w.cells,w.sums,q,w.caps,w.dones⟩:=⟨h.q,h.s,h.i,h.c,h.n,h.d⟩
theorem J9 {α:Type}{p:α→Prop}{xs:List α}{x:α}(h:∀y∈xs,p y)(hx:p x):∀y∈xs++[x],p y:=fun y hy=>by
 rcases List.mem_append.1 hy with hy|hy
 ·exact h y hy
 rw [List.mem_singleton.1 hy];exact hx
theorem Rh {α:Type}{p:α→Prop}{xs:List α}{x:α}{k:Nat}(h:∀y∈xs,p y)(hx:p x):∀y∈xs.set k x,p y:=fun y hy=>by
 rcases List.mem_or_eq_of_mem_set hy with hy|rfl
 ·exact h y hy
 exact hx
theorem A7a {α:Type}{p:α→Prop}{xs:List α}{k:Nat}(h:∀y∈xs,p y):∀y∈xs.take k,p y:=fun y hy=>h y (List.mem_of_mem_take hy)
structure OkL (l:Bz):Prop where
 c:Eu .i64 l.cap
 q:∀y∈l.queue,y.ok
 r:Eu .i64 l.credits
 b:Eu .i64 l.back
 s:Eu .i64 l.sent
 g:Eu .i64 l.got
theorem B8b {l:Bz}(h:OkL l)(hw:l.queue.length≤1000):l.ok:=⟨h.c,⟨by simp only [maxLen];omega,h.q⟩,h.r,h.b,h.s,h.g⟩
theorem B6i (n:Int):OkL (Gc n):=by
 have:=H8 n 1 4 Az
 refine ⟨?_,fun y hy=>(by cases hy),?_,?_,?_,?_⟩<;>(simp only [Eu,Gc];omega)
theorem B3m {l:Bz}(h:OkL l):OkL (Bw l).1:=by
 unfold Bw
 split
 ·rename_i hp
  obtain ⟨⟨h1,h2,h3,h4,h5,h6,h7⟩,hq⟩:=hp.1
  refine ⟨h.c,fun y hy=>h.q y (List.mem_of_mem_drop hy),h.r,?_,h.s,?_⟩<;>(simp only [Eu];omega)
 exact h
theorem B3k {l:Bz}(h:OkL l):OkL (Cr l).1:=by
 unfold Cr
 split
 ·rename_i hp
  obtain ⟨⟨h1,h2,h3,h4,h5,h6,h7⟩,hq⟩:=hp.1
  refine ⟨h.c,h.q,?_,?_,h.s,h.g⟩<;>(simp only [Eu];omega)
 exact h
theorem B3l {l:Bz}{r:Ae}(h:OkL l):OkL (Cs l r).1:=by
 unfold Cs
 split
 ·rename_i hp
  obtain ⟨⟨⟨h1,h2,h3,h4,h5,h6,h7⟩,hq⟩,hr,_,_⟩:=hp
  refine ⟨h.c,J9 h.q (Ni hr),?_,h.b,?_,h.g⟩<;>(simp only [Eu];omega)
 exact h
theorem A99 {c:A3}{j:Int}{w:Aa}(h:c.ok)(hw:w.ok):(B3 c j w).ok:=⟨h.1,⟨by show (c.workers.set _ _).length≤_;rw [List.length_set];exact h.2.1.1,Rh h.2.1.2 hw⟩,h.2.2⟩
theorem A98 {c:A3}{j:Int}{l:Bz}(h:c.ok)(hl:l.ok):(C2 c j l).ok:=⟨h.1,h.2.1,⟨by show (c.links.set _ _).length≤_;rw [List.length_set];exact h.2.2.1.1,Rh h.2.2.1.2 hl⟩,h.2.2.2⟩
theorem Zf {c:A3}{e:Int}{t:Cu}(h:c.ok)(ht:t.ok):(C9 c e t).ok:=⟨h.1,h.2.1,h.2.2.1,⟨by show (c.tokens.set _ _).length≤_;rw [List.length_set];exact h.2.2.2.1.1,Rh h.2.2.2.1.2 ht⟩,h.2.2.2.2⟩
theorem A4z {c:A3}{j:Nat}(h:c.ok)(hj:j<c.tokens.length):(c.tokens.getD j default).ok:=h.2.2.2.1.2 _ (Ay hj)
theorem Mt (x:Aa):x.queue.length≤x.w∧x.staged.length≤x.w∧x.inputs.length≤x.w∧x.cells.length≤x.w∧x.sums.length≤x.w∧x.black.length≤x.w∧x.caps.length≤x.w∧x.dones.length≤x.w:=by simp only [Aa.w];omega
theorem B4d (x:Aa)(r:Ae)(h:x.w≤1000000):Be Tryz.prog 209 [.agg x.c,.agg r.c] [.agg (kept x r).c]:=by
 have hw:=Mt x
 refine B5 A0 false Tryz.func209 rfl Az fun W=>?_
 conv=>whnf
 refine Cn (Hr x Ac) rfl (A8 ?_)
 refine B6 A0 rfl rfl rfl rfl rfl rfl rfl rfl rfl rfl rfl (Ag (x.queue++[r])) (Ad rfl) Bp Ac (A8 ?_)
 refine Ap A0 rfl rfl ?_
 exact B1
theorem Sb {w:Aa}{r:Ae}(h1:w.sums.length=4)(h2:w.black.length=4)(he:0≤r.stamp.epoch∧r.stamp.epoch≤3):E8 w r=Gy (El (kept w r) r.stamp.epoch (-1)) r.stamp.epoch:=by
 unfold E8
 rw [if_pos ⟨by omega,by omega,by omega⟩]
structure WD (k:Nat) (x:Aa):Prop where
 w:x.w≤20+3 * k
 s4:x.sums.length=4
 b4:x.black.length=4
 s:∀n∈x.sums,-(k:Int)≤n∧n≤k
 o:V7 x
set_option maxHeartbeats 1000000 in
theorem Ns (x:Aa)(r:Ae)(h:x.w≤1000000)(hS:∀n∈x.sums,-1000≤n∧n≤1000)(h1:x.sums.length=4)(h2:x.black.length=4)(he:0≤r.stamp.epoch∧r.stamp.epoch≤3):Be Tryz.prog 186 [.agg x.c,.agg r.c] [.agg (E8 x r).c]:=by
 have hw:=Mt x
 have hk:r.stamp.epoch.toNat<x.sums.length:=by omega
 have hk2:r.stamp.epoch.toNat<x.black.length:=by omega
 have hs: -1000≤(x.sums.getD r.stamp.epoch.toNat default)∧(x.sums.getD r.stamp.epoch.toNat default)≤1000:=hS _ (Ay hk)
 obtain ⟨s1,s2⟩:=hs
 have g1:(kept x r).sums.length=4:=h1
 have g2:(kept x r).black.length=4:=h2
 have g3:(kept x r).sums.getD r.stamp.epoch.toNat default=x.sums.getD r.stamp.epoch.toNat default:=rfl
 refine B5 A0 false Tryz.func186 rfl Az fun W=>?_
 conv=>whnf
 refine Cn (B4d x r Ac) rfl (A8 ?_)
 (repeat refine An ?_)
 refine At (Fc r.stamp.epoch 0 (x.sums.length-1)) rfl (A8 ?_)
 have hyes:Di r.stamp.epoch 0 (x.sums.length-1)=true:=Go.Sx.Ah.2 ⟨he.1,by omega⟩
 rw [hyes]
 repeat refine Bd ?_
 refine ⟨fun h7=>?_,fun h7=>absurd (of_decide_eq_false h7) Ac⟩
 conv=>whnf
 refine Fx rfl ?_
 refine Ao A0 false 0 rfl rfl rfl A7 rfl (A5 Bb) ?_
 refine Ao A0 false 2 rfl rfl rfl A7 rfl (A5 Bb) ?_
 refine Ao A0 false 3 rfl rfl rfl A7 rfl (A5 Bb) ?_
 refine Ao A0 false 5 rfl rfl rfl A7 rfl (A5 Bb) ?_
 refine A4 [1,4] A7 ⟨?_,?_,trivial⟩
 focus
  refine A8 ?_
  refine A6 (A4 [4] A7 ⟨A8 ?_,trivial⟩)
  refine A6 (A4 [6] A7 ⟨A8 ?_,trivial⟩)
  (repeat refine An ?_)
  refine A6 (A4 [7] A7 ⟨A8 ?_,trivial⟩)
  refine A6 ?_
  refine Ao A0 false 8 rfl rfl rfl A7 rfl (A5 Bb) ?_
  refine A4 [9] A7 ⟨A8 ?_,trivial⟩
  (repeat refine An ?_)
  refine A6 (A4 [10] A7 ⟨A8 ?_,trivial⟩)
  refine Am (j:=r.stamp.epoch) A0 rfl rfl rfl rfl rfl rfl rfl rfl (Au (x.sums.set r.stamp.epoch.toNat (x.sums.getD r.stamp.epoch.toNat default+ -1))) (C6 hk rfl) (A8 ?_)
  refine A6 (B2 A7 (A8 ?_))
 rotate_left 1
 focus
  refine A8 ?_
  refine A6 ?_
  refine A4 [1,6] A7 ⟨?_,?_,trivial⟩
  focus
   refine A8 ?_
   refine A6 (A4 [6] A7 ⟨A8 ?_,trivial⟩)
   (repeat refine An ?_)
   refine A6 (A4 [7] A7 ⟨A8 ?_,trivial⟩)
   refine A6 ?_
   refine Ao A0 false 8 rfl rfl rfl A7 rfl (A5 Bb) ?_
   refine A4 [9] A7 ⟨A8 ?_,trivial⟩
   (repeat refine An ?_)
   refine A6 (A4 [10] A7 ⟨A8 ?_,trivial⟩)
   refine Am (j:=r.stamp.epoch) A0 rfl rfl rfl rfl rfl rfl rfl rfl (Au (x.sums.set r.stamp.epoch.toNat (x.sums.getD r.stamp.epoch.toNat default+ -1))) (C6 hk rfl) (A8 ?_)
   refine A6 (B2 A7 (A8 ?_))
  rotate_left 1
  focus
   refine A8 ?_
   (repeat refine An ?_)
   refine A6 ?_
   refine A4 [1,7] A7 ⟨?_,?_,trivial⟩
   focus
    refine A8 ?_
    refine A6 (A4 [7] A7 ⟨A8 ?_,trivial⟩)
    refine A6 ?_
    refine Ao A0 false 8 rfl rfl rfl A7 rfl (A5 Bb) ?_
    refine A4 [9] A7 ⟨A8 ?_,trivial⟩
    (repeat refine An ?_)
    refine A6 (A4 [10] A7 ⟨A8 ?_,trivial⟩)
    refine Am (j:=r.stamp.epoch) A0 rfl rfl rfl rfl rfl rfl rfl rfl (Au (x.sums.set r.stamp.epoch.toNat (x.sums.getD r.stamp.epoch.toNat default+ -1))) (C6 hk rfl) (A8 ?_)
    refine A6 (B2 A7 (A8 ?_))
   rotate_left 1
   focus
    refine A8 ?_
    refine A6 ?_
    refine Ao A0 false 8 rfl rfl rfl A7 rfl (A5 Bb) ?_
    refine A4 [1] A7 ⟨A8 ?_,trivial⟩
    refine A6 (A4 [9] A7 ⟨A8 ?_,trivial⟩)
    (repeat refine An ?_)
    refine A6 (A4 [10] A7 ⟨A8 ?_,trivial⟩)
    refine Am (j:=r.stamp.epoch) A0 rfl rfl rfl rfl rfl rfl rfl rfl (Au (x.sums.set r.stamp.epoch.toNat (x.sums.getD r.stamp.epoch.toNat default+ -1))) (C6 hk rfl) (A8 ?_)
    refine A6 (B2 A7 (A8 ?_))
 all_goals
  (repeat refine An ?_)
  refine Am (j:=r.stamp.epoch) A0 rfl rfl rfl rfl rfl rfl rfl rfl (Dq (x.black.set r.stamp.epoch.toNat true)) (C6 hk2 rfl) (A8 ?_)
  rw [Sb h1 h2 he]
  refine Ap A0 rfl rfl ?_
  exact B1
theorem A18 {w:Aa}(h:¬ 0<w.staged.length):Ii w=(w,default,false):=if_neg h
theorem Ym {w:Aa}(h:0<w.staged.length):Ii w=(Dz w,w.staged.getD 0 default,true):=if_pos h
theorem A11 (x:Aa)(h:x.w≤1000000):Be Tryz.prog 188 [.agg x.c] [.agg (Ii x).1.c,.agg (Ii x).2.1.c,.one (vb (Ii x).2.2)]:=by
 have hw:=Mt x
 refine B5 A0 false Tryz.func188 rfl Az fun W=>?_
 conv=>whnf
 refine Cn (Hr x Ac) rfl (A8 ?_)
 refine ⟨fun h1=>have h1:=eq_of_beq h1;?_,fun h1=>have h1:=beq_eq_false_iff_ne.1 h1;?_⟩<;>conv=>whnf
 ·repeat refine Bd ?_
  rw [A18 Ac]
  refine Ap A0 rfl rfl ?_
  exact B1
 have h1:0<x.staged.length:=by omega
 repeat refine Bd ?_
 (repeat refine An ?_)
 refine A4s A0 rfl rfl rfl rfl rfl rfl rfl rfl (l:=1) rfl rfl (⟨by omega,by omega,by omega⟩) (Ag (x.staged.drop 1)) (Gt (k:=1) h1) (A8 ?_)
 refine B6 A0 rfl rfl rfl rfl rfl rfl rfl rfl rfl rfl rfl (Ag (x.staged.drop 1)) (C1) (fun _=>F7 _) (by (rw [List.length_drop];omega)) (A8 ?_)
 refine Ks rfl ?_
 refine G0 (s':=?_) 0 rfl A7 ?_ ?_
 rotate_left
 refine A8 ?_
 (repeat refine An ?_)
 exact Bh
 refine Jw [1,2] A7 ⟨?_,?_,trivial⟩
 focus
  refine A8 ?_
  (repeat refine An ?_)
  refine Kt ?_
  refine Jw [2] A7 ⟨?_,trivial⟩
  refine A8 ?_
  (repeat refine An ?_)
  refine Kt ?_
  refine Jw [3] A7 ⟨?_,trivial⟩
  refine A8 ?_
  (repeat refine An ?_)
  refine Kt ?_
  refine Ca A0 false 4 rfl rfl A7 rfl (A5 Bb) ?_
  refine Yz A7 (A8 ?_)
 rotate_left 1
 focus
  refine A8 ?_
  (repeat refine An ?_)
  refine Kt ?_
  refine G0 (s':=?_) 1 rfl A7 ?_ ?_
  rotate_left
  refine A8 ?_
  (repeat refine An ?_)
  exact Bh
  refine Jw [3] A7 ⟨?_,trivial⟩
  refine A8 ?_
  (repeat refine An ?_)
  refine Kt ?_
  refine Ca A0 false 4 rfl rfl A7 rfl (A5 Bb) ?_
  refine Yz A7 (A8 ?_)
 all_goals
  rw [Ym h1]
  refine Ap A0 rfl rfl ?_
  exact B1
theorem Mo {g:Aq}{w:Aa}(h:¬ M7 g w):D8 g w=(w,false):=if_neg h
theorem A56 {g:Aq}{w:Aa}(h:M7 g w):D8 g w=(J7 w,true):=if_pos h
set_option maxHeartbeats 1000000 in
theorem Yf (g:Aq)(x:Aa)(hg:g.w≤1000000)(h:x.w≤1000000):Be Tryz.prog 185 [.agg g.c,.agg x.c] [.agg (D8 g x).1.c,.one (vb (D8 g x).2)]:=by
 have hw:=Mt x
 refine B5 A0 false Tryz.func185 rfl Az fun W=>?_
 conv=>whnf
 refine Cn (Hr x Ac) rfl (A8 ?_)
 refine At (Iz g Ac) rfl (A8 ?_)
 refine ⟨fun h1=>?_,fun h1=>?_⟩<;>conv=>whnf
 ·have h1:Hi g=false:=by simpa using h1
  repeat refine Bd ?_
  rw [Mo (fun p=>absurd p.1 (of_decide_eq_false h1))]
  refine Ap A0 rfl rfl ?_
  exact B1
 have h1:Ft g:=of_decide_eq_true (show Hi g=true by simpa using h1)
 repeat refine Bd ?_
 refine At (Nt g x Ac Ac) rfl (A8 ?_)
 repeat refine Bd ?_
 refine ⟨fun h2=>?_,fun h2=>?_⟩<;>conv=>whnf
 ·have h2:Ij g.nodes.length x=false:=by simpa using h2
  repeat refine Bd ?_
  rw [Mo (fun p=>absurd p.2.1 (of_decide_eq_false h2))]
  refine Ap A0 rfl rfl ?_
  exact B1
 have h2:Cx g.nodes.length x:=of_decide_eq_true (show Ij g.nodes.length x=true by simpa using h2)
 repeat refine Bd ?_
 refine ⟨fun h3=>?_,fun h3=>?_⟩<;>conv=>whnf
 ·have h3:¬ x.staged.length=0:=by have:=of_decide_eq_true h3;omega
  repeat refine Bd ?_
  rw [Mo (fun p=>h3 p.2.2.1)]
  refine Ap A0 rfl rfl ?_
  exact B1
 have h3:x.staged.length=0:=by have:=of_decide_eq_false h3;omega
 repeat refine Bd ?_
 refine ⟨fun h4=>?_,fun h4=>?_⟩<;>conv=>whnf
 ·have h4:¬ x.queue.length=0:=by have:=of_decide_eq_true h4;omega
  repeat refine Bd ?_
  rw [Mo (fun p=>h4 p.2.2.2.1)]
  refine Ap A0 rfl rfl ?_
  exact B1
 have h4:x.queue.length=0:=by have:=of_decide_eq_false h4;omega
 repeat refine Bd ?_
 refine ⟨fun h5=>have h5:=eq_of_beq h5;?_,fun h5=>have h5:=beq_eq_false_iff_ne.1 h5;?_⟩<;>conv=>whnf
 ·repeat refine Bd ?_
  rw [Mo (fun p=>by have:=p.2.2.2.2;omega)]
  refine Ap A0 rfl rfl ?_
  exact B1
 have h5:0<x.inputs.length:=by omega
 repeat refine Bd ?_
 refine Fx rfl ?_
 refine Ao A0 false 0 rfl rfl rfl A7 rfl (A5 Bb) ?_
 refine Ao A0 false 2 rfl rfl rfl A7 rfl (A5 Bb) ?_
 refine A4 [1,3] A7 ⟨?_,?_,trivial⟩
 focus
  refine A8 ?_
  refine A6 (A4 [3] A7 ⟨A8 ?_,trivial⟩)
  refine A6 (A4 [4] A7 ⟨A8 ?_,trivial⟩)
  (repeat refine An ?_)
  refine A6 (A4 [5] A7 ⟨A8 ?_,trivial⟩)
  refine A6 (A4 [6] A7 ⟨A8 ?_,trivial⟩)
  refine A6 (A4 [7] A7 ⟨A8 ?_,trivial⟩)
  refine B6 A0 rfl rfl rfl rfl rfl rfl rfl rfl rfl rfl rfl (Ag (x.queue++[x.inputs.getD 0 default])) (Ad rfl) Bp Ac (A8 ?_)
  refine A6 ?_
  refine Ao A0 false 8 rfl rfl rfl A7 rfl (A5 Bb) ?_
  refine A4 [9] A7 ⟨A8 ?_,trivial⟩
  refine A6 (B2 A7 (A8 ?_))
 rotate_left 1
 focus
  refine A8 ?_
  refine A6 ?_
  refine A4 [1,4] A7 ⟨?_,?_,trivial⟩
  focus
   refine A8 ?_
   refine A6 (A4 [4] A7 ⟨A8 ?_,trivial⟩)
   (repeat refine An ?_)
   refine A6 (A4 [5] A7 ⟨A8 ?_,trivial⟩)
   refine A6 (A4 [6] A7 ⟨A8 ?_,trivial⟩)
   refine A6 (A4 [7] A7 ⟨A8 ?_,trivial⟩)
   refine B6 A0 rfl rfl rfl rfl rfl rfl rfl rfl rfl rfl rfl (Ag (x.queue++[x.inputs.getD 0 default])) (Ad rfl) Bp Ac (A8 ?_)
   refine A6 ?_
   refine Ao A0 false 8 rfl rfl rfl A7 rfl (A5 Bb) ?_
   refine A4 [9] A7 ⟨A8 ?_,trivial⟩
   refine A6 (B2 A7 (A8 ?_))
  rotate_left 1
  focus
   refine A8 ?_
   (repeat refine An ?_)
   refine A6 ?_
   refine A4 [1,5] A7 ⟨?_,?_,trivial⟩
   focus
    refine A8 ?_
    refine A6 (A4 [5] A7 ⟨A8 ?_,trivial⟩)
    refine A6 (A4 [6] A7 ⟨A8 ?_,trivial⟩)
    refine A6 (A4 [7] A7 ⟨A8 ?_,trivial⟩)
    refine B6 A0 rfl rfl rfl rfl rfl rfl rfl rfl rfl rfl rfl (Ag (x.queue++[x.inputs.getD 0 default])) (Ad rfl) Bp Ac (A8 ?_)
    refine A6 ?_
    refine Ao A0 false 8 rfl rfl rfl A7 rfl (A5 Bb) ?_
    refine A4 [9] A7 ⟨A8 ?_,trivial⟩
    refine A6 (B2 A7 (A8 ?_))
   rotate_left 1
   focus
    refine A8 ?_
    refine A6 ?_
    refine A4 [1,6] A7 ⟨?_,?_,trivial⟩
    focus
     refine A8 ?_
     refine A6 (A4 [6] A7 ⟨A8 ?_,trivial⟩)
     refine A6 (A4 [7] A7 ⟨A8 ?_,trivial⟩)
     refine B6 A0 rfl rfl rfl rfl rfl rfl rfl rfl rfl rfl rfl (Ag (x.queue++[x.inputs.getD 0 default])) (Ad rfl) Bp Ac (A8 ?_)
     refine A6 ?_
     refine Ao A0 false 8 rfl rfl rfl A7 rfl (A5 Bb) ?_
     refine A4 [9] A7 ⟨A8 ?_,trivial⟩
     refine A6 (B2 A7 (A8 ?_))
    rotate_left 1
    focus
     refine A8 ?_
     refine A6 (A4 [1] A7 ⟨A8 ?_,trivial⟩)
     refine A6 (A4 [7] A7 ⟨A8 ?_,trivial⟩)
     refine B6 A0 rfl rfl rfl rfl rfl rfl rfl rfl rfl rfl rfl (Ag (x.queue++[x.inputs.getD 0 default])) (Ad rfl) Bp Ac (A8 ?_)
     refine A6 ?_
     refine Ao A0 false 8 rfl rfl rfl A7 rfl (A5 Bb) ?_
     refine A4 [9] A7 ⟨A8 ?_,trivial⟩
     refine A6 (B2 A7 (A8 ?_))
 all_goals
  (repeat refine An ?_)
  refine A4s A0 rfl rfl rfl rfl rfl rfl rfl rfl (l:=1) rfl rfl (⟨by omega,by omega,by omega⟩) (Ag (x.inputs.drop 1)) (Gt (k:=1) h5) (A8 ?_)
  refine B6 A0 rfl rfl rfl rfl rfl rfl rfl rfl rfl rfl rfl (Ag (x.inputs.drop 1)) (C1) (fun _=>F7 _) (by (rw [List.length_drop];omega)) (A8 ?_)
  rw [A56 ⟨h1,h2,h3,h4,h5⟩]
  refine Ap A0 rfl rfl ?_
  exact B1
theorem Sn {g:Aq}{w:Aa}(h:¬ Oc g w):F3 g w=(w,false):=if_neg h
theorem A0c {g:Aq}{w:Aa}(h:Oc g w):F3 g w=(Hg g w,true):=if_pos h
set_option maxHeartbeats 1000000 in
theorem A6u (g:Aq)(x:Aa)(hg:g.w≤1000000)(h:x.w≤1000000):Be Tryz.prog 189 [.agg g.c,.agg x.c] [.agg (F3 g x).1.c,.one (vb (F3 g x).2)]:=by
 have hw:=Mt x
 refine B5 A0 false Tryz.func189 rfl Az fun W=>?_
 conv=>whnf
 refine Cn (Hr x Ac) rfl (A8 ?_)
 refine At (Iz g Ac) rfl (A8 ?_)
 refine ⟨fun h1=>?_,fun h1=>?_⟩<;>conv=>whnf
 ·have h1:Hi g=false:=by simpa using h1
  repeat refine Bd ?_
  rw [Sn (fun p=>absurd p.1 (of_decide_eq_false h1))]
  refine Ap A0 rfl rfl ?_
  exact B1
 have h1:Ft g:=of_decide_eq_true (show Hi g=true by simpa using h1)
 repeat refine Bd ?_
 refine At (Nt g x Ac Ac) rfl (A8 ?_)
 repeat refine Bd ?_
 refine ⟨fun h2=>?_,fun h2=>?_⟩<;>conv=>whnf
 ·have h2:Ij g.nodes.length x=false:=by simpa using h2
  repeat refine Bd ?_
  rw [Sn (fun p=>absurd p.2.1 (of_decide_eq_false h2))]
  refine Ap A0 rfl rfl ?_
  exact B1
 have h2:Cx g.nodes.length x:=of_decide_eq_true (show Ij g.nodes.length x=true by simpa using h2)
 repeat refine Bd ?_
 refine ⟨fun h3=>?_,fun h3=>?_⟩<;>conv=>whnf
 ·have h3:¬ x.staged.length=0:=by have:=of_decide_eq_true h3;omega
  repeat refine Bd ?_
  rw [Sn (fun p=>h3 p.2.2.1)]
  refine Ap A0 rfl rfl ?_
  exact B1
 have h3:x.staged.length=0:=by have:=of_decide_eq_false h3;omega
 repeat refine Bd ?_
 refine ⟨fun h4=>have h4:=eq_of_beq h4;?_,fun h4=>have h4:=beq_eq_false_iff_ne.1 h4;?_⟩<;>conv=>whnf
 ·repeat refine Bd ?_
  rw [Sn (fun p=>by have:=p.2.2.2;omega)]
  refine Ap A0 rfl rfl ?_
  exact B1
 have h4:0<x.queue.length:=by omega
 have hR:=h2.1.1 _ (Ay (d:=default) h4)
 have hE:=hR.1.2.1
 have hcl:x.caps.length=4:=h2.2.1.2.2
 have hc:(x.queue.getD 0 default).stamp.epoch.toNat<x.caps.length:=by have:=h2.2.1.2.2;omega
 repeat refine Bd ?_
 (repeat refine An ?_)
 refine Cn (Xn g x.cells (x.queue.getD 0 default) Ac Ac) rfl (A8 ?_)
 (repeat refine An ?_)
 refine A4s A0 rfl rfl rfl rfl rfl rfl rfl rfl (l:=1) rfl rfl (⟨by omega,by omega,by omega⟩) (Ag (x.queue.drop 1)) (Gt (k:=1) h4) (A8 ?_)
 refine B6 A0 rfl rfl rfl rfl rfl rfl rfl rfl rfl rfl rfl (Ag (x.queue.drop 1)) (C1) (fun _=>F7 _) (by (rw [List.length_drop];omega)) (A8 ?_)
 refine At (Xh g (x.queue.getD 0 default) Ac) rfl (A8 ?_)
 refine ⟨fun h5=>?_,fun h5=>?_⟩<;>conv=>whnf
 ·have h5:capped g (x.queue.getD 0 default)=true:=h5
  refine ⟨by (show 0≤(x.queue.getD 0 default).stamp.epoch∧(x.queue.getD 0 default).stamp.epoch<x.caps.length;omega),?_⟩
  conv=>whnf
  refine Am (j:=(x.queue.getD 0 default).stamp.epoch) A0 rfl rfl rfl rfl rfl rfl rfl rfl (Dq (x.caps.set (x.queue.getD 0 default).stamp.epoch.toNat true)) (C6 hc rfl) (A8 ?_)
  rw [A0c ⟨h1,h2,h3,h4⟩,Hg,if_pos h5]
  refine Ap A0 rfl rfl ?_
  exact B1
 have h5:capped g (x.queue.getD 0 default)=false:=h5
 rw [A0c ⟨h1,h2,h3,h4⟩,Hg,if_neg (by rw [h5];decide)]
 refine Ap A0 rfl rfl ?_
 exact B1
end Go.Proofs.YtdendlkeiaccpaaGreatDoor
