/- Part 22 of the proof that each of the laws FnTold returns true for every input. No conditions. -/
import Derived.Test.YtdendlkeiaccpaaGreatDoorP21
import Derived.Test.YtdendlkeiaccpaaGreatDoorP20
import Derived.Test.YtdendlkeiaccpaaGreatDoorP16
import Derived.Test.YtdendlkeiaccpaaGreatDoorP9

set_option linter.unusedSimpArgs false
set_option linter.unusedVariables false
set_option maxRecDepth 100000
namespace Go.Proofs.YtdendlkeiaccpaaGreatDoor
open Go.Sx
theorem A01 {c:A5}(h:c.ok):Ez c:=fun w hw x hx=>(h.2.1.2 w hw).2.2.2.1.2 x hx
theorem B11 {c:A5}{p:Cz}(h:c.ok)(hw:c.w+4≤100000000):(Ar c p).1.ok:=by
 by_cases hc:B6 c
 ·have h1:(Ar c p).1.w≤c.w+4 * 1:=Pm (c:=c) (l:=[p])
  exact B00 (A1x (p:=p) ⟨Up (.inl hc),A01 h⟩) Ab
 rw [Le hc]
 exact h
theorem B1j {c:A5}{l:List Cz}(h:c.ok)(hw:c.w+4 * l.length≤100000000):(Bi c l).1.ok:=by
 have:∀(l:List Cz) (s:A5×List Bool),s.1.ok→s.1.w+4 * l.length≤100000000→(l.foldl Fw s).1.ok:=by
  intro l
  induction l with
  |nil=>intro s hs _;exact hs
  |cons p l ih=>
   intro s hs hw
   simp only [List.length_cons] at hw
   have h1:(Ar s.1 p).1.w≤s.1.w+4 * 1:=Pm (c:=s.1) (l:=[p])
   exact ih (Fw s p) (B11 hs Ab) (by show (Ar s.1 p).1.w+_≤_;omega)
 exact this l (c,[]) h hw
theorem A9r (n:Nat):∀{c:A5},c.ok→c.w+176 * n≤90000000→(Dt n c).1.ok:=by
 induction n with
 |zero=>intro c h _;exact h
 |succ n ih=>
  intro c h hw
  have hl:=Pz c
  have h1:(Ck c).1.ok:=B1j h Ab
  have h2:(Ck c).1.w≤c.w+176 * 1:=B4x c 1
  unfold Dt
  split
  ·exact h1
  exact ih h1 Ab
structure Tl (w:A9):Prop where
 q:∀y∈w.queue,y.ok
 s:∀y∈w.staged,y.ok
 i:∀y∈w.inputs,y.ok
 c:∀y∈w.cells,y.ok
 n:∀y∈w.sums,Ee .i64 y
 d:∀y∈w.dones,y.ok
theorem B5s {w:A9}(h:Tl w)(hw:w.w≤1000):w.ok:=by
 simp only [A9.w] at hw
 refine ⟨⟨?_,h.q⟩,⟨?_,h.s⟩,⟨?_,h.i⟩,⟨?_,h.c⟩,⟨?_,h.n⟩,?_,?_,?_,h.d⟩<;>(simp only [maxLen];omega)
theorem B28 {ins:List Ae}(h:B2h ins):∀y∈ins,y.ok:=fun y hy=>by
 obtain ⟨h1,h2,h3,h4,h5⟩:=h.2 y hy
 simp only [Ae.ok,Ec.ok,Ee]
 omega
theorem B3y {xs:List Ae}(h:∀y∈xs,y.ok):Tl (Hc xs):=
 ⟨fun y hy=>(by cases hy),fun y hy=>(by cases hy),h,fun y hy=>(by cases hy),fun y hy=>(by rw [List.eq_of_mem_replicate hy];exact ⟨by decide,by decide⟩),fun y hy=>(by cases hy)⟩
theorem B02 {g:Ap}{w:A9}(h:Tl w):Tl (Dm g w).1:=by
 unfold Dm
 split
 ·rename_i hi
  refine ⟨fun y hy=>?_,h.s,fun y hy=>h.i y (List.mem_of_mem_drop hy),h.c,h.n,h.d⟩
  rcases List.mem_append.1 hy with hy|hy
  ·exact h.q y hy
  rw [List.mem_singleton.1 hy]
  exact h.i _ (B8 (d:=default) hi.2.2.2.2)
 exact h
theorem B03 {g:Ap}{w:A9}(h:Tl w):Tl (Fk g w).1:=by
 unfold Fk
 split
 ·refine ⟨fun y hy=>h.q y (List.mem_of_mem_drop hy),fun y hy=>M3 (Vu (g:=g) y hy).1,h.i,fun y hy=>?_,h.n,h.d⟩
  rcases Vt (show y∈(F3 g w.cells (w.queue.getD 0 default)).1 from hy) with hy|⟨hr,rfl⟩
  ·exact h.c y hy
  exact A0z hr
 exact h
theorem B3z {w:A9}(h:Tl w):Tl (Hp w).1:=by
 unfold Hp
 split
 ·exact ⟨h.q,fun y hy=>h.s y (List.mem_of_mem_drop hy),h.i,h.c,h.n,h.d⟩
 exact h
theorem B41 {w:A9}{q:List Ae}(h:Tl w)(hq:∀y∈q,y.ok):Tl ⟨q,w.staged,w.inputs,w.cells,w.sums,w.black,w.caps,w.dones⟩:=⟨hq,h.s,h.i,h.c,h.n,h.d⟩
theorem B6x {w:A9}{q:List Ae}(h:Tl w)(hq:∀y∈q,y.ok):Tl ⟨w.queue,w.staged,q,w.cells,w.sums,w.black,w.caps,w.dones⟩:=⟨h.q,h.s,hq,h.c,h.n,h.d⟩
theorem B01 {w:A9}{q:List Int}(h:Tl w)(hq:∀y∈q,Ee .i64 y):Tl ⟨w.queue,w.staged,w.inputs,w.cells,q,w.black,w.caps,w.dones⟩:=⟨h.q,h.s,h.i,h.c,hq,h.d⟩
theorem B40 {w:A9}{q:List Ep}(h:Tl w)(hq:∀y∈q,y.ok):Tl ⟨w.queue,w.staged,w.inputs,w.cells,w.sums,w.black,w.caps,q⟩:=⟨h.q,h.s,h.i,h.c,h.n,hq⟩
theorem B6w {w:A9}{q:List Ag}(h:Tl w)(hq:∀y∈q,y.ok):Tl ⟨w.queue,w.staged,w.inputs,q,w.sums,w.black,w.caps,w.dones⟩:=⟨h.q,h.s,h.i,hq,h.n,h.d⟩
theorem B4z {w:A9}{q:List Bool}(h:Tl w):Tl ⟨w.queue,w.staged,w.inputs,w.cells,w.sums,q,w.caps,w.dones⟩:=⟨h.q,h.s,h.i,h.c,h.n,h.d⟩
theorem I6 {α:Type}{p:α→Prop}{xs:List α}{x:α}(h:∀y∈xs,p y)(hx:p x):∀y∈xs++[x],p y:=fun y hy=>by
 rcases List.mem_append.1 hy with hy|hy
 ·exact h y hy
 rw [List.mem_singleton.1 hy];exact hx
theorem Q0 {α:Type}{p:α→Prop}{xs:List α}{x:α}{k:Nat}(h:∀y∈xs,p y)(hx:p x):∀y∈xs.set k x,p y:=fun y hy=>by
 rcases List.mem_or_eq_of_mem_set hy with hy|rfl
 ·exact h y hy
 exact hx
theorem A40 {α:Type}{p:α→Prop}{xs:List α}{k:Nat}(h:∀y∈xs,p y):∀y∈xs.take k,p y:=fun y hy=>h y (List.mem_of_mem_take hy)
structure OkL (l:Bv):Prop where
 c:Ee .i64 l.cap
 q:∀y∈l.queue,y.ok
 r:Ee .i64 l.credits
 b:Ee .i64 l.back
 s:Ee .i64 l.sent
 g:Ee .i64 l.got
theorem B5r {l:Bv}(h:OkL l)(hw:l.queue.length≤1000):l.ok:=⟨h.c,⟨by simp only [maxLen];omega,h.q⟩,h.r,h.b,h.s,h.g⟩
theorem B3x (n:Int):OkL (Gw n):=by
 have:=Gm n 1 4 Aw
 refine ⟨?_,fun y hy=>(by cases hy),?_,?_,?_,?_⟩<;>(simp only [Ee,Gw];omega)
theorem B0z {l:Bv}(h:OkL l):OkL (C1 l).1:=by
 unfold C1
 split
 ·rename_i hp
  obtain ⟨⟨h1,h2,h3,h4,h5,h6,h7⟩,hq⟩:=hp.1
  refine ⟨h.c,fun y hy=>h.q y (List.mem_of_mem_drop hy),h.r,?_,h.s,?_⟩<;>(simp only [Ee];omega)
 exact h
theorem B0x {l:Bv}(h:OkL l):OkL (D6 l).1:=by
 unfold D6
 split
 ·rename_i hp
  obtain ⟨⟨h1,h2,h3,h4,h5,h6,h7⟩,hq⟩:=hp.1
  refine ⟨h.c,h.q,?_,?_,h.s,h.g⟩<;>(simp only [Ee];omega)
 exact h
theorem B0y {l:Bv}{r:Ae}(h:OkL l):OkL (Co l r).1:=by
 unfold Co
 split
 ·rename_i hp
  obtain ⟨⟨⟨h1,h2,h3,h4,h5,h6,h7⟩,hq⟩,hr,_,_⟩:=hp
  refine ⟨h.c,I6 h.q (M3 hr),?_,h.b,?_,h.g⟩<;>(simp only [Ee];omega)
 exact h
theorem A7r {c:A5}{j:Int}{w:A9}(h:c.ok)(hw:w.ok):(Bb c j w).ok:=⟨h.1,⟨by show (c.workers.set _ _).length≤_;rw [List.length_set];exact h.2.1.1,Q0 h.2.1.2 hw⟩,h.2.2⟩
theorem A7q {c:A5}{j:Int}{l:Bv}(h:c.ok)(hl:l.ok):(Cd c j l).ok:=⟨h.1,h.2.1,⟨by show (c.links.set _ _).length≤_;rw [List.length_set];exact h.2.2.1.1,Q0 h.2.2.1.2 hl⟩,h.2.2.2⟩
theorem Xu {c:A5}{e:Int}{t:D0}(h:c.ok)(ht:t.ok):(Da c e t).ok:=⟨h.1,h.2.1,h.2.2.1,⟨by show (c.tokens.set _ _).length≤_;rw [List.length_set];exact h.2.2.2.1.1,Q0 h.2.2.2.1.2 ht⟩,h.2.2.2.2⟩
theorem A2x {c:A5}{j:Nat}(h:c.ok)(hj:j<c.tokens.length):(c.tokens.getD j default).ok:=h.2.2.2.1.2 _ (B8 hj)
theorem Lh (x:A9):x.queue.length≤x.w∧x.staged.length≤x.w∧x.inputs.length≤x.w∧x.cells.length≤x.w∧x.sums.length≤x.w∧x.black.length≤x.w∧x.caps.length≤x.w∧x.dones.length≤x.w:=by simp only [A9.w];omega
theorem B1s (x:A9)(r:Ae)(h:x.w≤1000000):Bo Tryz.prog 209 [.agg x.c,.agg r.c] [.agg (kept x r).c]:=by
 have hw:=Lh x
 refine Bh A0 false Tryz.func209 rfl Aw fun W=>?_
 conv=>whnf
 refine Cq (H4 x Ab) rfl (A8 ?_)
 refine B1 A0 rfl rfl rfl rfl rfl rfl rfl rfl rfl rfl rfl (Ah (x.queue++[r])) (Aa rfl) Bg Ab (A8 ?_)
 refine B3 A0 rfl rfl ?_
 exact Ay
theorem Qt {w:A9}{r:Ae}(h1:w.sums.length=4)(h2:w.black.length=4)(he:0≤r.stamp.epoch∧r.stamp.epoch≤3):En w r=I8 (Fe (kept w r) r.stamp.epoch (-1)) r.stamp.epoch:=by
 unfold En
 rw [if_pos ⟨by omega,by omega,by omega⟩]
structure WD (k:Nat) (x:A9):Prop where
 w:x.w≤20+3 * k
 s4:x.sums.length=4
 b4:x.black.length=4
 s:∀n∈x.sums,-(k:Int)≤n∧n≤k
 o:Tl x
set_option maxHeartbeats 1000000 in
theorem Mg (x:A9)(r:Ae)(h:x.w≤1000000)(hS:∀n∈x.sums,-1000≤n∧n≤1000)(h1:x.sums.length=4)(h2:x.black.length=4)(he:0≤r.stamp.epoch∧r.stamp.epoch≤3):Bo Tryz.prog 186 [.agg x.c,.agg r.c] [.agg (En x r).c]:=by
 have hw:=Lh x
 have hk:r.stamp.epoch.toNat<x.sums.length:=by omega
 have hk2:r.stamp.epoch.toNat<x.black.length:=by omega
 have hs: -1000≤(x.sums.getD r.stamp.epoch.toNat default)∧(x.sums.getD r.stamp.epoch.toNat default)≤1000:=hS _ (B8 hk)
 obtain ⟨s1,s2⟩:=hs
 have g1:(kept x r).sums.length=4:=h1
 have g2:(kept x r).black.length=4:=h2
 have g3:(kept x r).sums.getD r.stamp.epoch.toNat default=x.sums.getD r.stamp.epoch.toNat default:=rfl
 refine Bh A0 false Tryz.func186 rfl Aw fun W=>?_
 conv=>whnf
 refine Cq (B1s x r Ab) rfl (A8 ?_)
 (repeat refine An ?_)
 refine B5 (Fh r.stamp.epoch 0 (x.sums.length-1)) rfl (A8 ?_)
 have hyes:Do r.stamp.epoch 0 (x.sums.length-1)=true:=Go.Sx.As.2 ⟨he.1,by omega⟩
 rw [hyes]
 repeat refine Bj ?_
 refine ⟨fun h7=>?_,fun h7=>absurd (of_decide_eq_false h7) Ab⟩
 conv=>whnf
 refine Fq rfl ?_
 refine Am A0 false 0 rfl rfl rfl A7 rfl (A4 B2) ?_
 refine Am A0 false 2 rfl rfl rfl A7 rfl (A4 B2) ?_
 refine Am A0 false 3 rfl rfl rfl A7 rfl (A4 B2) ?_
 refine Am A0 false 5 rfl rfl rfl A7 rfl (A4 B2) ?_
 refine A3 [1,4] A7 ⟨?_,?_,trivial⟩
 focus
  refine A8 ?_
  refine A6 (A3 [4] A7 ⟨A8 ?_,trivial⟩)
  refine A6 (A3 [6] A7 ⟨A8 ?_,trivial⟩)
  (repeat refine An ?_)
  refine A6 (A3 [7] A7 ⟨A8 ?_,trivial⟩)
  refine A6 ?_
  refine Am A0 false 8 rfl rfl rfl A7 rfl (A4 B2) ?_
  refine A3 [9] A7 ⟨A8 ?_,trivial⟩
  (repeat refine An ?_)
  refine A6 (A3 [10] A7 ⟨A8 ?_,trivial⟩)
  refine Ao (j:=r.stamp.epoch) A0 rfl rfl rfl rfl rfl rfl rfl rfl (At (x.sums.set r.stamp.epoch.toNat (x.sums.getD r.stamp.epoch.toNat default+ -1))) (Cb hk rfl) (A8 ?_)
  refine A6 (Au A7 (A8 ?_))
 rotate_left 1
 focus
  refine A8 ?_
  refine A6 ?_
  refine A3 [1,6] A7 ⟨?_,?_,trivial⟩
  focus
   refine A8 ?_
   refine A6 (A3 [6] A7 ⟨A8 ?_,trivial⟩)
   (repeat refine An ?_)
   refine A6 (A3 [7] A7 ⟨A8 ?_,trivial⟩)
   refine A6 ?_
   refine Am A0 false 8 rfl rfl rfl A7 rfl (A4 B2) ?_
   refine A3 [9] A7 ⟨A8 ?_,trivial⟩
   (repeat refine An ?_)
   refine A6 (A3 [10] A7 ⟨A8 ?_,trivial⟩)
   refine Ao (j:=r.stamp.epoch) A0 rfl rfl rfl rfl rfl rfl rfl rfl (At (x.sums.set r.stamp.epoch.toNat (x.sums.getD r.stamp.epoch.toNat default+ -1))) (Cb hk rfl) (A8 ?_)
   refine A6 (Au A7 (A8 ?_))
  rotate_left 1
  focus
   refine A8 ?_
   (repeat refine An ?_)
   refine A6 ?_
   refine A3 [1,7] A7 ⟨?_,?_,trivial⟩
   focus
    refine A8 ?_
    refine A6 (A3 [7] A7 ⟨A8 ?_,trivial⟩)
    refine A6 ?_
    refine Am A0 false 8 rfl rfl rfl A7 rfl (A4 B2) ?_
    refine A3 [9] A7 ⟨A8 ?_,trivial⟩
    (repeat refine An ?_)
    refine A6 (A3 [10] A7 ⟨A8 ?_,trivial⟩)
    refine Ao (j:=r.stamp.epoch) A0 rfl rfl rfl rfl rfl rfl rfl rfl (At (x.sums.set r.stamp.epoch.toNat (x.sums.getD r.stamp.epoch.toNat default+ -1))) (Cb hk rfl) (A8 ?_)
    refine A6 (Au A7 (A8 ?_))
   rotate_left 1
   focus
    refine A8 ?_
    refine A6 ?_
    refine Am A0 false 8 rfl rfl rfl A7 rfl (A4 B2) ?_
    refine A3 [1] A7 ⟨A8 ?_,trivial⟩
    refine A6 (A3 [9] A7 ⟨A8 ?_,trivial⟩)
    (repeat refine An ?_)
    refine A6 (A3 [10] A7 ⟨A8 ?_,trivial⟩)
    refine Ao (j:=r.stamp.epoch) A0 rfl rfl rfl rfl rfl rfl rfl rfl (At (x.sums.set r.stamp.epoch.toNat (x.sums.getD r.stamp.epoch.toNat default+ -1))) (Cb hk rfl) (A8 ?_)
    refine A6 (Au A7 (A8 ?_))
 all_goals
  (repeat refine An ?_)
  refine Ao (j:=r.stamp.epoch) A0 rfl rfl rfl rfl rfl rfl rfl rfl (Ek (x.black.set r.stamp.epoch.toNat true)) (Cb hk2 rfl) (A8 ?_)
  rw [Qt h1 h2 he]
  refine B3 A0 rfl rfl ?_
  exact Ay
theorem A0f {w:A9}(h:¬ 0<w.staged.length):Hp w=(w,default,false):=if_neg h
theorem Wu {w:A9}(h:0<w.staged.length):Hp w=(Ei w,w.staged.getD 0 default,true):=if_pos h
theorem Zx (x:A9)(h:x.w≤1000000):Bo Tryz.prog 188 [.agg x.c] [.agg (Hp x).1.c,.agg (Hp x).2.1.c,.one (vb (Hp x).2.2)]:=by
 have hw:=Lh x
 refine Bh A0 false Tryz.func188 rfl Aw fun W=>?_
 conv=>whnf
 refine Cq (H4 x Ab) rfl (A8 ?_)
 refine ⟨fun h1=>have h1:=eq_of_beq h1;?_,fun h1=>have h1:=beq_eq_false_iff_ne.1 h1;?_⟩<;>conv=>whnf
 ·repeat refine Bj ?_
  rw [A0f Ab]
  refine B3 A0 rfl rfl ?_
  exact Ay
 have h1:0<x.staged.length:=by omega
 repeat refine Bj ?_
 (repeat refine An ?_)
 refine A2q A0 rfl rfl rfl rfl rfl rfl rfl rfl (l:=1) rfl rfl (⟨by omega,by omega,by omega⟩) (Ah (x.staged.drop 1)) (G8 (k:=1) h1) (A8 ?_)
 refine B1 A0 rfl rfl rfl rfl rfl rfl rfl rfl rfl rfl rfl (Ah (x.staged.drop 1)) (Ci) (fun _=>F8 _) (by (rw [List.length_drop];omega)) (A8 ?_)
 refine J8 rfl ?_
 refine Ej (s':=?_) 0 rfl A7 ?_ ?_
 rotate_left
 refine A8 ?_
 (repeat refine An ?_)
 exact Bf
 refine Gv [1,2] A7 ⟨?_,?_,trivial⟩
 focus
  refine A8 ?_
  (repeat refine An ?_)
  refine He ?_
  refine Gv [2] A7 ⟨?_,trivial⟩
  refine A8 ?_
  (repeat refine An ?_)
  refine He ?_
  refine Gv [3] A7 ⟨?_,trivial⟩
  refine A8 ?_
  (repeat refine An ?_)
  refine He ?_
  refine Bu A0 false 4 rfl rfl A7 rfl (A4 B2) ?_
  refine S5 A7 (A8 ?_)
 rotate_left 1
 focus
  refine A8 ?_
  (repeat refine An ?_)
  refine He ?_
  refine Ej (s':=?_) 1 rfl A7 ?_ ?_
  rotate_left
  refine A8 ?_
  (repeat refine An ?_)
  exact Bf
  refine Gv [3] A7 ⟨?_,trivial⟩
  refine A8 ?_
  (repeat refine An ?_)
  refine He ?_
  refine Bu A0 false 4 rfl rfl A7 rfl (A4 B2) ?_
  refine S5 A7 (A8 ?_)
 all_goals
  rw [Wu h1]
  refine B3 A0 rfl rfl ?_
  exact Ay
theorem La {g:Ap}{w:A9}(h:¬ Kv g w):Dm g w=(w,false):=if_neg h
theorem A3t {g:Ap}{w:A9}(h:Kv g w):Dm g w=(J3 w,true):=if_pos h
set_option maxHeartbeats 1000000 in
theorem Wp (g:Ap)(x:A9)(hg:g.w≤1000000)(h:x.w≤1000000):Bo Tryz.prog 185 [.agg g.c,.agg x.c] [.agg (Dm g x).1.c,.one (vb (Dm g x).2)]:=by
 have hw:=Lh x
 refine Bh A0 false Tryz.func185 rfl Aw fun W=>?_
 conv=>whnf
 refine Cq (H4 x Ab) rfl (A8 ?_)
 refine B5 (I0 g Ab) rfl (A8 ?_)
 refine ⟨fun h1=>?_,fun h1=>?_⟩<;>conv=>whnf
 ·have h1:Ib g=false:=by simpa using h1
  repeat refine Bj ?_
  rw [La (fun p=>absurd p.1 (of_decide_eq_false h1))]
  refine B3 A0 rfl rfl ?_
  exact Ay
 have h1:Fj g:=of_decide_eq_true (show Ib g=true by simpa using h1)
 repeat refine Bj ?_
 refine B5 (Mh g x Ab Ab) rfl (A8 ?_)
 repeat refine Bj ?_
 refine ⟨fun h2=>?_,fun h2=>?_⟩<;>conv=>whnf
 ·have h2:Ka g.nodes.length x=false:=by simpa using h2
  repeat refine Bj ?_
  rw [La (fun p=>absurd p.2.1 (of_decide_eq_false h2))]
  refine B3 A0 rfl rfl ?_
  exact Ay
 have h2:Cx g.nodes.length x:=of_decide_eq_true (show Ka g.nodes.length x=true by simpa using h2)
 repeat refine Bj ?_
 refine ⟨fun h3=>?_,fun h3=>?_⟩<;>conv=>whnf
 ·have h3:¬ x.staged.length=0:=by have:=of_decide_eq_true h3;omega
  repeat refine Bj ?_
  rw [La (fun p=>h3 p.2.2.1)]
  refine B3 A0 rfl rfl ?_
  exact Ay
 have h3:x.staged.length=0:=by have:=of_decide_eq_false h3;omega
 repeat refine Bj ?_
 refine ⟨fun h4=>?_,fun h4=>?_⟩<;>conv=>whnf
 ·have h4:¬ x.queue.length=0:=by have:=of_decide_eq_true h4;omega
  repeat refine Bj ?_
  rw [La (fun p=>h4 p.2.2.2.1)]
  refine B3 A0 rfl rfl ?_
  exact Ay
 have h4:x.queue.length=0:=by have:=of_decide_eq_false h4;omega
 repeat refine Bj ?_
 refine ⟨fun h5=>have h5:=eq_of_beq h5;?_,fun h5=>have h5:=beq_eq_false_iff_ne.1 h5;?_⟩<;>conv=>whnf
 ·repeat refine Bj ?_
  rw [La (fun p=>by have:=p.2.2.2.2;omega)]
  refine B3 A0 rfl rfl ?_
  exact Ay
 have h5:0<x.inputs.length:=by omega
 repeat refine Bj ?_
 refine Fq rfl ?_
 refine Am A0 false 0 rfl rfl rfl A7 rfl (A4 B2) ?_
 refine Am A0 false 2 rfl rfl rfl A7 rfl (A4 B2) ?_
 refine A3 [1,3] A7 ⟨?_,?_,trivial⟩
 focus
  refine A8 ?_
  refine A6 (A3 [3] A7 ⟨A8 ?_,trivial⟩)
  refine A6 (A3 [4] A7 ⟨A8 ?_,trivial⟩)
  (repeat refine An ?_)
  refine A6 (A3 [5] A7 ⟨A8 ?_,trivial⟩)
  refine A6 (A3 [6] A7 ⟨A8 ?_,trivial⟩)
  refine A6 (A3 [7] A7 ⟨A8 ?_,trivial⟩)
  refine B1 A0 rfl rfl rfl rfl rfl rfl rfl rfl rfl rfl rfl (Ah (x.queue++[x.inputs.getD 0 default])) (Aa rfl) Bg Ab (A8 ?_)
  refine A6 ?_
  refine Am A0 false 8 rfl rfl rfl A7 rfl (A4 B2) ?_
  refine A3 [9] A7 ⟨A8 ?_,trivial⟩
  refine A6 (Au A7 (A8 ?_))
 rotate_left 1
 focus
  refine A8 ?_
  refine A6 ?_
  refine A3 [1,4] A7 ⟨?_,?_,trivial⟩
  focus
   refine A8 ?_
   refine A6 (A3 [4] A7 ⟨A8 ?_,trivial⟩)
   (repeat refine An ?_)
   refine A6 (A3 [5] A7 ⟨A8 ?_,trivial⟩)
   refine A6 (A3 [6] A7 ⟨A8 ?_,trivial⟩)
   refine A6 (A3 [7] A7 ⟨A8 ?_,trivial⟩)
   refine B1 A0 rfl rfl rfl rfl rfl rfl rfl rfl rfl rfl rfl (Ah (x.queue++[x.inputs.getD 0 default])) (Aa rfl) Bg Ab (A8 ?_)
   refine A6 ?_
   refine Am A0 false 8 rfl rfl rfl A7 rfl (A4 B2) ?_
   refine A3 [9] A7 ⟨A8 ?_,trivial⟩
   refine A6 (Au A7 (A8 ?_))
  rotate_left 1
  focus
   refine A8 ?_
   (repeat refine An ?_)
   refine A6 ?_
   refine A3 [1,5] A7 ⟨?_,?_,trivial⟩
   focus
    refine A8 ?_
    refine A6 (A3 [5] A7 ⟨A8 ?_,trivial⟩)
    refine A6 (A3 [6] A7 ⟨A8 ?_,trivial⟩)
    refine A6 (A3 [7] A7 ⟨A8 ?_,trivial⟩)
    refine B1 A0 rfl rfl rfl rfl rfl rfl rfl rfl rfl rfl rfl (Ah (x.queue++[x.inputs.getD 0 default])) (Aa rfl) Bg Ab (A8 ?_)
    refine A6 ?_
    refine Am A0 false 8 rfl rfl rfl A7 rfl (A4 B2) ?_
    refine A3 [9] A7 ⟨A8 ?_,trivial⟩
    refine A6 (Au A7 (A8 ?_))
   rotate_left 1
   focus
    refine A8 ?_
    refine A6 ?_
    refine A3 [1,6] A7 ⟨?_,?_,trivial⟩
    focus
     refine A8 ?_
     refine A6 (A3 [6] A7 ⟨A8 ?_,trivial⟩)
     refine A6 (A3 [7] A7 ⟨A8 ?_,trivial⟩)
     refine B1 A0 rfl rfl rfl rfl rfl rfl rfl rfl rfl rfl rfl (Ah (x.queue++[x.inputs.getD 0 default])) (Aa rfl) Bg Ab (A8 ?_)
     refine A6 ?_
     refine Am A0 false 8 rfl rfl rfl A7 rfl (A4 B2) ?_
     refine A3 [9] A7 ⟨A8 ?_,trivial⟩
     refine A6 (Au A7 (A8 ?_))
    rotate_left 1
    focus
     refine A8 ?_
     refine A6 (A3 [1] A7 ⟨A8 ?_,trivial⟩)
     refine A6 (A3 [7] A7 ⟨A8 ?_,trivial⟩)
     refine B1 A0 rfl rfl rfl rfl rfl rfl rfl rfl rfl rfl rfl (Ah (x.queue++[x.inputs.getD 0 default])) (Aa rfl) Bg Ab (A8 ?_)
     refine A6 ?_
     refine Am A0 false 8 rfl rfl rfl A7 rfl (A4 B2) ?_
     refine A3 [9] A7 ⟨A8 ?_,trivial⟩
     refine A6 (Au A7 (A8 ?_))
 all_goals
  (repeat refine An ?_)
  refine A2q A0 rfl rfl rfl rfl rfl rfl rfl rfl (l:=1) rfl rfl (⟨by omega,by omega,by omega⟩) (Ah (x.inputs.drop 1)) (G8 (k:=1) h5) (A8 ?_)
  refine B1 A0 rfl rfl rfl rfl rfl rfl rfl rfl rfl rfl rfl (Ah (x.inputs.drop 1)) (Ci) (fun _=>F8 _) (by (rw [List.length_drop];omega)) (A8 ?_)
  rw [A3t ⟨h1,h2,h3,h4,h5⟩]
  refine B3 A0 rfl rfl ?_
  exact Ay
theorem R7 {g:Ap}{w:A9}(h:¬ O9 g w):Fk g w=(w,false):=if_neg h
theorem Yb {g:Ap}{w:A9}(h:O9 g w):Fk g w=(Ij g w,true):=if_pos h
set_option maxHeartbeats 1000000 in
theorem A4i (g:Ap)(x:A9)(hg:g.w≤1000000)(h:x.w≤1000000):Bo Tryz.prog 189 [.agg g.c,.agg x.c] [.agg (Fk g x).1.c,.one (vb (Fk g x).2)]:=by
 have hw:=Lh x
 refine Bh A0 false Tryz.func189 rfl Aw fun W=>?_
 conv=>whnf
 refine Cq (H4 x Ab) rfl (A8 ?_)
 refine B5 (I0 g Ab) rfl (A8 ?_)
 refine ⟨fun h1=>?_,fun h1=>?_⟩<;>conv=>whnf
 ·have h1:Ib g=false:=by simpa using h1
  repeat refine Bj ?_
  rw [R7 (fun p=>absurd p.1 (of_decide_eq_false h1))]
  refine B3 A0 rfl rfl ?_
  exact Ay
 have h1:Fj g:=of_decide_eq_true (show Ib g=true by simpa using h1)
 repeat refine Bj ?_
 refine B5 (Mh g x Ab Ab) rfl (A8 ?_)
 repeat refine Bj ?_
 refine ⟨fun h2=>?_,fun h2=>?_⟩<;>conv=>whnf
 ·have h2:Ka g.nodes.length x=false:=by simpa using h2
  repeat refine Bj ?_
  rw [R7 (fun p=>absurd p.2.1 (of_decide_eq_false h2))]
  refine B3 A0 rfl rfl ?_
  exact Ay
 have h2:Cx g.nodes.length x:=of_decide_eq_true (show Ka g.nodes.length x=true by simpa using h2)
 repeat refine Bj ?_
 refine ⟨fun h3=>?_,fun h3=>?_⟩<;>conv=>whnf
 ·have h3:¬ x.staged.length=0:=by have:=of_decide_eq_true h3;omega
  repeat refine Bj ?_
  rw [R7 (fun p=>h3 p.2.2.1)]
  refine B3 A0 rfl rfl ?_
  exact Ay
 have h3:x.staged.length=0:=by have:=of_decide_eq_false h3;omega
 repeat refine Bj ?_
 refine ⟨fun h4=>have h4:=eq_of_beq h4;?_,fun h4=>have h4:=beq_eq_false_iff_ne.1 h4;?_⟩<;>conv=>whnf
 ·repeat refine Bj ?_
  rw [R7 (fun p=>by have:=p.2.2.2;omega)]
  refine B3 A0 rfl rfl ?_
  exact Ay
 have h4:0<x.queue.length:=by omega
 have hR:=h2.1.1 _ (B8 (d:=default) h4)
 have hE:=hR.1.2.1
 have hcl:x.caps.length=4:=h2.2.1.2.2
 have hc:(x.queue.getD 0 default).stamp.epoch.toNat<x.caps.length:=by have:=h2.2.1.2.2;omega
 repeat refine Bj ?_
 (repeat refine An ?_)
 refine Cq (Vs g x.cells (x.queue.getD 0 default) Ab Ab) rfl (A8 ?_)
 (repeat refine An ?_)
 refine A2q A0 rfl rfl rfl rfl rfl rfl rfl rfl (l:=1) rfl rfl (⟨by omega,by omega,by omega⟩) (Ah (x.queue.drop 1)) (G8 (k:=1) h4) (A8 ?_)
 refine B1 A0 rfl rfl rfl rfl rfl rfl rfl rfl rfl rfl rfl (Ah (x.queue.drop 1)) (Ci) (fun _=>F8 _) (by (rw [List.length_drop];omega)) (A8 ?_)
 refine B5 (Vl g (x.queue.getD 0 default) Ab) rfl (A8 ?_)
 refine ⟨fun h5=>?_,fun h5=>?_⟩<;>conv=>whnf
 ·have h5:capped g (x.queue.getD 0 default)=true:=h5
  refine ⟨by (show 0≤(x.queue.getD 0 default).stamp.epoch∧(x.queue.getD 0 default).stamp.epoch<x.caps.length;omega),?_⟩
  conv=>whnf
  refine Ao (j:=(x.queue.getD 0 default).stamp.epoch) A0 rfl rfl rfl rfl rfl rfl rfl rfl (Ek (x.caps.set (x.queue.getD 0 default).stamp.epoch.toNat true)) (Cb hc rfl) (A8 ?_)
  rw [Yb ⟨h1,h2,h3,h4⟩,Ij,if_pos h5]
  refine B3 A0 rfl rfl ?_
  exact Ay
 have h5:capped g (x.queue.getD 0 default)=false:=h5
 rw [Yb ⟨h1,h2,h3,h4⟩,Ij,if_neg (by rw [h5];decide)]
 refine B3 A0 rfl rfl ?_
 exact Ay
end Go.Proofs.YtdendlkeiaccpaaGreatDoor
