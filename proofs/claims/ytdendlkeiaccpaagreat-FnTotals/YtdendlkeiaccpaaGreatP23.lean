/- Part 23 of the proof that each of the laws FnTotals returns true for every input. No conditions. -/
import Derived.Test.YtdendlkeiaccpaaGreatP21
import Derived.Test.YtdendlkeiaccpaaGreatP22
import Derived.Test.YtdendlkeiaccpaaGreatP20
import Derived.Test.YtdendlkeiaccpaaGreatP12

set_option linter.unusedSimpArgs false
set_option linter.unusedVariables false
set_option maxRecDepth 100000
namespace Go.Proofs.YtdendlkeiaccpaaGreat
open Go.Sx
structure T7 (w:Ac):Prop where
 q:∀y∈w.queue,y.ok
 s:∀y∈w.staged,y.ok
 i:∀y∈w.inputs,y.ok
 c:∀y∈w.cells,y.ok
 n:∀y∈w.sums,Et .i64 y
 d:∀y∈w.dones,y.ok
theorem B4s {w:Ac}(h:T7 w)(hw:w.w≤1000):w.ok:=by
 simp only [Ac.w] at hw
 refine ⟨⟨?_,h.q⟩,⟨?_,h.s⟩,⟨?_,h.i⟩,⟨?_,h.c⟩,⟨?_,h.n⟩,?_,?_,?_,h.d⟩<;>(simp only [maxLen];omega)
theorem B2f {ins:List A9}(h:B1s ins):∀y∈ins,y.ok:=fun y hy=>by
 obtain ⟨h1,h2,h3,h4,h5⟩:=h.2 y hy
 simp only [A9.ok,Bs.ok,Et]
 omega
theorem B22 {xs:List A9}(h:∀y∈xs,y.ok):T7 (H3 xs):=
 ⟨fun y hy=>(by cases hy),fun y hy=>(by cases hy),h,fun y hy=>(by cases hy),fun y hy=>(by rw [List.eq_of_mem_replicate hy];exact ⟨by decide,by decide⟩),fun y hy=>(by cases hy)⟩
theorem B0a {g:Ao}{w:Ac}(h:T7 w):T7 (Dd g w).1:=by
 unfold Dd
 split
 ·rename_i hi
  refine ⟨fun y hy=>?_,h.s,fun y hy=>h.i y (List.mem_of_mem_drop hy),h.c,h.n,h.d⟩
  rcases List.mem_append.1 hy with hy|hy
  ·exact h.q y hy
  rw [List.mem_singleton.1 hy]
  exact h.i _ (B9 (d:=default) hi.2.2.2.2)
 exact h
theorem B0b {g:Ao}{w:Ac}(h:T7 w):T7 (Fc g w).1:=by
 unfold Fc
 split
 ·refine ⟨fun y hy=>h.q y (List.mem_of_mem_drop hy),fun y hy=>M0 (Vl (g:=g) y hy).1,h.i,fun y hy=>?_,h.n,h.d⟩
  rcases Vk (show y∈(Er g w.cells (w.queue.getD 0 default)).1 from hy) with hy|⟨hr,rfl⟩
  ·exact h.c y hy
  exact A0b hr
 exact h
theorem B23 {w:Ac}(h:T7 w):T7 (Hf w).1:=by
 unfold Hf
 split
 ·exact ⟨h.q,fun y hy=>h.s y (List.mem_of_mem_drop hy),h.i,h.c,h.n,h.d⟩
 exact h
theorem B31 {w:Ac}{q:List A9}(h:T7 w)(hq:∀y∈q,y.ok):T7 ⟨q,w.staged,w.inputs,w.cells,w.sums,w.black,w.caps,w.dones⟩:=⟨hq,h.s,h.i,h.c,h.n,h.d⟩
theorem B5v {w:Ac}{q:List A9}(h:T7 w)(hq:∀y∈q,y.ok):T7 ⟨w.queue,w.staged,q,w.cells,w.sums,w.black,w.caps,w.dones⟩:=⟨h.q,h.s,hq,h.c,h.n,h.d⟩
theorem A99 {w:Ac}{q:List Int}(h:T7 w)(hq:∀y∈q,Et .i64 y):T7 ⟨w.queue,w.staged,w.inputs,w.cells,q,w.black,w.caps,w.dones⟩:=⟨h.q,h.s,h.i,h.c,hq,h.d⟩
theorem B30 {w:Ac}{q:List Fi}(h:T7 w)(hq:∀y∈q,y.ok):T7 ⟨w.queue,w.staged,w.inputs,w.cells,w.sums,w.black,w.caps,q⟩:=⟨h.q,h.s,h.i,h.c,h.n,hq⟩
theorem B5u {w:Ac}{q:List Be}(h:T7 w)(hq:∀y∈q,y.ok):T7 ⟨w.queue,w.staged,w.inputs,q,w.sums,w.black,w.caps,w.dones⟩:=⟨h.q,h.s,h.i,hq,h.n,h.d⟩
theorem B3z {w:Ac}{q:List Bool}(h:T7 w):T7 ⟨w.queue,w.staged,w.inputs,w.cells,w.sums,q,w.caps,w.dones⟩:=⟨h.q,h.s,h.i,h.c,h.n,h.d⟩
theorem Hy {α:Type}{p:α→Prop}{xs:List α}{x:α}(h:∀y∈xs,p y)(hx:p x):∀y∈xs++[x],p y:=fun y hy=>by
 rcases List.mem_append.1 hy with hy|hy
 ·exact h y hy
 rw [List.mem_singleton.1 hy];exact hx
theorem Po {α:Type}{p:α→Prop}{xs:List α}{x:α}{k:Nat}(h:∀y∈xs,p y)(hx:p x):∀y∈xs.set k x,p y:=fun y hy=>by
 rcases List.mem_or_eq_of_mem_set hy with hy|rfl
 ·exact h y hy
 exact hx
theorem A4a {α:Type}{p:α→Prop}{xs:List α}{k:Nat}(h:∀y∈xs,p y):∀y∈xs.take k,p y:=fun y hy=>h y (List.mem_of_mem_take hy)
structure OkL (l:B8):Prop where
 c:Et .i64 l.cap
 q:∀y∈l.queue,y.ok
 r:Et .i64 l.credits
 b:Et .i64 l.back
 s:Et .i64 l.sent
 g:Et .i64 l.got
theorem B4q {l:B8}(h:OkL l)(hw:l.queue.length≤1000):l.ok:=⟨h.c,⟨by simp only [maxLen];omega,h.q⟩,h.r,h.b,h.s,h.g⟩
theorem B21 (n:Int):OkL (Gk n):=by
 have:=G8 n 1 4 Aw
 refine ⟨?_,fun y hy=>(by cases hy),?_,?_,?_,?_⟩<;>(simp only [Et,Gk];omega)
theorem A97 {l:B8}(h:OkL l):OkL (C3 l).1:=by
 unfold C3
 split
 ·rename_i hp
  obtain ⟨⟨h1,h2,h3,h4,h5,h6,h7⟩,hq⟩:=hp.1
  refine ⟨h.c,fun y hy=>h.q y (List.mem_of_mem_drop hy),h.r,?_,h.s,?_⟩<;>(simp only [Et];omega)
 exact h
theorem A95 {l:B8}(h:OkL l):OkL (D3 l).1:=by
 unfold D3
 split
 ·rename_i hp
  obtain ⟨⟨h1,h2,h3,h4,h5,h6,h7⟩,hq⟩:=hp.1
  refine ⟨h.c,h.q,?_,?_,h.s,h.g⟩<;>(simp only [Et];omega)
 exact h
theorem A96 {l:B8}{r:A9}(h:OkL l):OkL (Cl l r).1:=by
 unfold Cl
 split
 ·rename_i hp
  obtain ⟨⟨⟨h1,h2,h3,h4,h5,h6,h7⟩,hq⟩,hr,_,_⟩:=hp
  refine ⟨h.c,Hy h.q (M0 hr),?_,h.b,?_,h.g⟩<;>(simp only [Et];omega)
 exact h
theorem A6y {c:A6}{j:Int}{w:Ac}(h:c.ok)(hw:w.ok):(Bc c j w).ok:=⟨h.1,⟨by show (c.workers.set _ _).length≤_;rw [List.length_set];exact h.2.1.1,Po h.2.1.2 hw⟩,h.2.2⟩
theorem A6x {c:A6}{j:Int}{l:B8}(h:c.ok)(hl:l.ok):(Cb c j l).ok:=⟨h.1,h.2.1,⟨by show (c.links.set _ _).length≤_;rw [List.length_set];exact h.2.2.1.1,Po h.2.2.1.2 hl⟩,h.2.2.2⟩
theorem Xb {c:A6}{e:Int}{t:Di}(h:c.ok)(ht:t.ok):(D7 c e t).ok:=⟨h.1,h.2.1,h.2.2.1,⟨by show (c.tokens.set _ _).length≤_;rw [List.length_set];exact h.2.2.2.1.1,Po h.2.2.2.1.2 ht⟩,h.2.2.2.2⟩
theorem A14 {c:A6}{j:Nat}(h:c.ok)(hj:j<c.tokens.length):(c.tokens.getD j default).ok:=h.2.2.2.1.2 _ (B9 hj)
theorem Le (x:Ac):x.queue.length≤x.w∧x.staged.length≤x.w∧x.inputs.length≤x.w∧x.cells.length≤x.w∧x.sums.length≤x.w∧x.black.length≤x.w∧x.caps.length≤x.w∧x.dones.length≤x.w:=by simp only [Ac.w];omega
theorem B04 (x:Ac)(r:A9)(h:x.w≤1000000):Bi Tryz.prog 180 [.agg x.c,.agg r.c] [.agg (kept x r).c]:=by
 have hw:=Le x
 refine Bd A0 false Tryz.func180 rfl Aw fun W=>?_
 conv=>whnf
 refine Cx (Gu x Ab) rfl (A8 ?_)
 refine Av A0 rfl rfl rfl rfl rfl rfl rfl rfl rfl rfl rfl (Aa (x.queue++[r])) (Ad rfl) Bj Ab (A8 ?_)
 refine B2 A0 rfl rfl ?_
 exact At
theorem Qe {w:Ac}{r:A9}(h1:w.sums.length=4)(h2:w.black.length=4)(he:0≤r.stamp.epoch∧r.stamp.epoch≤3):Ea w r=I0 (F4 (kept w r) r.stamp.epoch (-1)) r.stamp.epoch:=by
 unfold Ea
 rw [if_pos ⟨by omega,by omega,by omega⟩]
structure WD (k:Nat) (x:Ac):Prop where
 w:x.w≤20+3 * k
 s4:x.sums.length=4
 b4:x.black.length=4
 s:∀n∈x.sums,-(k:Int)≤n∧n≤k
 o:T7 x
set_option maxHeartbeats 1000000 in
theorem Ma (x:Ac)(r:A9)(h:x.w≤1000000)(hS:∀n∈x.sums,-1000≤n∧n≤1000)(h1:x.sums.length=4)(h2:x.black.length=4)(he:0≤r.stamp.epoch∧r.stamp.epoch≤3):Bi Tryz.prog 151 [.agg x.c,.agg r.c] [.agg (Ea x r).c]:=by
 have hw:=Le x
 have hk:r.stamp.epoch.toNat<x.sums.length:=by omega
 have hk2:r.stamp.epoch.toNat<x.black.length:=by omega
 have hs: -1000≤(x.sums.getD r.stamp.epoch.toNat default)∧(x.sums.getD r.stamp.epoch.toNat default)≤1000:=hS _ (B9 hk)
 obtain ⟨s1,s2⟩:=hs
 have g1:(kept x r).sums.length=4:=h1
 have g2:(kept x r).black.length=4:=h2
 have g3:(kept x r).sums.getD r.stamp.epoch.toNat default=x.sums.getD r.stamp.epoch.toNat default:=rfl
 refine Bd A0 false Tryz.func151 rfl Aw fun W=>?_
 conv=>whnf
 refine Cx (B04 x r Ab) rfl (A8 ?_)
 (repeat refine Am ?_)
 refine Az (Ep r.stamp.epoch 0 (x.sums.length-1)) rfl (A8 ?_)
 have hyes:Eb r.stamp.epoch 0 (x.sums.length-1)=true:=Go.Sx.Au.2 ⟨he.1,by omega⟩
 rw [hyes]
 repeat refine B7 ?_
 refine ⟨fun h7=>?_,fun h7=>absurd (of_decide_eq_false h7) Ab⟩
 conv=>whnf
 refine Fk rfl ?_
 refine Aj A0 false 0 rfl rfl rfl A7 rfl (A4 B1) ?_
 refine Aj A0 false 2 rfl rfl rfl A7 rfl (A4 B1) ?_
 refine Aj A0 false 3 rfl rfl rfl A7 rfl (A4 B1) ?_
 refine Aj A0 false 5 rfl rfl rfl A7 rfl (A4 B1) ?_
 refine A3 [1,4] A7 ⟨?_,?_,trivial⟩
 focus
  refine A8 ?_
  refine A5 (A3 [4] A7 ⟨A8 ?_,trivial⟩)
  refine A5 (A3 [6] A7 ⟨A8 ?_,trivial⟩)
  (repeat refine Am ?_)
  refine A5 (A3 [7] A7 ⟨A8 ?_,trivial⟩)
  refine A5 ?_
  refine Aj A0 false 8 rfl rfl rfl A7 rfl (A4 B1) ?_
  refine A3 [9] A7 ⟨A8 ?_,trivial⟩
  (repeat refine Am ?_)
  refine A5 (A3 [10] A7 ⟨A8 ?_,trivial⟩)
  refine Al (j:=r.stamp.epoch) A0 rfl rfl rfl rfl rfl rfl rfl rfl (Ap (x.sums.set r.stamp.epoch.toNat (x.sums.getD r.stamp.epoch.toNat default+ -1))) (C0 hk rfl) (A8 ?_)
  refine A5 (Aq A7 (A8 ?_))
 rotate_left 1
 focus
  refine A8 ?_
  refine A5 ?_
  refine A3 [1,6] A7 ⟨?_,?_,trivial⟩
  focus
   refine A8 ?_
   refine A5 (A3 [6] A7 ⟨A8 ?_,trivial⟩)
   (repeat refine Am ?_)
   refine A5 (A3 [7] A7 ⟨A8 ?_,trivial⟩)
   refine A5 ?_
   refine Aj A0 false 8 rfl rfl rfl A7 rfl (A4 B1) ?_
   refine A3 [9] A7 ⟨A8 ?_,trivial⟩
   (repeat refine Am ?_)
   refine A5 (A3 [10] A7 ⟨A8 ?_,trivial⟩)
   refine Al (j:=r.stamp.epoch) A0 rfl rfl rfl rfl rfl rfl rfl rfl (Ap (x.sums.set r.stamp.epoch.toNat (x.sums.getD r.stamp.epoch.toNat default+ -1))) (C0 hk rfl) (A8 ?_)
   refine A5 (Aq A7 (A8 ?_))
  rotate_left 1
  focus
   refine A8 ?_
   (repeat refine Am ?_)
   refine A5 ?_
   refine A3 [1,7] A7 ⟨?_,?_,trivial⟩
   focus
    refine A8 ?_
    refine A5 (A3 [7] A7 ⟨A8 ?_,trivial⟩)
    refine A5 ?_
    refine Aj A0 false 8 rfl rfl rfl A7 rfl (A4 B1) ?_
    refine A3 [9] A7 ⟨A8 ?_,trivial⟩
    (repeat refine Am ?_)
    refine A5 (A3 [10] A7 ⟨A8 ?_,trivial⟩)
    refine Al (j:=r.stamp.epoch) A0 rfl rfl rfl rfl rfl rfl rfl rfl (Ap (x.sums.set r.stamp.epoch.toNat (x.sums.getD r.stamp.epoch.toNat default+ -1))) (C0 hk rfl) (A8 ?_)
    refine A5 (Aq A7 (A8 ?_))
   rotate_left 1
   focus
    refine A8 ?_
    refine A5 ?_
    refine Aj A0 false 8 rfl rfl rfl A7 rfl (A4 B1) ?_
    refine A3 [1] A7 ⟨A8 ?_,trivial⟩
    refine A5 (A3 [9] A7 ⟨A8 ?_,trivial⟩)
    (repeat refine Am ?_)
    refine A5 (A3 [10] A7 ⟨A8 ?_,trivial⟩)
    refine Al (j:=r.stamp.epoch) A0 rfl rfl rfl rfl rfl rfl rfl rfl (Ap (x.sums.set r.stamp.epoch.toNat (x.sums.getD r.stamp.epoch.toNat default+ -1))) (C0 hk rfl) (A8 ?_)
    refine A5 (Aq A7 (A8 ?_))
 all_goals
  (repeat refine Am ?_)
  refine Al (j:=r.stamp.epoch) A0 rfl rfl rfl rfl rfl rfl rfl rfl (Eg (x.black.set r.stamp.epoch.toNat true)) (C0 hk2 rfl) (A8 ?_)
  rw [Qe h1 h2 he]
  refine B2 A0 rfl rfl ?_
  exact At
theorem Zf {w:Ac}(h:¬ 0<w.staged.length):Hf w=(w,default,false):=if_neg h
theorem Wh {w:Ac}(h:0<w.staged.length):Hf w=(E7 w,w.staged.getD 0 default,true):=if_pos h
theorem Z7 (x:Ac)(h:x.w≤1000000):Bi Tryz.prog 153 [.agg x.c] [.agg (Hf x).1.c,.agg (Hf x).2.1.c,.one (vb (Hf x).2.2)]:=by
 have hw:=Le x
 refine Bd A0 false Tryz.func153 rfl Aw fun W=>?_
 conv=>whnf
 refine Cx (Gu x Ab) rfl (A8 ?_)
 refine ⟨fun h1=>have h1:=eq_of_beq h1;?_,fun h1=>have h1:=beq_eq_false_iff_ne.1 h1;?_⟩<;>conv=>whnf
 ·repeat refine B7 ?_
  rw [Zf Ab]
  refine B2 A0 rfl rfl ?_
  exact At
 have h1:0<x.staged.length:=by omega
 repeat refine B7 ?_
 (repeat refine Am ?_)
 refine A1v A0 rfl rfl rfl rfl rfl rfl rfl rfl (l:=1) rfl rfl (⟨by omega,by omega,by omega⟩) (Aa (x.staged.drop 1)) (Fw (k:=1) h1) (A8 ?_)
 refine Av A0 rfl rfl rfl rfl rfl rfl rfl rfl rfl rfl rfl (Aa (x.staged.drop 1)) (Cc) (fun _=>Cd _) (by (rw [List.length_drop];omega)) (A8 ?_)
 refine Je rfl ?_
 refine Dt (s':=?_) 0 rfl A7 ?_ ?_
 rotate_left
 refine A8 ?_
 (repeat refine Am ?_)
 exact Bh
 refine Ek [1,2] A7 ⟨?_,?_,trivial⟩
 focus
  refine A8 ?_
  (repeat refine Am ?_)
  refine Eu ?_
  refine Ek [2] A7 ⟨?_,trivial⟩
  refine A8 ?_
  (repeat refine Am ?_)
  refine Eu ?_
  refine Ek [3] A7 ⟨?_,trivial⟩
  refine A8 ?_
  (repeat refine Am ?_)
  refine Eu ?_
  refine Bu A0 false 4 rfl rfl A7 rfl (A4 B1) ?_
  refine Mj A7 (A8 ?_)
 rotate_left 1
 focus
  refine A8 ?_
  (repeat refine Am ?_)
  refine Eu ?_
  refine Dt (s':=?_) 1 rfl A7 ?_ ?_
  rotate_left
  refine A8 ?_
  (repeat refine Am ?_)
  exact Bh
  refine Ek [3] A7 ⟨?_,trivial⟩
  refine A8 ?_
  (repeat refine Am ?_)
  refine Eu ?_
  refine Bu A0 false 4 rfl rfl A7 rfl (A4 B1) ?_
  refine Mj A7 (A8 ?_)
 all_goals
  rw [Wh h1]
  refine B2 A0 rfl rfl ?_
  exact At
theorem L9 {g:Ao}{w:Ac}(h:¬ Kw g w):Dd g w=(w,false):=if_neg h
theorem A2v {g:Ao}{w:Ac}(h:Kw g w):Dd g w=(Iw w,true):=if_pos h
set_option maxHeartbeats 1000000 in
theorem Wd (g:Ao)(x:Ac)(hg:g.w≤1000000)(h:x.w≤1000000):Bi Tryz.prog 150 [.agg g.c,.agg x.c] [.agg (Dd g x).1.c,.one (vb (Dd g x).2)]:=by
 have hw:=Le x
 refine Bd A0 false Tryz.func150 rfl Aw fun W=>?_
 conv=>whnf
 refine Cx (Gu x Ab) rfl (A8 ?_)
 refine Az (Hr g Ab) rfl (A8 ?_)
 refine ⟨fun h1=>?_,fun h1=>?_⟩<;>conv=>whnf
 ·have h1:I3 g=false:=by simpa using h1
  repeat refine B7 ?_
  rw [L9 (fun p=>absurd p.1 (of_decide_eq_false h1))]
  refine B2 A0 rfl rfl ?_
  exact At
 have h1:Fa g:=of_decide_eq_true (show I3 g=true by simpa using h1)
 repeat refine B7 ?_
 refine Az (Mb g x Ab Ab) rfl (A8 ?_)
 repeat refine B7 ?_
 refine ⟨fun h2=>?_,fun h2=>?_⟩<;>conv=>whnf
 ·have h2:K7 g.nodes.length x=false:=by simpa using h2
  repeat refine B7 ?_
  rw [L9 (fun p=>absurd p.2.1 (of_decide_eq_false h2))]
  refine B2 A0 rfl rfl ?_
  exact At
 have h2:Cs g.nodes.length x:=of_decide_eq_true (show K7 g.nodes.length x=true by simpa using h2)
 repeat refine B7 ?_
 refine ⟨fun h3=>?_,fun h3=>?_⟩<;>conv=>whnf
 ·have h3:¬ x.staged.length=0:=by have:=of_decide_eq_true h3;omega
  repeat refine B7 ?_
  rw [L9 (fun p=>h3 p.2.2.1)]
  refine B2 A0 rfl rfl ?_
  exact At
 have h3:x.staged.length=0:=by have:=of_decide_eq_false h3;omega
 repeat refine B7 ?_
 refine ⟨fun h4=>?_,fun h4=>?_⟩<;>conv=>whnf
 ·have h4:¬ x.queue.length=0:=by have:=of_decide_eq_true h4;omega
  repeat refine B7 ?_
  rw [L9 (fun p=>h4 p.2.2.2.1)]
  refine B2 A0 rfl rfl ?_
  exact At
 have h4:x.queue.length=0:=by have:=of_decide_eq_false h4;omega
 repeat refine B7 ?_
 refine ⟨fun h5=>have h5:=eq_of_beq h5;?_,fun h5=>have h5:=beq_eq_false_iff_ne.1 h5;?_⟩<;>conv=>whnf
 ·repeat refine B7 ?_
  rw [L9 (fun p=>by have:=p.2.2.2.2;omega)]
  refine B2 A0 rfl rfl ?_
  exact At
 have h5:0<x.inputs.length:=by omega
 repeat refine B7 ?_
 refine Fk rfl ?_
 refine Aj A0 false 0 rfl rfl rfl A7 rfl (A4 B1) ?_
 refine Aj A0 false 2 rfl rfl rfl A7 rfl (A4 B1) ?_
 refine A3 [1,3] A7 ⟨?_,?_,trivial⟩
 focus
  refine A8 ?_
  refine A5 (A3 [3] A7 ⟨A8 ?_,trivial⟩)
  refine A5 (A3 [4] A7 ⟨A8 ?_,trivial⟩)
  (repeat refine Am ?_)
  refine A5 (A3 [5] A7 ⟨A8 ?_,trivial⟩)
  refine A5 (A3 [6] A7 ⟨A8 ?_,trivial⟩)
  refine A5 (A3 [7] A7 ⟨A8 ?_,trivial⟩)
  refine Av A0 rfl rfl rfl rfl rfl rfl rfl rfl rfl rfl rfl (Aa (x.queue++[x.inputs.getD 0 default])) (Ad rfl) Bj Ab (A8 ?_)
  refine A5 ?_
  refine Aj A0 false 8 rfl rfl rfl A7 rfl (A4 B1) ?_
  refine A3 [9] A7 ⟨A8 ?_,trivial⟩
  refine A5 (Aq A7 (A8 ?_))
 rotate_left 1
 focus
  refine A8 ?_
  refine A5 ?_
  refine A3 [1,4] A7 ⟨?_,?_,trivial⟩
  focus
   refine A8 ?_
   refine A5 (A3 [4] A7 ⟨A8 ?_,trivial⟩)
   (repeat refine Am ?_)
   refine A5 (A3 [5] A7 ⟨A8 ?_,trivial⟩)
   refine A5 (A3 [6] A7 ⟨A8 ?_,trivial⟩)
   refine A5 (A3 [7] A7 ⟨A8 ?_,trivial⟩)
   refine Av A0 rfl rfl rfl rfl rfl rfl rfl rfl rfl rfl rfl (Aa (x.queue++[x.inputs.getD 0 default])) (Ad rfl) Bj Ab (A8 ?_)
   refine A5 ?_
   refine Aj A0 false 8 rfl rfl rfl A7 rfl (A4 B1) ?_
   refine A3 [9] A7 ⟨A8 ?_,trivial⟩
   refine A5 (Aq A7 (A8 ?_))
  rotate_left 1
  focus
   refine A8 ?_
   (repeat refine Am ?_)
   refine A5 ?_
   refine A3 [1,5] A7 ⟨?_,?_,trivial⟩
   focus
    refine A8 ?_
    refine A5 (A3 [5] A7 ⟨A8 ?_,trivial⟩)
    refine A5 (A3 [6] A7 ⟨A8 ?_,trivial⟩)
    refine A5 (A3 [7] A7 ⟨A8 ?_,trivial⟩)
    refine Av A0 rfl rfl rfl rfl rfl rfl rfl rfl rfl rfl rfl (Aa (x.queue++[x.inputs.getD 0 default])) (Ad rfl) Bj Ab (A8 ?_)
    refine A5 ?_
    refine Aj A0 false 8 rfl rfl rfl A7 rfl (A4 B1) ?_
    refine A3 [9] A7 ⟨A8 ?_,trivial⟩
    refine A5 (Aq A7 (A8 ?_))
   rotate_left 1
   focus
    refine A8 ?_
    refine A5 ?_
    refine A3 [1,6] A7 ⟨?_,?_,trivial⟩
    focus
     refine A8 ?_
     refine A5 (A3 [6] A7 ⟨A8 ?_,trivial⟩)
     refine A5 (A3 [7] A7 ⟨A8 ?_,trivial⟩)
     refine Av A0 rfl rfl rfl rfl rfl rfl rfl rfl rfl rfl rfl (Aa (x.queue++[x.inputs.getD 0 default])) (Ad rfl) Bj Ab (A8 ?_)
     refine A5 ?_
     refine Aj A0 false 8 rfl rfl rfl A7 rfl (A4 B1) ?_
     refine A3 [9] A7 ⟨A8 ?_,trivial⟩
     refine A5 (Aq A7 (A8 ?_))
    rotate_left 1
    focus
     refine A8 ?_
     refine A5 (A3 [1] A7 ⟨A8 ?_,trivial⟩)
     refine A5 (A3 [7] A7 ⟨A8 ?_,trivial⟩)
     refine Av A0 rfl rfl rfl rfl rfl rfl rfl rfl rfl rfl rfl (Aa (x.queue++[x.inputs.getD 0 default])) (Ad rfl) Bj Ab (A8 ?_)
     refine A5 ?_
     refine Aj A0 false 8 rfl rfl rfl A7 rfl (A4 B1) ?_
     refine A3 [9] A7 ⟨A8 ?_,trivial⟩
     refine A5 (Aq A7 (A8 ?_))
 all_goals
  (repeat refine Am ?_)
  refine A1v A0 rfl rfl rfl rfl rfl rfl rfl rfl (l:=1) rfl rfl (⟨by omega,by omega,by omega⟩) (Aa (x.inputs.drop 1)) (Fw (k:=1) h5) (A8 ?_)
  refine Av A0 rfl rfl rfl rfl rfl rfl rfl rfl rfl rfl rfl (Aa (x.inputs.drop 1)) (Cc) (fun _=>Cd _) (by (rw [List.length_drop];omega)) (A8 ?_)
  rw [A2v ⟨h1,h2,h3,h4,h5⟩]
  refine B2 A0 rfl rfl ?_
  exact At
theorem Qp {g:Ao}{w:Ac}(h:¬ O3 g w):Fc g w=(w,false):=if_neg h
theorem Xo {g:Ao}{w:Ac}(h:O3 g w):Fc g w=(I7 g w,true):=if_pos h
set_option maxHeartbeats 1000000 in
theorem A3p (g:Ao)(x:Ac)(hg:g.w≤1000000)(h:x.w≤1000000):Bi Tryz.prog 154 [.agg g.c,.agg x.c] [.agg (Fc g x).1.c,.one (vb (Fc g x).2)]:=by
 have hw:=Le x
 refine Bd A0 false Tryz.func154 rfl Aw fun W=>?_
 conv=>whnf
 refine Cx (Gu x Ab) rfl (A8 ?_)
 refine Az (Hr g Ab) rfl (A8 ?_)
 refine ⟨fun h1=>?_,fun h1=>?_⟩<;>conv=>whnf
 ·have h1:I3 g=false:=by simpa using h1
  repeat refine B7 ?_
  rw [Qp (fun p=>absurd p.1 (of_decide_eq_false h1))]
  refine B2 A0 rfl rfl ?_
  exact At
 have h1:Fa g:=of_decide_eq_true (show I3 g=true by simpa using h1)
 repeat refine B7 ?_
 refine Az (Mb g x Ab Ab) rfl (A8 ?_)
 repeat refine B7 ?_
 refine ⟨fun h2=>?_,fun h2=>?_⟩<;>conv=>whnf
 ·have h2:K7 g.nodes.length x=false:=by simpa using h2
  repeat refine B7 ?_
  rw [Qp (fun p=>absurd p.2.1 (of_decide_eq_false h2))]
  refine B2 A0 rfl rfl ?_
  exact At
 have h2:Cs g.nodes.length x:=of_decide_eq_true (show K7 g.nodes.length x=true by simpa using h2)
 repeat refine B7 ?_
 refine ⟨fun h3=>?_,fun h3=>?_⟩<;>conv=>whnf
 ·have h3:¬ x.staged.length=0:=by have:=of_decide_eq_true h3;omega
  repeat refine B7 ?_
  rw [Qp (fun p=>h3 p.2.2.1)]
  refine B2 A0 rfl rfl ?_
  exact At
 have h3:x.staged.length=0:=by have:=of_decide_eq_false h3;omega
 repeat refine B7 ?_
 refine ⟨fun h4=>have h4:=eq_of_beq h4;?_,fun h4=>have h4:=beq_eq_false_iff_ne.1 h4;?_⟩<;>conv=>whnf
 ·repeat refine B7 ?_
  rw [Qp (fun p=>by have:=p.2.2.2;omega)]
  refine B2 A0 rfl rfl ?_
  exact At
 have h4:0<x.queue.length:=by omega
 have hR:=h2.1.1 _ (B9 (d:=default) h4)
 have hE:=hR.1.2.1
 have hcl:x.caps.length=4:=h2.2.1.2.2
 have hc:(x.queue.getD 0 default).stamp.epoch.toNat<x.caps.length:=by have:=h2.2.1.2.2;omega
 repeat refine B7 ?_
 (repeat refine Am ?_)
 refine Cx (Vg g x.cells (x.queue.getD 0 default) Ab Ab) rfl (A8 ?_)
 (repeat refine Am ?_)
 refine A1v A0 rfl rfl rfl rfl rfl rfl rfl rfl (l:=1) rfl rfl (⟨by omega,by omega,by omega⟩) (Aa (x.queue.drop 1)) (Fw (k:=1) h4) (A8 ?_)
 refine Av A0 rfl rfl rfl rfl rfl rfl rfl rfl rfl rfl rfl (Aa (x.queue.drop 1)) (Cc) (fun _=>Cd _) (by (rw [List.length_drop];omega)) (A8 ?_)
 refine Az (V9 g (x.queue.getD 0 default) Ab) rfl (A8 ?_)
 refine ⟨fun h5=>?_,fun h5=>?_⟩<;>conv=>whnf
 ·have h5:capped g (x.queue.getD 0 default)=true:=h5
  refine ⟨by (show 0≤(x.queue.getD 0 default).stamp.epoch∧(x.queue.getD 0 default).stamp.epoch<x.caps.length;omega),?_⟩
  conv=>whnf
  refine Al (j:=(x.queue.getD 0 default).stamp.epoch) A0 rfl rfl rfl rfl rfl rfl rfl rfl (Eg (x.caps.set (x.queue.getD 0 default).stamp.epoch.toNat true)) (C0 hc rfl) (A8 ?_)
  rw [Xo ⟨h1,h2,h3,h4⟩,I7,if_pos h5]
  refine B2 A0 rfl rfl ?_
  exact At
 have h5:capped g (x.queue.getD 0 default)=false:=h5
 rw [Xo ⟨h1,h2,h3,h4⟩,I7,if_neg (by rw [h5];decide)]
 refine B2 A0 rfl rfl ?_
 exact At
end Go.Proofs.YtdendlkeiaccpaaGreat
