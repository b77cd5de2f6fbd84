/- Part 14 of the proof that each of the laws FnStalls returns true for every input. No conditions. -/
import Derived.Test.YtonodkjaoalfjaaGreatP13
import Derived.Test.YtonodkjaoalfjaaGreatP9
import Derived.Test.YtonodkjaoalfjaaGreatP4
import Derived.Test.YtonodkjaoalfjaaGreatP6
import Derived.Test.YtonodkjaoalfjaaGreatP3

set_option linter.unusedSimpArgs false
set_option linter.unusedVariables false
set_option maxRecDepth 100000
namespace Go.Proofs.YtonodkjaoalfjaaGreat
open Go.Sx
theorem C0w (x:Ab):x.queue.length≤x.w∧x.staged.length≤x.w∧x.inputs.length≤x.w∧x.cells.length≤x.w∧x.sums.length≤x.w∧x.black.length≤x.w∧x.caps.length≤x.w∧x.dones.length≤x.w:=by simp only [Ab.w];omega
theorem C42 (x:Ab)(r:A5)(h:x.w≤1000000):B0 Tryz.prog 216 [.agg x.c,.agg r.c] [.agg (kept x r).c]:=by
 have hw:=C0w x
 refine Ay A0 false Tryz.func216 rfl Bu fun W=>?_
 conv=>whnf
 refine B4 (B5t x Ac) rfl (Al ?_)
 refine Dp A0 rfl rfl rfl rfl rfl rfl rfl rfl rfl rfl rfl (Ax (x.queue++[r])) (Bf rfl) M1 Ac (Al ?_)
 refine Ao A0 rfl rfl ?_
 exact Ca
theorem C1p {w:Ab}{r:A5}(h1:w.sums.length=4)(h2:w.black.length=4)(he:0≤r.stamp.epoch∧r.stamp.epoch≤3):Cj w r=N2 (Ib (kept w r) r.stamp.epoch (-1)) r.stamp.epoch:=by
 unfold Cj
 rw [if_pos ⟨by omega,by omega,by omega⟩]
structure WD (k:Nat) (x:Ab):Prop where
 w:x.w≤20+3 * k
 s4:x.sums.length=4
 b4:x.black.length=4
 s:∀n∈x.sums,-(k:Int)≤n∧n≤k
set_option maxHeartbeats 1000000 in
theorem C01 (x:Ab)(r:A5)(h:x.w≤1000000)(hS:∀n∈x.sums,-1000≤n∧n≤1000)(h1:x.sums.length=4)(h2:x.black.length=4)(he:0≤r.stamp.epoch∧r.stamp.epoch≤3):B0 Tryz.prog 182 [.agg x.c,.agg r.c] [.agg (Cj x r).c]:=by
 have hw:=C0w x
 have hk:r.stamp.epoch.toNat<x.sums.length:=by omega
 have hk2:r.stamp.epoch.toNat<x.black.length:=by omega
 have hs: -1000≤(x.sums.getD r.stamp.epoch.toNat default)∧(x.sums.getD r.stamp.epoch.toNat default)≤1000:=hS _ (Aq hk)
 obtain ⟨s1,s2⟩:=hs
 have g1:(kept x r).sums.length=4:=h1
 have g2:(kept x r).black.length=4:=h2
 have g3:(kept x r).sums.getD r.stamp.epoch.toNat default=x.sums.getD r.stamp.epoch.toNat default:=rfl
 refine Ay A0 false Tryz.func182 rfl Bu fun W=>?_
 conv=>whnf
 refine B4 (C42 x r Ac) rfl (Al ?_)
 (repeat refine Ar ?_)
 refine Aw (Jo r.stamp.epoch 0 (x.sums.length-1)) rfl (Al ?_)
 have hyes:Eg r.stamp.epoch 0 (x.sums.length-1)=true:=Go.Sx.Am.2 ⟨he.1,by omega⟩
 rw [hyes]
 repeat refine Bi ?_
 refine ⟨fun h7=>?_,fun h7=>absurd (of_decide_eq_false h7) Ac⟩
 conv=>whnf
 refine A8a rfl ?_
 refine M7 A0 false 0 rfl rfl rfl Aa rfl (Af D0) ?_
 refine M7 A0 false 2 rfl rfl rfl Aa rfl (Af D0) ?_
 refine M7 A0 false 3 rfl rfl rfl Aa rfl (Af D0) ?_
 refine M7 A0 false 5 rfl rfl rfl Aa rfl (Af D0) ?_
 refine Aj [1,4] Aa ⟨?_,?_,trivial⟩
 focus
  refine go A0 false ?_
  conv=>whnf
  refine Ak ?_
  refine Aj [4] Aa ⟨?_,trivial⟩
  refine go A0 false ?_
  conv=>whnf
  refine Ak ?_
  refine Aj [6] Aa ⟨?_,trivial⟩
  refine go A0 false ?_
  conv=>whnf
  (repeat refine Ar ?_)
  refine Ak ?_
  refine Aj [7] Aa ⟨?_,trivial⟩
  refine go A0 false ?_
  conv=>whnf
  refine Ak ?_
  refine M7 A0 false 8 rfl rfl rfl Aa rfl (Af D0) ?_
  refine Aj [9] Aa ⟨?_,trivial⟩
  refine go A0 false ?_
  conv=>whnf
  (repeat refine Ar ?_)
  refine Ak ?_
  refine Aj [10] Aa ⟨?_,trivial⟩
  refine go A0 false ?_
  conv=>whnf
  refine D7 (j:=r.stamp.epoch) A0 rfl rfl rfl rfl rfl rfl rfl rfl (F1 (x.sums.set r.stamp.epoch.toNat (x.sums.getD r.stamp.epoch.toNat default+ -1))) (E4 hk rfl) (Al ?_)
  refine Ak ?_
  refine Ed Aa (Al ?_)
 rotate_left 1
 focus
  refine go A0 false ?_
  conv=>whnf
  refine Ak ?_
  refine Aj [1,6] Aa ⟨?_,?_,trivial⟩
  focus
   refine go A0 false ?_
   conv=>whnf
   refine Ak ?_
   refine Aj [6] Aa ⟨?_,trivial⟩
   refine go A0 false ?_
   conv=>whnf
   (repeat refine Ar ?_)
   refine Ak ?_
   refine Aj [7] Aa ⟨?_,trivial⟩
   refine go A0 false ?_
   conv=>whnf
   refine Ak ?_
   refine M7 A0 false 8 rfl rfl rfl Aa rfl (Af D0) ?_
   refine Aj [9] Aa ⟨?_,trivial⟩
   refine go A0 false ?_
   conv=>whnf
   (repeat refine Ar ?_)
   refine Ak ?_
   refine Aj [10] Aa ⟨?_,trivial⟩
   refine go A0 false ?_
   conv=>whnf
   refine D7 (j:=r.stamp.epoch) A0 rfl rfl rfl rfl rfl rfl rfl rfl (F1 (x.sums.set r.stamp.epoch.toNat (x.sums.getD r.stamp.epoch.toNat default+ -1))) (E4 hk rfl) (Al ?_)
   refine Ak ?_
   refine Ed Aa (Al ?_)
  rotate_left 1
  focus
   refine go A0 false ?_
   conv=>whnf
   (repeat refine Ar ?_)
   refine Ak ?_
   refine Aj [1,7] Aa ⟨?_,?_,trivial⟩
   focus
    refine go A0 false ?_
    conv=>whnf
    refine Ak ?_
    refine Aj [7] Aa ⟨?_,trivial⟩
    refine go A0 false ?_
    conv=>whnf
    refine Ak ?_
    refine M7 A0 false 8 rfl rfl rfl Aa rfl (Af D0) ?_
    refine Aj [9] Aa ⟨?_,trivial⟩
    refine go A0 false ?_
    conv=>whnf
    (repeat refine Ar ?_)
    refine Ak ?_
    refine Aj [10] Aa ⟨?_,trivial⟩
    refine go A0 false ?_
    conv=>whnf
    refine D7 (j:=r.stamp.epoch) A0 rfl rfl rfl rfl rfl rfl rfl rfl (F1 (x.sums.set r.stamp.epoch.toNat (x.sums.getD r.stamp.epoch.toNat default+ -1))) (E4 hk rfl) (Al ?_)
    refine Ak ?_
    refine Ed Aa (Al ?_)
   rotate_left 1
   focus
    refine go A0 false ?_
    conv=>whnf
    refine Ak ?_
    refine M7 A0 false 8 rfl rfl rfl Aa rfl (Af D0) ?_
    refine Aj [1] Aa ⟨?_,trivial⟩
    refine go A0 false ?_
    conv=>whnf
    refine Ak ?_
    refine Aj [9] Aa ⟨?_,trivial⟩
    refine go A0 false ?_
    conv=>whnf
    (repeat refine Ar ?_)
    refine Ak ?_
    refine Aj [10] Aa ⟨?_,trivial⟩
    refine go A0 false ?_
    conv=>whnf
    refine D7 (j:=r.stamp.epoch) A0 rfl rfl rfl rfl rfl rfl rfl rfl (F1 (x.sums.set r.stamp.epoch.toNat (x.sums.getD r.stamp.epoch.toNat default+ -1))) (E4 hk rfl) (Al ?_)
    refine Ak ?_
    refine Ed Aa (Al ?_)
 all_goals
  (repeat refine Ar ?_)
  refine D7 (j:=r.stamp.epoch) A0 rfl rfl rfl rfl rfl rfl rfl rfl (Gm (x.black.set r.stamp.epoch.toNat true)) (E4 hk2 rfl) (Al ?_)
  rw [C1p h1 h2 he]
  refine Ao A0 rfl rfl ?_
  exact Ca
theorem C27 {w:Ab}(h:¬ 0<w.staged.length):Pk w=(w,default,false):=if_neg h
theorem C2u {w:Ab}(h:0<w.staged.length):Pk w=(Bt w,w.staged.getD 0 default,true):=if_pos h
theorem C25 (x:Ab)(h:x.w≤1000000):B0 Tryz.prog 184 [.agg x.c] [.agg (Pk x).1.c,.agg (Pk x).2.1.c,.one (vb (Pk x).2.2)]:=by
 have hw:=C0w x
 refine Ay A0 false Tryz.func184 rfl Bu fun W=>?_
 conv=>whnf
 refine B4 (B5t x Ac) rfl (Al ?_)
 refine ⟨fun h1=>have h1:=eq_of_beq h1;?_,fun h1=>have h1:=beq_eq_false_iff_ne.1 h1;?_⟩<;>conv=>whnf
 ·repeat refine Bi ?_
  rw [C27 Ac]
  refine Ao A0 rfl rfl ?_
  exact Ca
 ·have h1:0<x.staged.length:=by omega
  repeat refine Bi ?_
  (repeat refine Ar ?_)
  refine B5k A0 rfl rfl rfl rfl rfl rfl rfl rfl (l:=1) rfl rfl (⟨by omega,by omega,by omega⟩) (Ax (x.staged.drop 1)) (Lf (k:=1) h1) (Al ?_)
  refine Dp A0 rfl rfl rfl rfl rfl rfl rfl rfl rfl rfl rfl (Ax (x.staged.drop 1)) (Eh) (fun _=>B0d _) (by (rw [List.length_drop];omega)) (Al ?_)
  refine Jc rfl ?_
  refine Do (s':=?_) 0 rfl Aa ?_ ?_
  rotate_left
  refine go A0 false ?_
  conv=>whnf
  (repeat refine Ar ?_)
  exact Bd
  refine Cm [1,2] Aa ⟨?_,?_,trivial⟩
  focus
   refine go A0 false ?_
   conv=>whnf
   (repeat refine Ar ?_)
   refine Cu ?_
   refine Cm [2] Aa ⟨?_,trivial⟩
   refine go A0 false ?_
   conv=>whnf
   (repeat refine Ar ?_)
   refine Cu ?_
   refine Cm [3] Aa ⟨?_,trivial⟩
   refine go A0 false ?_
   conv=>whnf
   (repeat refine Ar ?_)
   refine Cu ?_
   refine Ct A0 false 4 rfl rfl Aa rfl (Af D0) ?_
   refine Hu Aa (Al ?_)
  rotate_left 1
  focus
   refine go A0 false ?_
   conv=>whnf
   (repeat refine Ar ?_)
   refine Cu ?_
   refine Do (s':=?_) 1 rfl Aa ?_ ?_
   rotate_left
   refine go A0 false ?_
   conv=>whnf
   (repeat refine Ar ?_)
   exact Bd
   refine Cm [3] Aa ⟨?_,trivial⟩
   refine go A0 false ?_
   conv=>whnf
   (repeat refine Ar ?_)
   refine Cu ?_
   refine Ct A0 false 4 rfl rfl Aa rfl (Af D0) ?_
   refine Hu Aa (Al ?_)
  all_goals
   rw [C2u h1]
   refine Ao A0 rfl rfl ?_
   exact Ca
theorem C0u {g:Ad}{w:Ab}(h:¬ Sl g w):Dg g w=(w,false):=if_neg h
theorem C3o {g:Ad}{w:Ab}(h:Sl g w):Dg g w=(Jz w,true):=if_pos h
set_option maxHeartbeats 1000000 in
theorem C2s (g:Ad)(x:Ab)(hg:g.w≤1000000)(h:x.w≤1000000):B0 Tryz.prog 181 [.agg g.c,.agg x.c] [.agg (Dg g x).1.c,.one (vb (Dg g x).2)]:=by
 have hw:=C0w x
 refine Ay A0 false Tryz.func181 rfl Bu fun W=>?_
 conv=>whnf
 refine B4 (B5t x Ac) rfl (Al ?_)
 refine Aw (A49 g Ac) rfl (Al ?_)
 refine ⟨fun h1=>?_,fun h1=>?_⟩<;>conv=>whnf
 ·have h1:Ga g=false:=by simpa using h1
  repeat refine Bi ?_
  rw [C0u (fun p=>absurd p.1 (of_decide_eq_false h1))]
  refine Ao A0 rfl rfl ?_
  exact Ca
 have h1:E7 g:=of_decide_eq_true (show Ga g=true by simpa using h1)
 repeat refine Bi ?_
 refine Aw (C03 g x Ac Ac) rfl (Al ?_)
 repeat refine Bi ?_
 refine ⟨fun h2=>?_,fun h2=>?_⟩<;>conv=>whnf
 ·have h2:Lg g.nodes.length x=false:=by simpa using h2
  repeat refine Bi ?_
  rw [C0u (fun p=>absurd p.2.1 (of_decide_eq_false h2))]
  refine Ao A0 rfl rfl ?_
  exact Ca
 have h2:D8 g.nodes.length x:=of_decide_eq_true (show Lg g.nodes.length x=true by simpa using h2)
 repeat refine Bi ?_
 refine ⟨fun h3=>?_,fun h3=>?_⟩<;>conv=>whnf
 ·have h3:¬ x.staged.length=0:=by have:=of_decide_eq_true h3;omega
  repeat refine Bi ?_
  rw [C0u (fun p=>h3 p.2.2.1)]
  refine Ao A0 rfl rfl ?_
  exact Ca
 have h3:x.staged.length=0:=by have:=of_decide_eq_false h3;omega
 repeat refine Bi ?_
 refine ⟨fun h4=>?_,fun h4=>?_⟩<;>conv=>whnf
 ·have h4:¬ x.queue.length=0:=by have:=of_decide_eq_true h4;omega
  repeat refine Bi ?_
  rw [C0u (fun p=>h4 p.2.2.2.1)]
  refine Ao A0 rfl rfl ?_
  exact Ca
 have h4:x.queue.length=0:=by have:=of_decide_eq_false h4;omega
 repeat refine Bi ?_
 refine ⟨fun h5=>have h5:=eq_of_beq h5;?_,fun h5=>have h5:=beq_eq_false_iff_ne.1 h5;?_⟩<;>conv=>whnf
 ·repeat refine Bi ?_
  rw [C0u (fun p=>by have:=p.2.2.2.2;omega)]
  refine Ao A0 rfl rfl ?_
  exact Ca
 have h5:0<x.inputs.length:=by omega
 repeat refine Bi ?_
 refine A8a rfl ?_
 refine M7 A0 false 0 rfl rfl rfl Aa rfl (Af D0) ?_
 refine M7 A0 false 2 rfl rfl rfl Aa rfl (Af D0) ?_
 refine Aj [1,3] Aa ⟨?_,?_,trivial⟩
 focus
  refine go A0 false ?_
  conv=>whnf
  refine Ak ?_
  refine Aj [3] Aa ⟨?_,trivial⟩
  refine go A0 false ?_
  conv=>whnf
  refine Ak ?_
  refine Aj [4] Aa ⟨?_,trivial⟩
  refine go A0 false ?_
  conv=>whnf
  (repeat refine Ar ?_)
  refine Ak ?_
  refine Aj [5] Aa ⟨?_,trivial⟩
  refine go A0 false ?_
  conv=>whnf
  refine Ak ?_
  refine Aj [6] Aa ⟨?_,trivial⟩
  refine go A0 false ?_
  conv=>whnf
  refine Ak ?_
  refine Aj [7] Aa ⟨?_,trivial⟩
  refine go A0 false ?_
  conv=>whnf
  refine Dp A0 rfl rfl rfl rfl rfl rfl rfl rfl rfl rfl rfl (Ax (x.queue++[x.inputs.getD 0 default])) (Bf rfl) M1 Ac (Al ?_)
  refine Ak ?_
  refine M7 A0 false 8 rfl rfl rfl Aa rfl (Af D0) ?_
  refine Aj [9] Aa ⟨?_,trivial⟩
  refine go A0 false ?_
  conv=>whnf
  refine Ak ?_
  refine Ed Aa (Al ?_)
 rotate_left 1
 focus
  refine go A0 false ?_
  conv=>whnf
  refine Ak ?_
  refine Aj [1,4] Aa ⟨?_,?_,trivial⟩
  focus
   refine go A0 false ?_
   conv=>whnf
   refine Ak ?_
   refine Aj [4] Aa ⟨?_,trivial⟩
   refine go A0 false ?_
   conv=>whnf
   (repeat refine Ar ?_)
   refine Ak ?_
   refine Aj [5] Aa ⟨?_,trivial⟩
   refine go A0 false ?_
   conv=>whnf
   refine Ak ?_
   refine Aj [6] Aa ⟨?_,trivial⟩
   refine go A0 false ?_
   conv=>whnf
   refine Ak ?_
   refine Aj [7] Aa ⟨?_,trivial⟩
   refine go A0 false ?_
   conv=>whnf
   refine Dp A0 rfl rfl rfl rfl rfl rfl rfl rfl rfl rfl rfl (Ax (x.queue++[x.inputs.getD 0 default])) (Bf rfl) M1 Ac (Al ?_)
   refine Ak ?_
   refine M7 A0 false 8 rfl rfl rfl Aa rfl (Af D0) ?_
   refine Aj [9] Aa ⟨?_,trivial⟩
   refine go A0 false ?_
   conv=>whnf
   refine Ak ?_
   refine Ed Aa (Al ?_)
  rotate_left 1
  focus
   refine go A0 false ?_
   conv=>whnf
   (repeat refine Ar ?_)
   refine Ak ?_
   refine Aj [1,5] Aa ⟨?_,?_,trivial⟩
   focus
    refine go A0 false ?_
    conv=>whnf
    refine Ak ?_
    refine Aj [5] Aa ⟨?_,trivial⟩
    refine go A0 false ?_
    conv=>whnf
    refine Ak ?_
    refine Aj [6] Aa ⟨?_,trivial⟩
    refine go A0 false ?_
    conv=>whnf
    refine Ak ?_
    refine Aj [7] Aa ⟨?_,trivial⟩
    refine go A0 false ?_
    conv=>whnf
    refine Dp A0 rfl rfl rfl rfl rfl rfl rfl rfl rfl rfl rfl (Ax (x.queue++[x.inputs.getD 0 default])) (Bf rfl) M1 Ac (Al ?_)
    refine Ak ?_
    refine M7 A0 false 8 rfl rfl rfl Aa rfl (Af D0) ?_
    refine Aj [9] Aa ⟨?_,trivial⟩
    refine go A0 false ?_
    conv=>whnf
    refine Ak ?_
    refine Ed Aa (Al ?_)
   rotate_left 1
   focus
    refine go A0 false ?_
    conv=>whnf
    refine Ak ?_
    refine Aj [1,6] Aa ⟨?_,?_,trivial⟩
    focus
     refine go A0 false ?_
     conv=>whnf
     refine Ak ?_
     refine Aj [6] Aa ⟨?_,trivial⟩
     refine go A0 false ?_
     conv=>whnf
     refine Ak ?_
     refine Aj [7] Aa ⟨?_,trivial⟩
     refine go A0 false ?_
     conv=>whnf
     refine Dp A0 rfl rfl rfl rfl rfl rfl rfl rfl rfl rfl rfl (Ax (x.queue++[x.inputs.getD 0 default])) (Bf rfl) M1 Ac (Al ?_)
     refine Ak ?_
     refine M7 A0 false 8 rfl rfl rfl Aa rfl (Af D0) ?_
     refine Aj [9] Aa ⟨?_,trivial⟩
     refine go A0 false ?_
     conv=>whnf
     refine Ak ?_
     refine Ed Aa (Al ?_)
    rotate_left 1
    focus
     refine go A0 false ?_
     conv=>whnf
     refine Ak ?_
     refine Aj [1] Aa ⟨?_,trivial⟩
     refine go A0 false ?_
     conv=>whnf
     refine Ak ?_
     refine Aj [7] Aa ⟨?_,trivial⟩
     refine go A0 false ?_
     conv=>whnf
     refine Dp A0 rfl rfl rfl rfl rfl rfl rfl rfl rfl rfl rfl (Ax (x.queue++[x.inputs.getD 0 default])) (Bf rfl) M1 Ac (Al ?_)
     refine Ak ?_
     refine M7 A0 false 8 rfl rfl rfl Aa rfl (Af D0) ?_
     refine Aj [9] Aa ⟨?_,trivial⟩
     refine go A0 false ?_
     conv=>whnf
     refine Ak ?_
     refine Ed Aa (Al ?_)
 all_goals
  (repeat refine Ar ?_)
  refine B5k A0 rfl rfl rfl rfl rfl rfl rfl rfl (l:=1) rfl rfl (⟨by omega,by omega,by omega⟩) (Ax (x.inputs.drop 1)) (Lf (k:=1) h5) (Al ?_)
  refine Dp A0 rfl rfl rfl rfl rfl rfl rfl rfl rfl rfl rfl (Ax (x.inputs.drop 1)) (Eh) (fun _=>B0d _) (by (rw [List.length_drop];omega)) (Al ?_)
  rw [C3o ⟨h1,h2,h3,h4,h5⟩]
  refine Ao A0 rfl rfl ?_
  exact Ca
theorem C1u {g:Ad}{w:Ab}(h:¬ V5 g w):Fk g w=(w,false):=if_neg h
theorem C2w {g:Ad}{w:Ab}(h:V5 g w):Fk g w=(Fx g w,true):=if_pos h
set_option maxHeartbeats 1000000 in
theorem C3x (g:Ad)(x:Ab)(hg:g.w≤1000000)(h:x.w≤1000000):B0 Tryz.prog 185 [.agg g.c,.agg x.c] [.agg (Fk g x).1.c,.one (vb (Fk g x).2)]:=by
 have hw:=C0w x
 refine Ay A0 false Tryz.func185 rfl Bu fun W=>?_
 conv=>whnf
 refine B4 (B5t x Ac) rfl (Al ?_)
 refine Aw (A49 g Ac) rfl (Al ?_)
 refine ⟨fun h1=>?_,fun h1=>?_⟩<;>conv=>whnf
 ·have h1:Ga g=false:=by simpa using h1
  repeat refine Bi ?_
  rw [C1u (fun p=>absurd p.1 (of_decide_eq_false h1))]
  refine Ao A0 rfl rfl ?_
  exact Ca
 have h1:E7 g:=of_decide_eq_true (show Ga g=true by simpa using h1)
 repeat refine Bi ?_
 refine Aw (C03 g x Ac Ac) rfl (Al ?_)
 repeat refine Bi ?_
 refine ⟨fun h2=>?_,fun h2=>?_⟩<;>conv=>whnf
 ·have h2:Lg g.nodes.length x=false:=by simpa using h2
  repeat refine Bi ?_
  rw [C1u (fun p=>absurd p.2.1 (of_decide_eq_false h2))]
  refine Ao A0 rfl rfl ?_
  exact Ca
 have h2:D8 g.nodes.length x:=of_decide_eq_true (show Lg g.nodes.length x=true by simpa using h2)
 repeat refine Bi ?_
 refine ⟨fun h3=>?_,fun h3=>?_⟩<;>conv=>whnf
 ·have h3:¬ x.staged.length=0:=by have:=of_decide_eq_true h3;omega
  repeat refine Bi ?_
  rw [C1u (fun p=>h3 p.2.2.1)]
  refine Ao A0 rfl rfl ?_
  exact Ca
 have h3:x.staged.length=0:=by have:=of_decide_eq_false h3;omega
 repeat refine Bi ?_
 refine ⟨fun h4=>have h4:=eq_of_beq h4;?_,fun h4=>have h4:=beq_eq_false_iff_ne.1 h4;?_⟩<;>conv=>whnf
 ·repeat refine Bi ?_
  rw [C1u (fun p=>by have:=p.2.2.2;omega)]
  refine Ao A0 rfl rfl ?_
  exact Ca
 have h4:0<x.queue.length:=by omega
 have hR:=h2.1.1 _ (Aq (d:=default) h4)
 have hE:=hR.1.2.1
 have hcl:x.caps.length=4:=h2.2.1.2.2
 have hc:(x.queue.getD 0 default).stamp.epoch.toNat<x.caps.length:=by have:=h2.2.1.2.2;omega
 repeat refine Bi ?_
 (repeat refine Ar ?_)
 refine B4 (C2h g x.cells (x.queue.getD 0 default) Ac Ac) rfl (Al ?_)
 (repeat refine Ar ?_)
 refine B5k A0 rfl rfl rfl rfl rfl rfl rfl rfl (l:=1) rfl rfl (⟨by omega,by omega,by omega⟩) (Ax (x.queue.drop 1)) (Lf (k:=1) h4) (Al ?_)
 refine Dp A0 rfl rfl rfl rfl rfl rfl rfl rfl rfl rfl rfl (Ax (x.queue.drop 1)) (Eh) (fun _=>B0d _) (by (rw [List.length_drop];omega)) (Al ?_)
 refine Aw (C2f g (x.queue.getD 0 default) Ac) rfl (Al ?_)
 refine ⟨fun h5=>?_,fun h5=>?_⟩<;>conv=>whnf
 ·have h5:capped g (x.queue.getD 0 default)=true:=h5
  refine ⟨by (show 0≤(x.queue.getD 0 default).stamp.epoch∧(x.queue.getD 0 default).stamp.epoch<x.caps.length;omega),?_⟩
  conv=>whnf
  refine D7 (j:=(x.queue.getD 0 default).stamp.epoch) A0 rfl rfl rfl rfl rfl rfl rfl rfl (Gm (x.caps.set (x.queue.getD 0 default).stamp.epoch.toNat true)) (E4 hc rfl) (Al ?_)
  rw [C2w ⟨h1,h2,h3,h4⟩,Fx,if_pos h5]
  refine Ao A0 rfl rfl ?_
  exact Ca
 ·have h5:capped g (x.queue.getD 0 default)=false:=h5
  rw [C2w ⟨h1,h2,h3,h4⟩,Fx,if_neg (by rw [h5];decide)]
  refine Ao A0 rfl rfl ?_
  exact Ca
structure I9 where
 a:Option Addr
 n:Nat
 c:Nat
 b:Nat→Nat
 hb:∀i,b i≤255
 hn:n≤16777216
abbrev I9.v (d:I9):Value:= .slice d.a d.n d.c
abbrev I9.cell (d:I9):A8:= .sl d.n 1 fun i=>[.val (.int .u8 (d.b i))]
abbrev I9.pins (d:I9):List (A8×Value):=[(d.cell,d.v)]
abbrev I9.cur (d:I9) (i h:Int):List A8:=[.val d.v,vi i,vi h]
abbrev HT:World→Prop:=fun _=>True
theorem Rl (d:I9)(i h:Int)(hi:0≤i∧i≤d.n):Iv Tryz.prog HT 140 d.pins (d.cur i h) [] (fun r:Int×Int×Int=>(0≤r.1∧r.1≤d.n)∧0≤r.2.2∧r.2.2≤255) (fun r=>d.cur r.1 r.2.1) (fun r=>[.one (vi r.2.2)]):=by
 have hn:=d.hn
 refine Ol A0 true Tryz.func140 rfl Bu fun B b hH hp=>?_
 conv=>whnf
 first|(refine B9 2 rfl [0,1,2,3,4,5,6,7,8,9,10,11,12] Aa (go A0 true ?_);conv=>whnf)|(refine B9 3 rfl [0,1,2,3,4,5,6,7,8,9] Aa (go A0 true ?_);conv=>whnf)|(refine B9 4 rfl [0,1,2,3,4,5,6,7,8,9,10,11,12,13,14] Aa (go A0 true ?_);conv=>whnf)
 refine B94 rfl rfl rfl rfl Bu (fun r=>go A0 true ?_)
 conv=>whnf
 refine B94 rfl rfl rfl rfl Bu (fun r2=>go A0 true ?_)
 conv=>whnf
 refine C0p rfl rfl rfl rfl (fun r3=>go A0 true ?_)
 conv=>whnf
 refine B72 rfl rfl rfl rfl Bu Bu (fun x0 h0 h1=>go A0 true ?_)
 conv=>whnf
 first|(refine B9 2 rfl [0,1,2,3,4,5,6,7,8,9,10,11,12] Aa (go A0 true ?_);conv=>whnf)|(refine B9 3 rfl [0,1,2,3,4,5,6,7,8,9] Aa (go A0 true ?_);conv=>whnf)|(refine B9 4 rfl [0,1,2,3,4,5,6,7,8,9,10,11,12,13,14] Aa (go A0 true ?_);conv=>whnf)
 refine G5 (fun hlt=>?_) fun hlt=>?_<;>conv=>whnf
 ·first|(refine B9 2 rfl [0,1,2,3,4,5,6,7,8,9,10,11,12] Aa (go A0 true ?_);conv=>whnf)|(refine B9 3 rfl [0,1,2,3,4,5,6,7,8,9] Aa (go A0 true ?_);conv=>whnf)|(refine B9 4 rfl [0,1,2,3,4,5,6,7,8,9,10,11,12,13,14] Aa (go A0 true ?_);conv=>whnf)
  refine B9k A0 hp 0 rfl rfl rfl rfl rfl rfl rfl rfl rfl (⟨hi.1,hlt⟩) (go A0 true ?_)
  conv=>whnf
  refine B72 rfl rfl rfl rfl Bu Bu (fun x1 g0 g1=>go A0 true ?_)
  conv=>whnf
  exact Kk A0 (i+1,_,x1) ⟨⟨by omega,by show i+1≤_;omega⟩,g0,g1⟩ rfl rfl rfl rfl ⟨⟨Wr _ _,by show A8.val _=_;rw [show IntKind.i64.wrap (i+1)=i+1 by rw [IntKind.wrap_i64];omega],rfl,trivial⟩,rfl,trivial⟩
 ·exact Kk A0 (i,_,x0) ⟨hi,h0,h1⟩ rfl rfl rfl rfl Ca
theorem B7q {i:Int}(h: -9223372036854775808≤i∧i≤9223372036854775807):IntKind.i64.wrap i=i:=by rw [IntKind.wrap_i64];omega
theorem B76 (d:I9):A5w Tryz.prog 50 d.pins [.one (.val d.v)] (fun _:Int=>True) (fun h=>d.cur 0 h):=by
 have hn:=d.hn
 refine B79 A0 true Tryz.func50 rfl Bu fun W hp=>?_
 conv=>whnf
 refine Bw A0 true [] (fun j:Nat×Int=>[(3,.c (vi j.2)),(4,.c (vi j.1))]) (fun j=>[]) (fun j=>[]) (fun j=>(j.1:Int)≤d.n) (fun j=>d.n-j.1) ((0,_)) (Int.natCast_nonneg _) ⟨by first|rfl|simp [Dl,ren2,ren1,ren0],by first|rfl|simp [Dl,ren2,ren1,ren0],trivial⟩ trivial trivial Dh Aa (fun j hj=>?_)
 conv=>whnf
 refine G5 (fun h=>?_) fun h=>?_<;>conv=>whnf
 ·refine Z7 (by first|with_reducible rfl|assumption|(simp only [decide_eq_true_eq];omega)|simp) ?_
  conv=>whnf
  refine Z7 (by first|with_reducible rfl|assumption|(simp only [decide_eq_true_eq];omega)|simp) ?_
  conv=>whnf
  refine G5 (fun h2=>?_) fun h2=>?_<;>conv=>whnf
  ·refine B9k A0 hp 0 rfl rfl rfl rfl rfl rfl rfl rfl rfl (⟨by omega,h⟩) (go A0 true ?_)
   conv=>whnf
   refine B72 rfl rfl rfl rfl Bu Bu (fun r r0 r1=>go A0 true ?_)
   conv=>whnf
   refine B5 [] ((j.1+1,r)) ((by show ((j.1+1:Nat):Int)≤_;omega)) (by show d.n-(j.1+1)<_;omega) ⟨rfl,(by show AV.c (vi _)=AV.c (vi _);rw [B7q Ac];rfl),trivial⟩ trivial trivial Aa Dh Aa
  ·exact B93 A0 j.2 trivial rfl rfl rfl Ca
 ·repeat' (first|(refine Ms ?_;conv=>whnf)|(refine Mt ?_;conv=>whnf)|(refine ⟨fun h=>?_,fun h=>?_⟩<;>conv=>whnf)|(refine Kf ?_;conv=>whnf)|fail)
  exact B93 A0 j.2 trivial rfl rfl rfl Ca
theorem E5 (d:I9)(i h n:Int)(hi:0≤i∧i≤d.n)(hn:n≤1099511627776):Iv Tryz.prog HT 101 d.pins (d.cur i h) [.one (vi n)] (fun r:Int×Int×Int=>(0≤r.1∧r.1≤d.n)∧0≤r.2.2∧(n≤0→r.2.2=0)∧(0<n→r.2.2<n)) (fun r=>d.cur r.1 r.2.1) (fun r=>[.one (vi r.2.2)]):=by
 have hdn:=d.hn
 refine Ol A0 false Tryz.func101 rfl Bu fun B b hH hp=>?_
 conv=>whnf
 refine G5 (fun h0=>?_) fun h0=>?_<;>conv=>whnf
 ·exact Kk A0 (i,h,0) ⟨hi,Int.le_refl _,fun _=>rfl,fun h=>by omega⟩ rfl rfl rfl rfl Ca
 ·refine G5 (fun h1=>?_) fun h1=>?_<;>conv=>whnf
  ·refine Fg (Rl d i h hi) hH hp rfl Ca rfl rfl (fun r hr=>go A0 false ?_)
   conv=>whnf
   (repeat refine Ar ?_)
   exact Kk A0 (r.1,r.2.1,r.2.2.tmod n) ⟨hr.1,Int.tmod_nonneg _ hr.2.1,fun h=>by omega,fun h=>Int.tmod_lt_of_pos _ h⟩ rfl rfl rfl rfl Ca
  ·refine Fg (Rl d i h hi) hH hp rfl Ca rfl rfl (fun r hr=>go A0 false ?_)
   conv=>whnf
   refine Fg (Rl d r.1 r.2.1 hr.1) hH hp rfl Ca rfl rfl (fun r2 hr2=>go A0 false ?_)
   conv=>whnf
   refine Fg (Rl d r2.1 r2.2.1 hr2.1) hH hp rfl Ca rfl rfl (fun r3 hr3=>go A0 false ?_)
   conv=>whnf
   refine Fg (Rl d r3.1 r3.2.1 hr3.1) hH hp rfl Ca rfl rfl (fun r4 hr4=>go A0 false ?_)
   conv=>whnf
   (repeat refine Ar ?_)
   exact Kk A0 (r4.1,r4.2.1,(r.2.2 * 16777216+r2.2.2 * 65536+r3.2.2 * 256+r4.2.2).tmod n) ⟨hr4.1,Int.tmod_nonneg _ Ac,fun h=>by omega,fun h=>Int.tmod_lt_of_pos _ h⟩ rfl rfl rfl rfl Ca
theorem B54 (d:I9)(i h n:Int)(hi:0≤i∧i≤d.n)(hn:n≤1099511627776):Iv Tryz.prog HT 102 d.pins (d.cur i h) [.one (vi n)] (fun r:Int×Int×Bool=>0≤r.1∧r.1≤d.n) (fun r=>d.cur r.1 r.2.1) (fun r=>[.one (vb r.2.2)]):=by
 refine Ol A0 false Tryz.func102 rfl Bu fun B b hH hp=>?_
 conv=>whnf
 refine Fg (E5 d i h n hi hn) hH hp rfl Ca rfl rfl (fun r hr=>go A0 false ?_)
 conv=>whnf
 exact Kk A0 (r.1,r.2.1,_) hr.1 rfl rfl rfl rfl Ca
theorem A57 (d:I9)(i h:Int)(xs:List Int)(hi:0≤i∧i≤d.n)(hx:0<xs.length∧xs.length≤16777216):Iv Tryz.prog HT 117 d.pins (d.cur i h) [.one (F1 xs)] (fun r:Int×Int×Nat=>(0≤r.1∧r.1≤d.n)∧r.2.2<xs.length) (fun r=>d.cur r.1 r.2.1) (fun r=>[.one (vi (xs.getD r.2.2 0))]):=by
 refine Ol A0 false Tryz.func117 rfl Bu fun B b hH hp=>?_
 conv=>whnf
 refine Fg (E5 d i h xs.length hi Ac) hH hp rfl Ca rfl rfl (fun r hr=>go A0 false ?_)
 conv=>whnf
 (repeat refine Ar ?_)
 exact Kk A0 (r.1,r.2.1,r.2.2.toNat) ⟨hr.1,by have:=hr.2.2.2 Ac;show r.2.2.toNat<_;omega⟩ rfl rfl rfl rfl Ca
theorem A46 (n lo hi:Int):B0 Tryz.prog 103 [.one (vi n),.one (vi lo),.one (vi hi)] [.one (vi (En n lo hi))]:=by
 refine Ay A0 false Tryz.func103 rfl Bu fun W=>?_
 conv=>whnf
 repeat' (first|(refine Ms ?_;conv=>whnf)|(refine Mt ?_;conv=>whnf)|(refine ⟨fun h=>?_,fun h=>?_⟩<;>conv=>whnf)|(refine Ao A0 rfl rfl ⟨?_,trivial⟩;conv=>whnf)|(refine Kf ?_;conv=>whnf)|fail)
 all_goals (refine congrArg vi ?_;simp only [decide_eq_true_eq,decide_eq_false_iff_not] at *;unfold En;repeat' split)<;>first|contradiction|omega
end Go.Proofs.YtonodkjaoalfjaaGreat
