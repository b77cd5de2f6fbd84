/- Part 35 of the proof that each of the laws FnOneWorker returns true for every input. No conditions. -/
import Derived.Test.YtonodkjaoalfjaaGreatP27
import Derived.Test.YtonodkjaoalfjaaGreatP10
import Derived.Test.YtonodkjaoalfjaaGreatP8
import Derived.Test.YtonodkjaoalfjaaGreatP9
import Derived.Test.YtonodkjaoalfjaaGreatP33

set_option linter.unusedSimpArgs false
set_option linter.unusedVariables false
set_option maxRecDepth 100000
namespace Go.Proofs.YtonodkjaoalfjaaGreat
open Go.Sx
theorem Un {l:C2}{r:A5}(h:¬ A2s l r):Dn l r=(l,false):=if_neg h
theorem B49 {l:C2}{r:A5}(h:A2s l r):Dn l r=(⟨l.cap,l.queue++[r],l.credits-1,l.back,l.sent+1,l.got⟩,true):=if_pos h
theorem A2g {l:C2}(h:¬ (Gy l∧0<l.queue.length)):At l=(l,default,false):=if_neg h
theorem A5j {l:C2}(h:Gy l∧0<l.queue.length):At l=(⟨l.cap,l.queue.drop 1,l.credits,l.back+1,l.sent,l.got+1⟩,l.queue.getD 0 default,true):=if_pos h
theorem A78 {l:C2}(h:¬ (Gy l∧l.back≠0)):Bn l=(l,false):=if_neg h
theorem B2u {l:C2}(h:Gy l∧l.back≠0):Bn l=(⟨l.cap,l.queue,l.credits+1,l.back-1,l.sent,l.got⟩,true):=if_pos h
set_option maxHeartbeats 1000000 in
theorem Wg (l:C2)(r:A5)(hl:l.w≤16777216)(og2:l.got≤9223372036854775807):B0 Tryz.prog 199 [.agg l.c,.agg r.c] [.agg (Dn l r).1.c,.one (vb (Dn l r).2)]:=by
 have hq:l.queue.length≤16777216:=hl
 refine Ay A0 false Tryz.func199 rfl Bu fun W=>?_
 conv=>whnf
 refine B4 (Kh l Ac) rfl (Al ?_)
 refine Aw (Nf l Ac og2) rfl (Al ?_)
 refine ⟨fun h1=>?_,fun h1=>?_⟩<;>conv=>whnf
 ·have h1:Nm l=false:=by simpa using h1
  repeat refine Bi ?_
  rw [Un (fun p=>absurd p.1 (of_decide_eq_false h1))]
  refine Ao A0 rfl rfl ?_
  exact Ca
 have h1:Gy l:=of_decide_eq_true (show Nm l=true by simpa using h1)
 obtain ⟨⟨n1,n2,n3,n4,n5,n6,n7⟩,nA⟩:=id h1
 repeat refine Bi ?_
 refine Aw (Hl r) rfl (Al ?_)
 repeat refine Bi ?_
 refine ⟨fun h2=>?_,fun h2=>?_⟩<;>conv=>whnf
 ·have h2:F9 r=false:=by simpa using h2
  repeat refine Bi ?_
  rw [Un (fun p=>absurd p.2.1 (of_decide_eq_false h2))]
  refine Ao A0 rfl rfl ?_
  exact Ca
 have h2:Ja r:=of_decide_eq_true (show F9 r=true by simpa using h2)
 repeat refine Bi ?_
 refine ⟨fun h3=>have h3:=eq_of_beq h3;?_,fun h3=>have h3:=beq_eq_false_iff_ne.1 h3;?_⟩<;>conv=>whnf
 ·repeat refine Bi ?_
  rw [Un (fun p=>p.2.2.1 h3)]
  refine Ao A0 rfl rfl ?_
  exact Ca
 repeat refine Bi ?_
 refine ⟨fun h4=>?_,fun h4=>?_⟩<;>conv=>whnf
 ·have h4:l.sent=1000000000:=eq_of_beq h4
  repeat refine Bi ?_
  rw [Un (fun p=>p.2.2.2 h4)]
  refine Ao A0 rfl rfl ?_
  exact Ca
 have h4:l.sent≠1000000000:=beq_eq_false_iff_ne.1 h4
 repeat refine Bi ?_
 refine Dp A0 rfl rfl rfl rfl rfl rfl rfl rfl rfl rfl rfl (Ax (l.queue++[r])) (Bf rfl) Kc Ac (Al ?_)
 (repeat refine Ar ?_)
 rw [B49 ⟨h1,h2,h3,h4⟩]
 refine Ao A0 rfl rfl ?_
 exact Ca
set_option maxHeartbeats 1000000 in
theorem A09 (l:C2)(hl:l.w≤16777216)(og2:l.got≤9223372036854775807):B0 Tryz.prog 202 [.agg l.c] [.agg (At l).1.c,.agg (At l).2.1.c,.one (vb (At l).2.2)]:=by
 have hq:l.queue.length≤16777216:=hl
 refine Ay A0 false Tryz.func202 rfl Bu fun W=>?_
 conv=>whnf
 refine B4 (Kh l Ac) rfl (Al ?_)
 refine Aw (Nf l Ac og2) rfl (Al ?_)
 refine ⟨fun h1=>?_,fun h1=>?_⟩<;>conv=>whnf
 ·have h1:Nm l=false:=by simpa using h1
  repeat refine Bi ?_
  rw [A2g (fun p=>absurd p.1 (of_decide_eq_false h1))]
  refine Ao A0 rfl rfl ?_
  exact Ca
 have h1:Gy l:=of_decide_eq_true (show Nm l=true by simpa using h1)
 obtain ⟨⟨n1,n2,n3,n4,n5,n6,n7⟩,nA⟩:=id h1
 repeat refine Bi ?_
 refine ⟨fun h2=>have h2:=eq_of_beq h2;?_,fun h2=>have h2:=beq_eq_false_iff_ne.1 h2;?_⟩<;>conv=>whnf
 ·repeat refine Bi ?_
  rw [A2g (fun p=>by omega)]
  refine Ao A0 rfl rfl ?_
  exact Ca
 have h2:0<l.queue.length:=by omega
 repeat refine Bi ?_
 (repeat refine Ar ?_)
 refine B5k A0 rfl rfl rfl rfl rfl rfl rfl rfl (l:=1) rfl rfl (⟨by omega,by omega,by omega⟩) (Ax (l.queue.drop 1)) (Lf (k:=1) h2) (Al ?_)
 (repeat refine Ar ?_)
 refine Jc rfl ?_
 refine Ct A0 false 1 rfl rfl Aa rfl (Af F3) ?_
 refine Do (s':=?_) 0 rfl Aa ?_ ?_
 rotate_left
 refine go A0 false ?_
 conv=>whnf
 (repeat refine Ar ?_)
 exact Bd
 refine Cm [2,5] Aa ⟨?_,?_,trivial⟩
 focus
  refine go A0 false ?_
  conv=>whnf
  (repeat refine Ar ?_)
  refine Cu ?_
  refine Cm [3,5] Aa ⟨?_,?_,trivial⟩
  focus
   refine go A0 false ?_
   conv=>whnf
   (repeat refine Ar ?_)
   refine Cu ?_
   refine Cm [4,5] Aa ⟨?_,?_,trivial⟩
   focus
    refine go A0 false ?_
    conv=>whnf
    (repeat refine Ar ?_)
    refine Cu ?_
    refine Cm [5] Aa ⟨?_,trivial⟩
    refine go A0 false ?_
    conv=>whnf
    (repeat refine Ar ?_)
    refine Cu ?_
    refine Cm [6] Aa ⟨?_,trivial⟩
    refine go A0 false ?_
    conv=>whnf
    (repeat refine Ar ?_)
    refine Cu ?_
    refine Ct A0 false 7 rfl rfl Aa rfl (Af F3) ?_
    refine Hu Aa (Al ?_)
   rotate_left 1
   focus
    refine go A0 false ?_
    conv=>whnf
    (repeat refine Ar ?_)
    refine Cu ?_
    refine Do (s':=?_) 4 rfl Aa ?_ ?_
    rotate_left
    refine go A0 false ?_
    conv=>whnf
    (repeat refine Ar ?_)
    exact Bd
    refine Cm [6] Aa ⟨?_,trivial⟩
    refine go A0 false ?_
    conv=>whnf
    (repeat refine Ar ?_)
    refine Cu ?_
    refine Ct A0 false 7 rfl rfl Aa rfl (Af F3) ?_
    refine Hu Aa (Al ?_)
  rotate_left 2
  focus
   refine go A0 false ?_
   conv=>whnf
   (repeat refine Ar ?_)
   refine Cu ?_
   refine Do (s':=?_) 3 rfl Aa ?_ ?_
   rotate_left
   refine go A0 false ?_
   conv=>whnf
   (repeat refine Ar ?_)
   exact Bd
   refine Do (s':=?_) 4 rfl Aa ?_ ?_
   rotate_left
   refine go A0 false ?_
   conv=>whnf
   (repeat refine Ar ?_)
   exact Bd
   refine Cm [6] Aa ⟨?_,trivial⟩
   refine go A0 false ?_
   conv=>whnf
   (repeat refine Ar ?_)
   refine Cu ?_
   refine Ct A0 false 7 rfl rfl Aa rfl (Af F3) ?_
   refine Hu Aa (Al ?_)
 rotate_left 3
 focus
  refine go A0 false ?_
  conv=>whnf
  (repeat refine Ar ?_)
  refine Cu ?_
  refine Do (s':=?_) 2 rfl Aa ?_ ?_
  rotate_left
  refine go A0 false ?_
  conv=>whnf
  (repeat refine Ar ?_)
  exact Bd
  refine Do (s':=?_) 3 rfl Aa ?_ ?_
  rotate_left
  refine go A0 false ?_
  conv=>whnf
  (repeat refine Ar ?_)
  exact Bd
  refine Do (s':=?_) 4 rfl Aa ?_ ?_
  rotate_left
  refine go A0 false ?_
  conv=>whnf
  (repeat refine Ar ?_)
  exact Bd
  refine Cm [6] Aa ⟨?_,trivial⟩
  refine go A0 false ?_
  conv=>whnf
  (repeat refine Ar ?_)
  refine Cu ?_
  refine Ct A0 false 7 rfl rfl Aa rfl (Af F3) ?_
  refine Hu Aa (Al ?_)
 all_goals
  rw [A5j ⟨h1,h2⟩]
  refine Ao A0 rfl rfl ?_
  exact Ca
theorem W7 (l:C2)(hl:l.w≤16777216)(og2:l.got≤9223372036854775807):B0 Tryz.prog 204 [.agg l.c] [.agg (Bn l).1.c,.one (vb (Bn l).2)]:=by
 refine Ay A0 false Tryz.func204 rfl Bu fun W=>?_
 conv=>whnf
 refine B4 (Kh l Ac) rfl (Al ?_)
 refine Aw (Nf l Ac og2) rfl (Al ?_)
 refine ⟨fun h1=>?_,fun h1=>?_⟩<;>conv=>whnf
 ·have h1:Nm l=false:=by simpa using h1
  repeat refine Bi ?_
  rw [A78 (fun p=>absurd p.1 (of_decide_eq_false h1))]
  refine Ao A0 rfl rfl ?_
  exact Ca
 have h1:Gy l:=of_decide_eq_true (show Nm l=true by simpa using h1)
 obtain ⟨⟨n1,n2,n3,n4,n5,n6,n7⟩,nA⟩:=id h1
 repeat refine Bi ?_
 refine ⟨fun h2=>have h2:=eq_of_beq h2;?_,fun h2=>have h2:=beq_eq_false_iff_ne.1 h2;?_⟩<;>conv=>whnf
 ·repeat refine Bi ?_
  rw [A78 (fun p=>p.2 h2)]
  refine Ao A0 rfl rfl ?_
  exact Ca
 repeat refine Bi ?_
 (repeat refine Ar ?_)
 rw [B2u ⟨h1,h2⟩]
 refine Ao A0 rfl rfl ?_
 exact Ca
theorem Q6 (x:Ab):x.queue.length≤x.w∧x.staged.length≤x.w∧x.inputs.length≤x.w∧x.cells.length≤x.w∧x.sums.length≤x.w∧x.black.length≤x.w∧x.caps.length≤x.w:=by simp only [Ab.w];omega
theorem A3p (x:Ab)(r:A5)(h:x.w≤16000000):B0 Tryz.prog 198 [.agg x.c,.agg r.c] [.agg (kept x r).c]:=by
 have hw:=Q6 x
 refine Ay A0 false Tryz.func198 rfl Bu fun W=>?_
 conv=>whnf
 refine B4 (Gi x Ac) rfl (Al ?_)
 refine Dp A0 rfl rfl rfl rfl rfl rfl rfl rfl rfl rfl rfl (Ax (x.queue++[r])) (Bf rfl) Kc Ac (Al ?_)
 refine Ao A0 rfl rfl ?_
 exact Ca
theorem A43 {w:Ab}{e:Int}(h:¬ (0≤e∧e<w.sums.length)):Cs w e=w:=if_neg h
theorem A12 {w:Ab}{e:Int}(h:0≤e∧e<w.sums.length):Cs w e=Ib w e 1:=if_pos h
theorem A07 (x:Ab)(e:Int)(h:x.w≤16000000)(hS:Ym x.sums):B0 Tryz.prog 200 [.agg x.c,.one (vi e)] [.agg (Cs x e).c]:=by
 have hw:=Q6 x
 refine Ay A0 false Tryz.func200 rfl Bu fun W=>?_
 conv=>whnf
 refine B4 (Gi x Ac) rfl (Al ?_)
 (repeat refine Ar ?_)
 refine Aw (He e 0 (x.sums.length-1)) rfl (Al ?_)
 refine ⟨fun h1=>?_,fun h1=>?_⟩<;>conv=>whnf
 ·have hb:=Go.Sx.Am.1 h1
  have hk:e.toNat<x.sums.length:=by omega
  have hs:Jy (x.sums.getD e.toNat default):=hS _ (Aq hk)
  obtain ⟨s1,s2⟩:=hs
  repeat refine Bi ?_
  (repeat refine Ar ?_)
  refine D7 (j:=e) A0 rfl rfl rfl rfl rfl rfl rfl rfl (F1 (x.sums.set e.toNat (x.sums.getD e.toNat default+1))) (E4 hk rfl) (Al ?_)
  rw [A12 ⟨by omega,by omega⟩]
  refine Ao A0 rfl rfl ?_
  exact Ca
 ·have hb:=Go.Sx.Az.1 h1
  repeat refine Bi ?_
  rw [A43 (fun p=>hb ⟨by omega,by omega⟩)]
  refine Ao A0 rfl rfl ?_
  exact Ca
theorem A4p {w:Ab}{r:A5}(h1:w.sums.length=4)(h2:w.black.length=4)(he:0≤r.stamp.epoch∧r.stamp.epoch≤3):Cj w r=N2 (Ib (kept w r) r.stamp.epoch (-1)) r.stamp.epoch:=by
 unfold Cj
 rw [if_pos ⟨by omega,by omega,by omega⟩]
set_option maxHeartbeats 1000000 in
theorem A06 (x:Ab)(r:A5)(h:x.w≤8000000)(hS:Ym x.sums)(h1:x.sums.length=4)(h2:x.black.length=4)(he:0≤r.stamp.epoch∧r.stamp.epoch≤3):B0 Tryz.prog 203 [.agg x.c,.agg r.c] [.agg (Cj x r).c]:=by
 have hw:=Q6 x
 have hk:r.stamp.epoch.toNat<x.sums.length:=by omega
 have hk2:r.stamp.epoch.toNat<x.black.length:=by omega
 have hs:Jy (x.sums.getD r.stamp.epoch.toNat default):=hS _ (Aq hk)
 obtain ⟨s1,s2⟩:=hs
 have g1:(kept x r).sums.length=4:=h1
 have g2:(kept x r).black.length=4:=h2
 have g3:(kept x r).sums.getD r.stamp.epoch.toNat default=x.sums.getD r.stamp.epoch.toNat default:=rfl
 have hm:(if (x.black.length:Int)<x.sums.length then (x.black.length:Int) else x.sums.length)=4:=by split<;>omega
 refine Ay A0 false Tryz.func203 rfl Bu fun W=>?_
 conv=>whnf
 refine B4 (A3p x r Ac) rfl (Al ?_)
 rw [hm]
 (repeat refine Ar ?_)
 refine Aw (He r.stamp.epoch 0 3) rfl (Al ?_)
 rw [show Eg r.stamp.epoch 0 3=true from Go.Sx.Am.2 he]
 repeat refine Bi ?_
 (repeat refine Ar ?_)
 refine D7 (j:=r.stamp.epoch) A0 rfl rfl rfl rfl rfl rfl rfl rfl (F1 (x.sums.set r.stamp.epoch.toNat (x.sums.getD r.stamp.epoch.toNat default+ -1))) (E4 hk rfl) (Al ?_)
 (repeat refine Ar ?_)
 refine D7 (j:=r.stamp.epoch) A0 rfl rfl rfl rfl rfl rfl rfl rfl (Gm (x.black.set r.stamp.epoch.toNat true)) (E4 hk2 rfl) (Al ?_)
 rw [A4p h1 h2 he]
 refine Ao A0 rfl rfl ?_
 exact Ca
theorem A5l {w:Ab}(h:¬ 0<w.staged.length):Pk w=(w,default,false):=if_neg h
theorem Sf {w:Ab}(h:0<w.staged.length):Pk w=(Bt w,w.staged.getD 0 default,true):=if_pos h
theorem A1a (x:Ab)(h:x.w≤16000000):B0 Tryz.prog 197 [.agg x.c] [.agg (Pk x).1.c,.agg (Pk x).2.1.c,.one (vb (Pk x).2.2)]:=by
 have hw:=Q6 x
 refine Ay A0 false Tryz.func197 rfl Bu fun W=>?_
 conv=>whnf
 refine B4 (Gi x Ac) rfl (Al ?_)
 refine ⟨fun h1=>have h1:=eq_of_beq h1;?_,fun h1=>have h1:=beq_eq_false_iff_ne.1 h1;?_⟩<;>conv=>whnf
 ·repeat refine Bi ?_
  rw [A5l Ac]
  refine Ao A0 rfl rfl ?_
  exact Ca
 ·have h1:0<x.staged.length:=by omega
  repeat refine Bi ?_
  (repeat refine Ar ?_)
  refine B5k A0 rfl rfl rfl rfl rfl rfl rfl rfl (l:=1) rfl rfl (⟨by omega,by omega,by omega⟩) (Ax (x.staged.drop 1)) (Lf (k:=1) h1) (Al ?_)
  refine Jc rfl ?_
  refine Ct A0 false 1 rfl rfl Aa rfl (Af F3) ?_
  refine Do (s':=?_) 0 rfl Aa ?_ ?_
  rotate_left
  refine go A0 false ?_
  conv=>whnf
  (repeat refine Ar ?_)
  exact Bd
  refine Cm [2,5] Aa ⟨?_,?_,trivial⟩
  focus
   refine go A0 false ?_
   conv=>whnf
   (repeat refine Ar ?_)
   refine Cu ?_
   refine Cm [3,5] Aa ⟨?_,?_,trivial⟩
   focus
    refine go A0 false ?_
    conv=>whnf
    (repeat refine Ar ?_)
    refine Cu ?_
    refine Cm [4,5] Aa ⟨?_,?_,trivial⟩
    focus
     refine go A0 false ?_
     conv=>whnf
     (repeat refine Ar ?_)
     refine Cu ?_
     refine Cm [5] Aa ⟨?_,trivial⟩
     refine go A0 false ?_
     conv=>whnf
     (repeat refine Ar ?_)
     refine Cu ?_
     refine Cm [6] Aa ⟨?_,trivial⟩
     refine go A0 false ?_
     conv=>whnf
     (repeat refine Ar ?_)
     refine Cu ?_
     refine Ct A0 false 7 rfl rfl Aa rfl (Af F3) ?_
     refine Hu Aa (Al ?_)
    rotate_left 1
    focus
     refine go A0 false ?_
     conv=>whnf
     (repeat refine Ar ?_)
     refine Cu ?_
     refine Do (s':=?_) 4 rfl Aa ?_ ?_
     rotate_left
     refine go A0 false ?_
     conv=>whnf
     (repeat refine Ar ?_)
     exact Bd
     refine Cm [6] Aa ⟨?_,trivial⟩
     refine go A0 false ?_
     conv=>whnf
     (repeat refine Ar ?_)
     refine Cu ?_
     refine Ct A0 false 7 rfl rfl Aa rfl (Af F3) ?_
     refine Hu Aa (Al ?_)
   rotate_left 2
   focus
    refine go A0 false ?_
    conv=>whnf
    (repeat refine Ar ?_)
    refine Cu ?_
    refine Do (s':=?_) 3 rfl Aa ?_ ?_
    rotate_left
    refine go A0 false ?_
    conv=>whnf
    (repeat refine Ar ?_)
    exact Bd
    refine Do (s':=?_) 4 rfl Aa ?_ ?_
    rotate_left
    refine go A0 false ?_
    conv=>whnf
    (repeat refine Ar ?_)
    exact Bd
    refine Cm [6] Aa ⟨?_,trivial⟩
    refine go A0 false ?_
    conv=>whnf
    (repeat refine Ar ?_)
    refine Cu ?_
    refine Ct A0 false 7 rfl rfl Aa rfl (Af F3) ?_
    refine Hu Aa (Al ?_)
  rotate_left 3
  focus
   refine go A0 false ?_
   conv=>whnf
   (repeat refine Ar ?_)
   refine Cu ?_
   refine Do (s':=?_) 2 rfl Aa ?_ ?_
   rotate_left
   refine go A0 false ?_
   conv=>whnf
   (repeat refine Ar ?_)
   exact Bd
   refine Do (s':=?_) 3 rfl Aa ?_ ?_
   rotate_left
   refine go A0 false ?_
   conv=>whnf
   (repeat refine Ar ?_)
   exact Bd
   refine Do (s':=?_) 4 rfl Aa ?_ ?_
   rotate_left
   refine go A0 false ?_
   conv=>whnf
   (repeat refine Ar ?_)
   exact Bd
   refine Cm [6] Aa ⟨?_,trivial⟩
   refine go A0 false ?_
   conv=>whnf
   (repeat refine Ar ?_)
   refine Cu ?_
   refine Ct A0 false 7 rfl rfl Aa rfl (Af F3) ?_
   refine Hu Aa (Al ?_)
  all_goals
   rw [Sf h1]
   refine Ao A0 rfl rfl ?_
   exact Ca
theorem Ov {g:Ad}{w:Ab}(h:¬ Sl g w):Dg g w=(w,false):=if_neg h
theorem B0j {g:Ad}{w:Ab}(h:Sl g w):Dg g w=(Jz w,true):=if_pos h
set_option maxHeartbeats 1000000 in
theorem Qc (g:Ad)(x:Ab)(hg:g.w≤16777216)(h:x.w≤16000000):B0 Tryz.prog 196 [.agg g.c,.agg x.c] [.agg (Dg g x).1.c,.one (vb (Dg g x).2)]:=by
 have hw:=Q6 x
 refine Ay A0 false Tryz.func196 rfl Bu fun W=>?_
 conv=>whnf
 refine B4 (Gi x Ac) rfl (Al ?_)
 refine Aw (Ii g Ac) rfl (Al ?_)
 refine ⟨fun h1=>?_,fun h1=>?_⟩<;>conv=>whnf
 ·have h1:Ga g=false:=by simpa using h1
  repeat refine Bi ?_
  rw [Ov (fun p=>absurd p.1 (of_decide_eq_false h1))]
  refine Ao A0 rfl rfl ?_
  exact Ca
 have h1:E7 g:=of_decide_eq_true (show Ga g=true by simpa using h1)
 repeat refine Bi ?_
 refine Aw (Ni g x Ac Ac) rfl (Al ?_)
 repeat refine Bi ?_
 refine ⟨fun h2=>?_,fun h2=>?_⟩<;>conv=>whnf
 ·have h2:Lg g.nodes.length x=false:=by simpa using h2
  repeat refine Bi ?_
  rw [Ov (fun p=>absurd p.2.1 (of_decide_eq_false h2))]
  refine Ao A0 rfl rfl ?_
  exact Ca
 have h2:D8 g.nodes.length x:=of_decide_eq_true (show Lg g.nodes.length x=true by simpa using h2)
 repeat refine Bi ?_
 refine ⟨fun h3=>?_,fun h3=>?_⟩<;>conv=>whnf
 ·have h3:¬ x.staged.length=0:=by have:=of_decide_eq_true h3;omega
  repeat refine Bi ?_
  rw [Ov (fun p=>h3 p.2.2.1)]
  refine Ao A0 rfl rfl ?_
  exact Ca
 have h3:x.staged.length=0:=by have:=of_decide_eq_false h3;omega
 repeat refine Bi ?_
 refine ⟨fun h4=>?_,fun h4=>?_⟩<;>conv=>whnf
 ·have h4:¬ x.queue.length=0:=by have:=of_decide_eq_true h4;omega
  repeat refine Bi ?_
  rw [Ov (fun p=>h4 p.2.2.2.1)]
  refine Ao A0 rfl rfl ?_
  exact Ca
 have h4:x.queue.length=0:=by have:=of_decide_eq_false h4;omega
 repeat refine Bi ?_
 refine ⟨fun h5=>have h5:=eq_of_beq h5;?_,fun h5=>have h5:=beq_eq_false_iff_ne.1 h5;?_⟩<;>conv=>whnf
 ·repeat refine Bi ?_
  rw [Ov (fun p=>by have:=p.2.2.2.2;omega)]
  refine Ao A0 rfl rfl ?_
  exact Ca
 have h5:0<x.inputs.length:=by omega
 repeat refine Bi ?_
 first|(refine B9 4 rfl [0,1,2,3,4,5,6,7,8,9] Aa (Al ?_))
 (repeat refine Ar ?_)
 refine Dp A0 rfl rfl rfl rfl rfl rfl rfl rfl rfl rfl rfl (Ax (x.queue++[x.inputs.getD 0 default])) (Bf rfl) Kc Ac (Al ?_)
 (repeat refine Ar ?_)
 refine B5k A0 rfl rfl rfl rfl rfl rfl rfl rfl (l:=1) rfl rfl (⟨by omega,by omega,by omega⟩) (Ax (x.inputs.drop 1)) (Lf (k:=1) h5) (Al ?_)
 rw [B0j ⟨h1,h2,h3,h4,h5⟩]
 refine Ao A0 rfl rfl ?_
 exact Ca
theorem Ur {g:Ad}{w:Ab}(h:¬ V5 g w):Fk g w=(w,false):=if_neg h
theorem A5o {g:Ad}{w:Ab}(h:V5 g w):Fk g w=(Fx g w,true):=if_pos h
set_option maxHeartbeats 1000000 in
theorem Wh (g:Ad)(x:Ab)(hg:g.w≤16777216)(h:x.w≤16000000):B0 Tryz.prog 195 [.agg g.c,.agg x.c] [.agg (Fk g x).1.c,.one (vb (Fk g x).2)]:=by
 have hw:=Q6 x
 refine Ay A0 false Tryz.func195 rfl Bu fun W=>?_
 conv=>whnf
 refine B4 (Gi x Ac) rfl (Al ?_)
 refine Aw (Ii g Ac) rfl (Al ?_)
 refine ⟨fun h1=>?_,fun h1=>?_⟩<;>conv=>whnf
 ·have h1:Ga g=false:=by simpa using h1
  repeat refine Bi ?_
  rw [Ur (fun p=>absurd p.1 (of_decide_eq_false h1))]
  refine Ao A0 rfl rfl ?_
  exact Ca
 have h1:E7 g:=of_decide_eq_true (show Ga g=true by simpa using h1)
 repeat refine Bi ?_
 refine Aw (Ni g x Ac Ac) rfl (Al ?_)
 repeat refine Bi ?_
 refine ⟨fun h2=>?_,fun h2=>?_⟩<;>conv=>whnf
 ·have h2:Lg g.nodes.length x=false:=by simpa using h2
  repeat refine Bi ?_
  rw [Ur (fun p=>absurd p.2.1 (of_decide_eq_false h2))]
  refine Ao A0 rfl rfl ?_
  exact Ca
 have h2:D8 g.nodes.length x:=of_decide_eq_true (show Lg g.nodes.length x=true by simpa using h2)
 repeat refine Bi ?_
 refine ⟨fun h3=>?_,fun h3=>?_⟩<;>conv=>whnf
 ·have h3:¬ x.staged.length=0:=by have:=of_decide_eq_true h3;omega
  repeat refine Bi ?_
  rw [Ur (fun p=>h3 p.2.2.1)]
  refine Ao A0 rfl rfl ?_
  exact Ca
 have h3:x.staged.length=0:=by have:=of_decide_eq_false h3;omega
 repeat refine Bi ?_
 refine ⟨fun h4=>have h4:=eq_of_beq h4;?_,fun h4=>have h4:=beq_eq_false_iff_ne.1 h4;?_⟩<;>conv=>whnf
 ·repeat refine Bi ?_
  rw [Ur (fun p=>by have:=p.2.2.2;omega)]
  refine Ao A0 rfl rfl ?_
  exact Ca
 have h4:0<x.queue.length:=by omega
 have hR:=h2.1.1 _ (Aq (d:=default) h4)
 have hE:=hR.1.2.1
 have hcl:x.caps.length=4:=h2.2.1.2.2
 have hc:(x.queue.getD 0 default).stamp.epoch.toNat<x.caps.length:=by have:=h2.2.1.2.2;omega
 repeat refine Bi ?_
 (repeat refine Ar ?_)
 refine B5k A0 rfl rfl rfl rfl rfl rfl rfl rfl (l:=1) rfl rfl (⟨by omega,by omega,by omega⟩) (Ax (x.queue.drop 1)) (Lf (k:=1) h4) (Al ?_)
 refine B4 (A6q g x.cells (x.queue.getD 0 default) hg Ac) rfl (Al ?_)
 refine Aw (A6m g (x.queue.getD 0 default) hg) rfl (Al ?_)
 refine ⟨fun h5=>?_,fun h5=>?_⟩<;>conv=>whnf
 ·have h5:capped g (x.queue.getD 0 default)=true:=h5
  refine ⟨by (show 0≤(x.queue.getD 0 default).stamp.epoch∧(x.queue.getD 0 default).stamp.epoch<x.caps.length;omega),?_⟩
  conv=>whnf
  refine D7 (j:=(x.queue.getD 0 default).stamp.epoch) A0 rfl rfl rfl rfl rfl rfl rfl rfl (Gm (x.caps.set (x.queue.getD 0 default).stamp.epoch.toNat true)) (E4 hc rfl) (Al ?_)
  rw [A5o ⟨h1,h2,h3,h4⟩,Fx,if_pos h5]
  refine Ao A0 rfl rfl ?_
  exact Ca
 ·have h5:capped g (x.queue.getD 0 default)=false:=h5
  rw [A5o ⟨h1,h2,h3,h4⟩,Fx,if_neg (by rw [h5];decide)]
  refine Ao A0 rfl rfl ?_
  exact Ca
end Go.Proofs.YtonodkjaoalfjaaGreat
