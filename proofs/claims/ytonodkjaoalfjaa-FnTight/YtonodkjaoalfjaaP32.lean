/- Part 32 of the proof that each of the laws FnTight returns true for every input. No conditions. -/
import Derived.Test.YtonodkjaoalfjaaP31
import Derived.Test.YtonodkjaoalfjaaP5
import Derived.Test.YtonodkjaoalfjaaP6
import Derived.Test.YtonodkjaoalfjaaP30
import Derived.Test.YtonodkjaoalfjaaP8
import Derived.Test.YtonodkjaoalfjaaP10

set_option linter.unusedSimpArgs false
set_option linter.unusedVariables false
set_option maxRecDepth 100000
namespace Go.Proofs.Ytonodkjaoalfjaa
open Go.Sx
theorem A23 {c:A3}{w:Int}(h:Ar c)(h2:(Br c w).2=true)(h3:As c w≠w):Aq (Br c w).1=decide (Gu (Tz c w)):=by
 rw [Kp h,if_pos ⟨h2,h3⟩]
theorem A0k {c:A3}{w:Int}(h:Ar c)(h3:As c w=w):Aq (Br c w).1=true:=by
 rw [Kp h,if_neg (fun p=>p.2 h3)]
set_option maxHeartbeats 8000000 in
theorem A3u (x:A3)(w:Int)(h:x.w≤8000000)(og:Gs .i64 x.graph.workers):Dq Try.prog (fun _=>True) 40 [] (rc x) [.one (vi w)] (fun _:Unit=>True) (fun _=>rc (Br x w).1) (fun _=>[.one (vb (Br x w).2)]):=by
 have h:x.w≤16000000:=by omega
 refine Ex A0 false Try.func40 rfl Cb fun B b hH hp=>?_
 conv=>whnf
 refine Cm (Xe x w h) hH hp rfl C1 rfl rfl (fun r hr=>go A0 false ?_)
 conv=>whnf
 refine ⟨fun h1=>?_,fun h1=>?_⟩<;>conv=>whnf
 ·have h1:¬ Fi x w:=of_decide_eq_false (by simpa using h1)
  repeat refine Bg ?_
  rw [Ot (fun p=>h1 p.1)]
  exact C9 A0 () trivial rfl rfl rfl rfl C1
 have h1:Fi x w:=of_decide_eq_true (show decide (Fi x w)=true by simpa using h1)
 have hC:=h1.1
 have hb:=h1.2
 have hk:w.toNat<x.workers.length:=by omega
 have hw:=A3.worker_le h hk
 have hWP:=hC.2.1 _ (B9 (d:=default) hk)
 have hlw:=Pj (x.workers.getD w.toNat default)
 repeat refine Bg ?_
 refine Gk A0 rfl rfl rfl rfl rfl rfl (jn:=w.toNat) rfl rfl rfl (fun v=>go A0 false ?_)
 conv=>whnf
 repeat refine Bg ?_
 refine ⟨fun h2=>have h2:=eq_of_beq h2;?_,fun h2=>have h2:=beq_eq_false_iff_ne.1 h2;?_⟩<;>conv=>whnf
 ·repeat refine Bg ?_
  rw [Ot (fun p=>by have:=p.2;simp only [A9] at this;omega)]
  refine Fb Try.prog 7 (w.toNat) [(1,11)] (Ap x.workers) hk rfl rfl Lt rfl (C7 rfl) ?_
  exact C9 A0 () trivial rfl rfl rfl rfl C1
 have h2':0<(x.workers.getD w.toNat default).staged.length:=by omega
 have h2:0<(A9 x w).staged.length:=h2'
 have hM:Fi x w∧0<(A9 x w).staged.length:=⟨h1,h2⟩
 have hR:Gt (Au x w)∧(Au x w).op<x.graph.nodes.length:=hWP.1.2.1 _ (B9 (d:=default) h2)
 have hgw:=hC.1.1.2.1
 have how:=A28 (k:=(Au x w).key) (n:=x.graph.workers) hR.1.2.2.2.1.1 hgw.1
 have hwl:=hC.1.2.1
 have hcs:Aq x=true:=decide_eq_true hC
 repeat refine Bg ?_
 refine A2v A0 rfl rfl rfl rfl rfl rfl (jn:=w.toNat) rfl (F7 _ _ _) rfl (Af ?_)
 refine I3 35 11 rfl rfl (Af ?_)
 (repeat refine Ak ?_)
 refine K8 7 (w.toNat) [(1,11)] (Ap x.workers) hk rfl rfl Lt rfl (C7 rfl) (J4 ?_)
 conv=>whnf
 have hlk9:=hlw.1
 first|(refine At 4 rfl [0,1,2,3,4,5,6,7,8,9] A6 (Af ?_))|(refine At 7 rfl [0,1,2,3,4,5,6,7,8,9,10,11,12,13,14,15] A6 (Af ?_))|(refine At 10 rfl [0,1,2,3,4,5,6,7,8] A6 (Af ?_))|(refine At 12 rfl [0,1,2,3,4,5,6,7,8,9,10,11,12,13,14,15,16,17,18,19,20] A6 (Af ?_))|(refine At 13 rfl [0,1,2,3,4,5,7,8,9,10,11,12,13,14,15,16,6,17,18,19,20] A6 (Af ?_))
 refine B7 (Ky (Au x w).key x.graph.workers Ag) rfl (Af ?_)
 refine ⟨fun h3=>have h3:=bne_iff_ne.1 h3;?_,fun h3=>have h3:=bne_eq_false_iff_eq.1 h3;?_⟩<;>conv=>whnf
 ·have h3:As x w≠w:=h3
  have hmt:0≤As x w∧As x w<x.graph.workers:=how
  have hln:=Nw hC (f:=w) (t:=As x w) Ag hmt
  have hlk:(Ai x w (As x w)).toNat<x.links.length:=by omega
  have hll:=A3.link_le h hlk
  have hlp:Gd x.graph.workers w (De (Au x w).key x.graph.workers)=Ai x w (As x w):=Le hgw Ag hmt
  have hs4:(A9 x w).sums.length=4:=hWP.2.1.1
  have hE:=hR.1.2.1
  have hsum:Gu ((A9 x w).sums.getD (Au x w).stamp.epoch.toNat default):=hWP.2.2.2.1 _ (B9 (by show (Au x w).stamp.epoch.toNat<(A9 x w).sums.length;omega))
  refine B7 (J0 x.graph w (De (Au x w).key x.graph.workers) og) rfl (Af ?_)
  rw [hlp]
  refine J7 rfl ?_
  refine Bi A0 false 0 rfl rfl A6 rfl (Aa D3) ?_
  refine Bi A0 false 1 rfl rfl A6 rfl (Aa D3) ?_
  refine Bi A0 false 2 rfl rfl A6 rfl (Aa D3) ?_
  refine Bi A0 false 3 rfl rfl A6 rfl (Aa D3) ?_
  refine Bi A0 false 5 rfl rfl A6 rfl (Aa D3) ?_
  refine Eh (s':=?_) 4 rfl A6 ?_ ?_
  rotate_left
  refine go A0 false ?_
  conv=>whnf
  (repeat refine Ak ?_)
  exact Ay
  refine Eh (s':=?_) 6 rfl A6 ?_ ?_
  rotate_left
  refine go A0 false ?_
  conv=>whnf
  (repeat refine Ak ?_)
  exact Ay
  refine M8 (α:=Nat→Value) (s':=?_) 7 rfl A6 ?_ ?_
  rotate_left
  refine go A0 false ?_
  conv=>whnf
  refine Qv A0 rfl rfl rfl rfl rfl (jn:=(Ai x w (As x w)).toNat) rfl (r:=C0.c ((x.links).getD ((Ai x w (As x w)).toNat) default)) rfl hlk rfl rfl (fun u=>go A0 false ?_)
  conv=>whnf
  exact Q3 u
  intro u
  refine Eh (s':=?_) 8 rfl A6 ?_ ?_
  rotate_left
  refine go A0 false ?_
  conv=>whnf
  (repeat refine Ak ?_)
  exact Ay
  refine Jy [9,13] A6 ⟨?_,?_,trivial⟩
  focus
   refine go A0 false ?_
   conv=>whnf
   refine Dk (Rj (Bc x (Ai x w (As x w))) (Au x w) (by show (x.links.getD _ default).w≤_;omega)) rfl (Af ?_)
   refine Kn ?_
   refine Bi A0 false 10 rfl rfl A6 rfl (Aa D3) ?_
   refine A5a (s':=?_) 11 rfl A6 ?_ ?_
   rotate_left
   refine go A0 false ?_
   conv=>whnf
   (repeat refine Ak ?_)
   exact Ay
   refine A5a (s':=?_) 12 rfl A6 ?_ ?_
   rotate_left
   refine go A0 false ?_
   conv=>whnf
   (repeat refine Ak ?_)
   exact Ay
   refine Jy [13] A6 ⟨?_,trivial⟩
   refine go A0 false ?_
   conv=>whnf
   (repeat refine Ak ?_)
   refine Kn ?_
   refine Jy [14] A6 ⟨?_,trivial⟩
   refine go A0 false ?_
   conv=>whnf
   (repeat refine Ak ?_)
   refine Kn ?_
   refine Bi A0 false 15 rfl rfl A6 rfl (Aa D3) ?_
   refine Y6 A6 (Af ?_)
  rotate_left 1
  focus
   refine go A0 false ?_
   conv=>whnf
   (repeat refine Ak ?_)
   refine Kn ?_
   refine Jy [9] A6 ⟨?_,trivial⟩
   refine go A0 false ?_
   conv=>whnf
   refine Dk (Rj (Bc x (Ai x w (As x w))) (Au x w) (by show (x.links.getD _ default).w≤_;omega)) rfl (Af ?_)
   refine Kn ?_
   refine Bi A0 false 10 rfl rfl A6 rfl (Aa D3) ?_
   refine A5a (s':=?_) 11 rfl A6 ?_ ?_
   rotate_left
   refine go A0 false ?_
   conv=>whnf
   (repeat refine Ak ?_)
   exact Ay
   refine A5a (s':=?_) 12 rfl A6 ?_ ?_
   rotate_left
   refine go A0 false ?_
   conv=>whnf
   (repeat refine Ak ?_)
   exact Ay
   refine Jy [14] A6 ⟨?_,trivial⟩
   refine go A0 false ?_
   conv=>whnf
   (repeat refine Ak ?_)
   refine Kn ?_
   refine Bi A0 false 15 rfl rfl A6 rfl (Aa D3) ?_
   refine Y6 A6 (Af ?_)
  all_goals
   refine ⟨fun h4=>?_,fun h4=>?_⟩<;>conv=>whnf
   ·have h4:(C6 (Bc x (Ai x w (As x w))) (Au x w)).2=false:=by simpa using h4
    repeat refine Bg ?_
    rw [S0 hM h3 h4]
    refine Fb Try.prog 8 ((Ai x w (As x w)).toNat) [(1,13)] (D7 x.links) hlk rfl rfl Lt rfl (C7 rfl) ?_
    exact C9 A0 () trivial rfl rfl rfl rfl C1
   ·have h4:(C6 (Bc x (Ai x w (As x w))) (Au x w)).2=true:=by simpa using h4
    have hyes:=S2 hM h3 h4
    have hfl:=A23 hC (show (Br x w).2=true by rw [hyes]) h3
    repeat refine Bg ?_
    first|(refine At 4 rfl [0,1,2,3,4,5,6,7,8,9] A6 (Af ?_))|(refine At 7 rfl [0,1,2,3,4,5,6,7,8,9,10,11,12,13,14,15] A6 (Af ?_))|(refine At 10 rfl [0,1,2,3,4,5,6,7,8] A6 (Af ?_))|(refine At 12 rfl [0,1,2,3,4,5,6,7,8,9,10,11,12,13,14,15,16,17,18,19,20] A6 (Af ?_))|(refine At 13 rfl [0,1,2,3,4,5,7,8,9,10,11,12,13,14,15,16,6,17,18,19,20] A6 (Af ?_))
    (repeat refine Ak ?_)
    refine Cu (j:=(Ai x w (As x w))) A0 rfl rfl rfl rfl rfl rfl rfl rfl (D7 (Bo x (Ai x w (As x w)) (C6 (Bc x (Ai x w (As x w))) (Au x w)).1).links) (Ee hlk rfl) ?_
    refine go A0 false ?_
    conv=>whnf
    refine Cm (Z6 (Bo x (Ai x w (As x w)) (C6 (Bc x (Ai x w (As x w))) (Au x w)).1) (Aq x) w (Au x w).stamp.epoch 1 hb.1 hk hE.1 (by show (Au x w).stamp.epoch.toNat<(A9 x w).sums.length;omega) hsum Cb) hH hp rfl C1 rfl rfl (fun r2 hr2=>go A0 false ?_)
    conv=>whnf
    have hk9:w.toNat<(Av (Bo x (Ai x w (As x w)) (C6 (Bc x (Ai x w (As x w))) (Au x w)).1) w (Em (A9 (Bo x (Ai x w (As x w)) (C6 (Bc x (Ai x w (As x w))) (Au x w)).1) w) (Au x w).stamp.epoch 1)).workers.length:=by show w.toNat<(x.workers.set _ _).length;rw [List.length_set];exact hk
    have hg9:(Av (Bo x (Ai x w (As x w)) (C6 (Bc x (Ai x w (As x w))) (Au x w)).1) w (Em (A9 (Bo x (Ai x w (As x w)) (C6 (Bc x (Ai x w (As x w))) (Au x w)).1) w) (Au x w).stamp.epoch 1)).workers.getD w.toNat default=Em (A9 (Bo x (Ai x w (As x w)) (C6 (Bc x (Ai x w (As x w))) (Au x w)).1) w) (Au x w).stamp.epoch 1:=Pk hk
    have hl9:((Av (Bo x (Ai x w (As x w)) (C6 (Bc x (Ai x w (As x w))) (Au x w)).1) w (Em (A9 (Bo x (Ai x w (As x w)) (C6 (Bc x (Ai x w (As x w))) (Au x w)).1) w) (Au x w).stamp.epoch 1)).workers.getD w.toNat default).staged.length=(x.workers.getD w.toNat default).staged.length:=by rw [hg9];rfl
    have hl8:0<((Av (Bo x (Ai x w (As x w)) (C6 (Bc x (Ai x w (As x w))) (Au x w)).1) w (Em (A9 (Bo x (Ai x w (As x w)) (C6 (Bc x (Ai x w (As x w))) (Au x w)).1) w) (Au x w).stamp.epoch 1)).workers.getD w.toNat default).staged.length:=by omega
    refine Ny 0 3 17 rfl rfl (fun v8=>?_)
    refine Sw 0 3 rfl rfl (fun ho_v8=>?_)
    refine J7 rfl ?_
    refine Bi A0 false 0 rfl rfl A6 rfl (Aa D3) ?_
    refine Bi A0 false 1 rfl rfl A6 rfl (Aa D3) ?_
    refine Bi A0 false 2 rfl rfl A6 rfl (Aa D3) ?_
    refine Bi A0 false 3 rfl rfl A6 rfl (Aa D3) ?_
    refine Bi A0 false 5 rfl rfl A6 rfl (Aa D3) ?_
    refine Bi A0 false 7 rfl rfl A6 rfl (Aa D3) ?_
    refine Bi A0 false 8 rfl rfl A6 rfl (Aa D3) ?_
    refine Bi A0 false 9 rfl rfl A6 rfl (Aa D3) ?_
    refine Bi A0 false 10 rfl rfl A6 rfl (Aa D3) ?_
    refine Bi A0 false 12 rfl rfl A6 rfl (Aa D3) ?_
    refine Eh (s':=?_) 11 rfl A6 ?_ ?_
    rotate_left
    refine go A0 false ?_
    conv=>whnf
    refine I3 118 17 rfl rfl (Af ?_)
    (repeat refine Ak ?_)
    exact Ay
    refine Eh (s':=?_) 13 rfl A6 ?_ ?_
    rotate_left
    refine go A0 false ?_
    conv=>whnf
    (repeat refine Ak ?_)
    exact Ay
    refine Bi A0 false 14 rfl rfl A6 rfl (Aa D3) ?_
    refine M8 (α:=Value) (s':=?_) 15 rfl A6 ?_ ?_
    rotate_left
    refine go A0 false ?_
    conv=>whnf
    refine Gk A0 rfl rfl rfl rfl rfl rfl (jn:=w.toNat) rfl rfl rfl (fun v9=>go A0 false ?_)
    conv=>whnf
    exact Q3 v9
    intro v9
    refine Eh (s':=?_) 16 rfl A6 ?_ ?_
    rotate_left
    refine go A0 false ?_
    conv=>whnf
    refine A33 A0 rfl rfl rfl rfl rfl rfl rfl rfl (l:=1) rfl rfl (⟨by omega,by omega,by omega⟩) (A8 (((Av (Bo x (Ai x w (As x w)) (C6 (Bc x (Ai x w (As x w))) (Au x w)).1) w (Em (A9 (Bo x (Ai x w (As x w)) (C6 (Bc x (Ai x w (As x w))) (Au x w)).1) w) (Au x w).stamp.epoch 1)).workers.getD w.toNat default).staged.drop 1)) (G5 (k:=1) hl8) (Af ?_)
    exact Ay
    refine Kt [17,18,19,20] [⟨4,111,.rd v8⟩,⟨6,113,.emp 5⟩] A6 ?_
    refine B2 (s':=?_) A0 rfl A6 Db ?_ ?_
    rotate_left
    refine go A0 false ?_
    conv=>whnf
    refine B4 A0 rfl rfl rfl rfl rfl rfl rfl rfl rfl rfl rfl (A8 (((Av (Bo x (Ai x w (As x w)) (C6 (Bc x (Ai x w (As x w))) (Au x w)).1) w (Em (A9 (Bo x (Ai x w (As x w)) (C6 (Bc x (Ai x w (As x w))) (Au x w)).1) w) (Au x w).stamp.epoch 1)).workers.getD w.toNat default).staged.drop 1)) (Ah) (fun _=>Aj _) (by (rw [List.length_drop];omega)) (Af ?_)
    exact Ay
    refine B2 (s':=?_) A0 rfl A6 Db ?_ ?_
    rotate_left
    refine go A0 false ?_
    conv=>whnf
    refine I3 111 17 rfl rfl (Af ?_)
    (repeat refine Ak ?_)
    exact Ay
    refine B2 (s':=?_) A0 rfl A6 Db ?_ ?_
    rotate_left
    refine go A0 false ?_
    conv=>whnf
    (repeat refine Ak ?_)
    exact Ay
    refine B2 (s':=?_) A0 rfl A6 Db ?_ ?_
    rotate_left
    refine go A0 false ?_
    conv=>whnf
    refine Cu (j:=w) A0 rfl rfl rfl rfl rfl rfl rfl rfl (Ap (Av (Av (Bo x (Ai x w (As x w)) (C6 (Bc x (Ai x w (As x w))) (Au x w)).1) w (Em (A9 (Bo x (Ai x w (As x w)) (C6 (Bc x (Ai x w (As x w))) (Au x w)).1) w) (Au x w).stamp.epoch 1)) w (Dv (Em (A9 (Bo x (Ai x w (As x w)) (C6 (Bc x (Ai x w (As x w))) (Au x w)).1) w) (Au x w).stamp.epoch 1))).workers) (Ee hk9 (by rw [hg9];rfl)) (Af ?_)
    exact Ay
    refine Ix A0 A6 Db (GW.out (J4 ?_))
    conv=>whnf
    refine A5p Try.prog (fun _ g=>Nu 0 3 17 rfl rfl rfl g) ?_
    rw [Hv]
    have hz:rc (Br x w).1=O4 (Av (Bo x (Ai x w (As x w)) (C6 (Bc x (Ai x w (As x w))) (Au x w)).1) w (Dv (Em (A9 (Bo x (Ai x w (As x w)) (C6 (Bc x (Ai x w (As x w))) (Au x w)).1) w) (Au x w).stamp.epoch 1))) (Aq x&&Ek ((A9 (Bo x (Ai x w (As x w)) (C6 (Bc x (Ai x w (As x w))) (Au x w)).1) w).sums.getD (Au x w).stamp.epoch.toNat default+1) (-1000000) 1000000):=by
     show O4 (Br x w).1 (Aq (Br x w).1)=_
     rw [hfl,hyes,hcs,Bool.true_and,W3,Ub (w:=Dv (A9 x w)) ⟨hE.1,by show (Au x w).stamp.epoch<(A9 x w).sums.length;omega⟩]
     rfl
    rw [hz,hyes]
    exact C9 A0 () trivial rfl rfl rfl rfl C1
 ·have h3:As x w=w:=h3
  refine Ny 0 3 7 rfl rfl (fun v2=>?_)
  refine Sw 0 3 rfl rfl (fun ho_v2=>?_)
  refine J7 rfl ?_
  refine Bi A0 false 0 rfl rfl A6 rfl (Aa D3) ?_
  refine Bi A0 false 1 rfl rfl A6 rfl (Aa D3) ?_
  refine Bi A0 false 2 rfl rfl A6 rfl (Aa D3) ?_
  refine Bi A0 false 3 rfl rfl A6 rfl (Aa D3) ?_
  refine Bi A0 false 5 rfl rfl A6 rfl (Aa D3) ?_
  refine Bi A0 false 6 rfl rfl A6 rfl (Aa D3) ?_
  refine Bi A0 false 7 rfl rfl A6 rfl (Aa D3) ?_
  refine Bi A0 false 8 rfl rfl A6 rfl (Aa D3) ?_
  refine Bi A0 false 9 rfl rfl A6 rfl (Aa D3) ?_
  refine Bi A0 false 11 rfl rfl A6 rfl (Aa D3) ?_
  refine Eh (s':=?_) 10 rfl A6 ?_ ?_
  rotate_left
  refine go A0 false ?_
  conv=>whnf
  refine I3 97 7 rfl rfl (Af ?_)
  (repeat refine Ak ?_)
  exact Ay
  refine Eh (s':=?_) 12 rfl A6 ?_ ?_
  rotate_left
  refine go A0 false ?_
  conv=>whnf
  (repeat refine Ak ?_)
  exact Ay
  refine Bi A0 false 13 rfl rfl A6 rfl (Aa D3) ?_
  refine M8 (α:=Value) (s':=?_) 14 rfl A6 ?_ ?_
  rotate_left
  refine go A0 false ?_
  conv=>whnf
  refine Gk A0 rfl rfl rfl rfl rfl rfl (jn:=w.toNat) rfl rfl rfl (fun v3=>go A0 false ?_)
  conv=>whnf
  exact Q3 v3
  intro v3
  refine Eh (s':=?_) 15 rfl A6 ?_ ?_
  rotate_left
  refine go A0 false ?_
  conv=>whnf
  (repeat refine Ak ?_)
  exact Ay
  refine Kt [16,17,18,19,20] [⟨4,91,.rd v2⟩] A6 ?_
  refine B2 (s':=?_) A0 rfl A6 Db ?_ ?_
  rotate_left
  refine go A0 false ?_
  conv=>whnf
  (repeat refine Ak ?_)
  exact Ay
  refine B2 (s':=?_) A0 rfl A6 Db ?_ ?_
  rotate_left
  refine go A0 false ?_
  conv=>whnf
  refine B4 A0 rfl rfl rfl rfl rfl rfl rfl rfl rfl rfl rfl (A8 ((x.workers.getD w.toNat default).queue++[Au x w])) (B5 rfl) Rt Ag (Af ?_)
  exact Ay
  refine B2 (s':=?_) A0 rfl A6 Db ?_ ?_
  rotate_left
  refine go A0 false ?_
  conv=>whnf
  refine I3 91 7 rfl rfl (Af ?_)
  (repeat refine Ak ?_)
  exact Ay
  refine B2 (s':=?_) A0 rfl A6 Db ?_ ?_
  rotate_left
  refine go A0 false ?_
  conv=>whnf
  (repeat refine Ak ?_)
  exact Ay
  refine B2 (s':=?_) A0 rfl A6 Db ?_ ?_
  rotate_left
  refine go A0 false ?_
  conv=>whnf
  refine Cu (j:=w) A0 rfl rfl rfl rfl rfl rfl rfl rfl (Ap (Av x w (kept (A9 x w) (Au x w))).workers) (Ee hk rfl) (Af ?_)
  exact Ay
  refine Ix A0 A6 Db (GW.out (J4 ?_))
  conv=>whnf
  refine Nu 0 3 7 rfl rfl rfl ?_
  have hk9:w.toNat<(Av x w (kept (A9 x w) (Au x w))).workers.length:=by show w.toNat<(x.workers.set _ _).length;rw [List.length_set];exact hk
  have hg9:(Av x w (kept (A9 x w) (Au x w))).workers.getD w.toNat default=kept (A9 x w) (Au x w):=Pk hk
  have hl9:((Av x w (kept (A9 x w) (Au x w))).workers.getD w.toNat default).staged.length=(x.workers.getD w.toNat default).staged.length:=by rw [hg9];rfl
  have hl8:0<((Av x w (kept (A9 x w) (Au x w))).workers.getD w.toNat default).staged.length:=by omega
  refine Ny 0 3 7 rfl rfl (fun v8=>?_)
  refine Sw 0 3 rfl rfl (fun ho_v8=>?_)
  refine J7 rfl ?_
  refine Bi A0 false 0 rfl rfl A6 rfl (Aa D3) ?_
  refine Bi A0 false 1 rfl rfl A6 rfl (Aa D3) ?_
  refine Bi A0 false 2 rfl rfl A6 rfl (Aa D3) ?_
  refine Bi A0 false 3 rfl rfl A6 rfl (Aa D3) ?_
  refine Bi A0 false 5 rfl rfl A6 rfl (Aa D3) ?_
  refine Bi A0 false 7 rfl rfl A6 rfl (Aa D3) ?_
  refine Bi A0 false 8 rfl rfl A6 rfl (Aa D3) ?_
  refine Bi A0 false 9 rfl rfl A6 rfl (Aa D3) ?_
  refine Bi A0 false 10 rfl rfl A6 rfl (Aa D3) ?_
  refine Bi A0 false 12 rfl rfl A6 rfl (Aa D3) ?_
  refine Eh (s':=?_) 11 rfl A6 ?_ ?_
  rotate_left
  refine go A0 false ?_
  conv=>whnf
  refine I3 118 7 rfl rfl (Af ?_)
  (repeat refine Ak ?_)
  exact Ay
  refine Eh (s':=?_) 13 rfl A6 ?_ ?_
  rotate_left
  refine go A0 false ?_
  conv=>whnf
  (repeat refine Ak ?_)
  exact Ay
  refine Bi A0 false 14 rfl rfl A6 rfl (Aa D3) ?_
  refine M8 (α:=Value) (s':=?_) 15 rfl A6 ?_ ?_
  rotate_left
  refine go A0 false ?_
  conv=>whnf
  refine Gk A0 rfl rfl rfl rfl rfl rfl (jn:=w.toNat) rfl rfl rfl (fun v9=>go A0 false ?_)
  conv=>whnf
  exact Q3 v9
  intro v9
  refine Eh (s':=?_) 16 rfl A6 ?_ ?_
  rotate_left
  refine go A0 false ?_
  conv=>whnf
  refine A33 A0 rfl rfl rfl rfl rfl rfl rfl rfl (l:=1) rfl rfl (⟨by omega,by omega,by omega⟩) (A8 (((Av x w (kept (A9 x w) (Au x w))).workers.getD w.toNat default).staged.drop 1)) (G5 (k:=1) hl8) (Af ?_)
  exact Ay
  refine Kt [17,18,19,20] [⟨4,111,.rd v8⟩,⟨6,113,.emp 5⟩] A6 ?_
  refine B2 (s':=?_) A0 rfl A6 Db ?_ ?_
  rotate_left
  refine go A0 false ?_
  conv=>whnf
  refine B4 A0 rfl rfl rfl rfl rfl rfl rfl rfl rfl rfl rfl (A8 (((Av x w (kept (A9 x w) (Au x w))).workers.getD w.toNat default).staged.drop 1)) (Ah) (fun _=>Aj _) (by (rw [List.length_drop];omega)) (Af ?_)
  exact Ay
  refine B2 (s':=?_) A0 rfl A6 Db ?_ ?_
  rotate_left
  refine go A0 false ?_
  conv=>whnf
  refine I3 111 7 rfl rfl (Af ?_)
  (repeat refine Ak ?_)
  exact Ay
  refine B2 (s':=?_) A0 rfl A6 Db ?_ ?_
  rotate_left
  refine go A0 false ?_
  conv=>whnf
  (repeat refine Ak ?_)
  exact Ay
  refine B2 (s':=?_) A0 rfl A6 Db ?_ ?_
  rotate_left
  refine go A0 false ?_
  conv=>whnf
  refine Cu (j:=w) A0 rfl rfl rfl rfl rfl rfl rfl rfl (Ap (Av (Av x w (kept (A9 x w) (Au x w))) w (Dv (kept (A9 x w) (Au x w)))).workers) (Ee hk9 (by rw [hg9];rfl)) (Af ?_)
  exact Ay
  refine Ix A0 A6 Db (GW.out (J4 ?_))
  conv=>whnf
  refine A5p Try.prog (fun _ g=>Nu 0 3 7 rfl rfl rfl g) ?_
  rw [Hv]
  have hyes:=U6 hM h3
  have hz:rc (Br x w).1=O4 (Av x w (Dv (kept (A9 x w) (Au x w)))) (Aq x):=by
   show O4 (Br x w).1 (Aq (Br x w).1)=_
   rw [A0k hC h3,hyes,hcs]
   rfl
  rw [hz,hyes]
  exact C9 A0 () trivial rfl rfl rfl rfl C1
theorem A19 (l:List Ez)(k:Nat):l.eraseIdx k=l.take k++l.drop (k+1):=List.eraseIdx_eq_take_drop_succ l k
theorem Yg {c:A3}{w:Int}(h:¬ (Ar c∧c.news.any (Iv w)=true)):D9 c w=(c,false):=if_neg h
theorem A2i {c:A3}{w:Int}(h:Ar c∧c.news.any (Iv w)=true)(h1:En (A9 c w) (Fa c w).epoch=true):D9 c w=(Ip c w,true):=by
 unfold D9
 rw [if_pos h,if_pos h1]
theorem A2h {c:A3}{w:Int}(h:Ar c∧c.news.any (Iv w)=true)(h1:En (A9 c w) (Fa c w).epoch=false):D9 c w=(Av (Ip c w) w (Fj (A9 c w) ⟨(Fa c w).epoch,(Fa c w).capped⟩),true):=by
 unfold D9
 rw [if_pos h,if_neg (by rw [h1];decide)]
end Go.Proofs.Ytonodkjaoalfjaa
