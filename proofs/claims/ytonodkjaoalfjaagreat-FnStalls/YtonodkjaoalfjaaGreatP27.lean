/- Part 27 of the proof that each of the laws FnStalls returns true for every input. No conditions. -/
import Derived.Test.YtonodkjaoalfjaaGreatP26
import Derived.Test.YtonodkjaoalfjaaGreatP5
import Derived.Test.YtonodkjaoalfjaaGreatP6
import Derived.Test.YtonodkjaoalfjaaGreatP25
import Derived.Test.YtonodkjaoalfjaaGreatP8
import Derived.Test.YtonodkjaoalfjaaGreatP10

set_option linter.unusedSimpArgs false
set_option linter.unusedVariables false
set_option maxRecDepth 100000
namespace Go.Proofs.YtonodkjaoalfjaaGreat
open Go.Sx
theorem C4w {c:A3}{w:Int}(h:Ap c)(h2:(C6 c w).2=true)(h3:B8 c w≠w):Fp (C6 c w).1=decide (Jy (A1g c w)):=by
 rw [A4e h,if_pos ⟨h2,h3⟩]
theorem C4f {c:A3}{w:Int}(h:Ap c)(h3:B8 c w=w):Fp (C6 c w).1=true:=by
 rw [A4e h,if_neg (fun p=>p.2 h3)]
set_option maxHeartbeats 8000000 in
theorem C3j (x:A3)(w:Int)(h:x.w≤8000000)(og:K9 .i64 x.graph.workers):Iv Tryz.prog (fun _=>True) 85 [] (rc x) [.one (vi w)] (fun _:Unit=>True) (fun _=>rc (C6 x w).1) (fun _=>[.one (vb (C6 x w).2)]):=by
 have h:x.w≤16000000:=by omega
 refine Ol A0 false Tryz.func85 rfl Bu fun B b hH hp=>?_
 conv=>whnf
 refine Fg (C3u x w h) hH hp rfl Ca rfl rfl (fun r hr=>go A0 false ?_)
 conv=>whnf
 refine ⟨fun h1=>?_,fun h1=>?_⟩<;>conv=>whnf
 ·have h1:¬ Hh x w:=of_decide_eq_false (by simpa using h1)
  repeat refine Bi ?_
  rw [U0 (fun p=>h1 p.1)]
  exact Kk A0 () trivial rfl rfl rfl rfl Ca
 have h1:Hh x w:=of_decide_eq_true (show decide (Hh x w)=true by simpa using h1)
 have hC:=h1.1
 have hb:=h1.2
 have hk:w.toNat<x.workers.length:=by omega
 have hw:=A3.worker_le h hk
 have hWP:=hC.2.1 _ (Aq (d:=default) hk)
 have hlw:=Q6 (x.workers.getD w.toNat default)
 repeat refine Bi ?_
 refine B8f A0 rfl rfl rfl rfl rfl rfl (jn:=w.toNat) rfl rfl rfl (fun v=>go A0 false ?_)
 conv=>whnf
 repeat refine Bi ?_
 refine ⟨fun h2=>have h2:=eq_of_beq h2;?_,fun h2=>have h2:=beq_eq_false_iff_ne.1 h2;?_⟩<;>conv=>whnf
 ·repeat refine Bi ?_
  rw [U0 (fun p=>by have:=p.2;simp only [A6] at this;omega)]
  refine M9 Tryz.prog 7 (w.toNat) [(1,11)] (Be x.workers) hk rfl rfl Kc rfl (Mg rfl) ?_
  exact Kk A0 () trivial rfl rfl rfl rfl Ca
 have h2':0<(x.workers.getD w.toNat default).staged.length:=by omega
 have h2:0<(A6 x w).staged.length:=h2'
 have hM:Hh x w∧0<(A6 x w).staged.length:=⟨h1,h2⟩
 have hR:Ja (B7 x w)∧(B7 x w).op<x.graph.nodes.length:=hWP.1.2.1 _ (Aq (d:=default) h2)
 have hgw:=hC.1.1.2.1
 have how:=B4o (k:=(B7 x w).key) (n:=x.graph.workers) hR.1.2.2.2.1.1 hgw.1
 have hwl:=hC.1.2.1
 have hcs:Fp x=true:=decide_eq_true hC
 repeat refine Bi ?_
 refine Ke A0 rfl rfl rfl rfl rfl rfl (jn:=w.toNat) rfl (Cv _ _ _) rfl (Al ?_)
 refine Je 35 11 rfl rfl (Al ?_)
 (repeat refine Ar ?_)
 refine B5c 7 (w.toNat) [(1,11)] (Be x.workers) hk rfl rfl Kc rfl (Mg rfl) (Tt ?_)
 conv=>whnf
 have hlk9:=hlw.1
 first|(refine B9 4 rfl [0,1,2,3,4,5,6,7,8,9] Aa (Al ?_))|(refine B9 7 rfl [0,1,2,3,4,5,6,7,8,9,10,11,12,13,14,15] Aa (Al ?_))|(refine B9 10 rfl [0,1,2,3,4,5,6,7,8] Aa (Al ?_))|(refine B9 12 rfl [0,1,2,3,4,5,6,7,8,9,10,11,12,13,14,15,16,17,18,19,20] Aa (Al ?_))|(refine B9 13 rfl [0,1,2,3,4,5,7,8,9,10,11,12,13,14,15,16,6,17,18,19,20] Aa (Al ?_))
 refine Aw (C08 (B7 x w).key x.graph.workers Ac) rfl (Al ?_)
 refine ⟨fun h3=>have h3:=bne_iff_ne.1 h3;?_,fun h3=>have h3:=bne_eq_false_iff_eq.1 h3;?_⟩<;>conv=>whnf
 ·have h3:B8 x w≠w:=h3
  have hmt:0≤B8 x w∧B8 x w<x.graph.workers:=how
  have hln:=T6 hC (f:=w) (t:=B8 x w) Ac hmt
  have hlk:(Ae x w (B8 x w)).toNat<x.links.length:=by omega
  have hll:=A3.link_le h hlk
  have hlp:Ij x.graph.workers w (Cf (B7 x w).key x.graph.workers)=Ae x w (B8 x w):=Qd hgw Ac hmt
  have hs4:(A6 x w).sums.length=4:=hWP.2.1.1
  have hE:=hR.1.2.1
  have hsum:Jy ((A6 x w).sums.getD (B7 x w).stamp.epoch.toNat default):=hWP.2.2.2.1 _ (Aq (by show (B7 x w).stamp.epoch.toNat<(A6 x w).sums.length;omega))
  refine Aw (B6u x.graph w (Cf (B7 x w).key x.graph.workers) og) rfl (Al ?_)
  rw [hlp]
  refine Jc rfl ?_
  refine Ct A0 false 0 rfl rfl Aa rfl (Af D0) ?_
  refine Ct A0 false 1 rfl rfl Aa rfl (Af D0) ?_
  refine Ct A0 false 2 rfl rfl Aa rfl (Af D0) ?_
  refine Ct A0 false 3 rfl rfl Aa rfl (Af D0) ?_
  refine Ct A0 false 5 rfl rfl Aa rfl (Af D0) ?_
  refine Do (s':=?_) 4 rfl Aa ?_ ?_
  rotate_left
  refine go A0 false ?_
  conv=>whnf
  (repeat refine Ar ?_)
  exact Bd
  refine Do (s':=?_) 6 rfl Aa ?_ ?_
  rotate_left
  refine go A0 false ?_
  conv=>whnf
  (repeat refine Ar ?_)
  exact Bd
  refine B8p (α:=Nat→Value) (s':=?_) 7 rfl Aa ?_ ?_
  rotate_left
  refine go A0 false ?_
  conv=>whnf
  refine B90 A0 rfl rfl rfl rfl rfl (jn:=(Ae x w (B8 x w)).toNat) rfl (r:=C2.c ((x.links).getD ((Ae x w (B8 x w)).toNat) default)) rfl hlk rfl rfl (fun u=>go A0 false ?_)
  conv=>whnf
  exact B9f u
  intro u
  refine Do (s':=?_) 8 rfl Aa ?_ ?_
  rotate_left
  refine go A0 false ?_
  conv=>whnf
  (repeat refine Ar ?_)
  exact Bd
  refine Cm [9,13] Aa ⟨?_,?_,trivial⟩
  focus
   refine go A0 false ?_
   conv=>whnf
   refine B4 (C02 (An x (Ae x w (B8 x w))) (B7 x w) (by show (x.links.getD _ default).w≤_;omega)) rfl (Al ?_)
   refine Cu ?_
   refine Ct A0 false 10 rfl rfl Aa rfl (Af D0) ?_
   refine Kj (s':=?_) 11 rfl Aa ?_ ?_
   rotate_left
   refine go A0 false ?_
   conv=>whnf
   (repeat refine Ar ?_)
   exact Bd
   refine Kj (s':=?_) 12 rfl Aa ?_ ?_
   rotate_left
   refine go A0 false ?_
   conv=>whnf
   (repeat refine Ar ?_)
   exact Bd
   refine Cm [13] Aa ⟨?_,trivial⟩
   refine go A0 false ?_
   conv=>whnf
   (repeat refine Ar ?_)
   refine Cu ?_
   refine Cm [14] Aa ⟨?_,trivial⟩
   refine go A0 false ?_
   conv=>whnf
   (repeat refine Ar ?_)
   refine Cu ?_
   refine Ct A0 false 15 rfl rfl Aa rfl (Af D0) ?_
   refine Hu Aa (Al ?_)
  rotate_left 1
  focus
   refine go A0 false ?_
   conv=>whnf
   (repeat refine Ar ?_)
   refine Cu ?_
   refine Cm [9] Aa ⟨?_,trivial⟩
   refine go A0 false ?_
   conv=>whnf
   refine B4 (C02 (An x (Ae x w (B8 x w))) (B7 x w) (by show (x.links.getD _ default).w≤_;omega)) rfl (Al ?_)
   refine Cu ?_
   refine Ct A0 false 10 rfl rfl Aa rfl (Af D0) ?_
   refine Kj (s':=?_) 11 rfl Aa ?_ ?_
   rotate_left
   refine go A0 false ?_
   conv=>whnf
   (repeat refine Ar ?_)
   exact Bd
   refine Kj (s':=?_) 12 rfl Aa ?_ ?_
   rotate_left
   refine go A0 false ?_
   conv=>whnf
   (repeat refine Ar ?_)
   exact Bd
   refine Cm [14] Aa ⟨?_,trivial⟩
   refine go A0 false ?_
   conv=>whnf
   (repeat refine Ar ?_)
   refine Cu ?_
   refine Ct A0 false 15 rfl rfl Aa rfl (Af D0) ?_
   refine Hu Aa (Al ?_)
  all_goals
   refine ⟨fun h4=>?_,fun h4=>?_⟩<;>conv=>whnf
   ·have h4:(Dn (An x (Ae x w (B8 x w))) (B7 x w)).2=false:=by simpa using h4
    repeat refine Bi ?_
    rw [Ya hM h3 h4]
    refine M9 Tryz.prog 8 ((Ae x w (B8 x w)).toNat) [(1,13)] (Dt x.links) hlk rfl rfl Kc rfl (Mg rfl) ?_
    exact Kk A0 () trivial rfl rfl rfl rfl Ca
   ·have h4:(Dn (An x (Ae x w (B8 x w))) (B7 x w)).2=true:=by simpa using h4
    have hyes:=Yb hM h3 h4
    have hfl:=C4w hC (show (C6 x w).2=true by rw [hyes]) h3
    repeat refine Bi ?_
    first|(refine B9 4 rfl [0,1,2,3,4,5,6,7,8,9] Aa (Al ?_))|(refine B9 7 rfl [0,1,2,3,4,5,6,7,8,9,10,11,12,13,14,15] Aa (Al ?_))|(refine B9 10 rfl [0,1,2,3,4,5,6,7,8] Aa (Al ?_))|(refine B9 12 rfl [0,1,2,3,4,5,6,7,8,9,10,11,12,13,14,15,16,17,18,19,20] Aa (Al ?_))|(refine B9 13 rfl [0,1,2,3,4,5,7,8,9,10,11,12,13,14,15,16,6,17,18,19,20] Aa (Al ?_))
    (repeat refine Ar ?_)
    refine D7 (j:=(Ae x w (B8 x w))) A0 rfl rfl rfl rfl rfl rfl rfl rfl (Dt (B6 x (Ae x w (B8 x w)) (Dn (An x (Ae x w (B8 x w))) (B7 x w)).1).links) (B1i hlk rfl) ?_
    refine go A0 false ?_
    conv=>whnf
    refine Fg (C36 (B6 x (Ae x w (B8 x w)) (Dn (An x (Ae x w (B8 x w))) (B7 x w)).1) (Fp x) w (B7 x w).stamp.epoch 1 hb.1 hk hE.1 (by show (B7 x w).stamp.epoch.toNat<(A6 x w).sums.length;omega) hsum Bu) hH hp rfl Ca rfl rfl (fun r2 hr2=>go A0 false ?_)
    conv=>whnf
    have hk9:w.toNat<(Av (B6 x (Ae x w (B8 x w)) (Dn (An x (Ae x w (B8 x w))) (B7 x w)).1) w (Ib (A6 (B6 x (Ae x w (B8 x w)) (Dn (An x (Ae x w (B8 x w))) (B7 x w)).1) w) (B7 x w).stamp.epoch 1)).workers.length:=by show w.toNat<(x.workers.set _ _).length;rw [List.length_set];exact hk
    have hg9:(Av (B6 x (Ae x w (B8 x w)) (Dn (An x (Ae x w (B8 x w))) (B7 x w)).1) w (Ib (A6 (B6 x (Ae x w (B8 x w)) (Dn (An x (Ae x w (B8 x w))) (B7 x w)).1) w) (B7 x w).stamp.epoch 1)).workers.getD w.toNat default=Ib (A6 (B6 x (Ae x w (B8 x w)) (Dn (An x (Ae x w (B8 x w))) (B7 x w)).1) w) (B7 x w).stamp.epoch 1:=C17 hk
    have hl9:((Av (B6 x (Ae x w (B8 x w)) (Dn (An x (Ae x w (B8 x w))) (B7 x w)).1) w (Ib (A6 (B6 x (Ae x w (B8 x w)) (Dn (An x (Ae x w (B8 x w))) (B7 x w)).1) w) (B7 x w).stamp.epoch 1)).workers.getD w.toNat default).staged.length=(x.workers.getD w.toNat default).staged.length:=by rw [hg9];rfl
    have hl8:0<((Av (B6 x (Ae x w (B8 x w)) (Dn (An x (Ae x w (B8 x w))) (B7 x w)).1) w (Ib (A6 (B6 x (Ae x w (B8 x w)) (Dn (An x (Ae x w (B8 x w))) (B7 x w)).1) w) (B7 x w).stamp.epoch 1)).workers.getD w.toNat default).staged.length:=by omega
    refine B8m 0 3 17 rfl rfl (fun v8=>?_)
    refine B9u 0 3 rfl rfl (fun ho_v8=>?_)
    refine Jc rfl ?_
    refine Ct A0 false 0 rfl rfl Aa rfl (Af D0) ?_
    refine Ct A0 false 1 rfl rfl Aa rfl (Af D0) ?_
    refine Ct A0 false 2 rfl rfl Aa rfl (Af D0) ?_
    refine Ct A0 false 3 rfl rfl Aa rfl (Af D0) ?_
    refine Ct A0 false 5 rfl rfl Aa rfl (Af D0) ?_
    refine Ct A0 false 7 rfl rfl Aa rfl (Af D0) ?_
    refine Ct A0 false 8 rfl rfl Aa rfl (Af D0) ?_
    refine Ct A0 false 9 rfl rfl Aa rfl (Af D0) ?_
    refine Ct A0 false 10 rfl rfl Aa rfl (Af D0) ?_
    refine Ct A0 false 12 rfl rfl Aa rfl (Af D0) ?_
    refine Do (s':=?_) 11 rfl Aa ?_ ?_
    rotate_left
    refine go A0 false ?_
    conv=>whnf
    refine Je 118 17 rfl rfl (Al ?_)
    (repeat refine Ar ?_)
    exact Bd
    refine Do (s':=?_) 13 rfl Aa ?_ ?_
    rotate_left
    refine go A0 false ?_
    conv=>whnf
    (repeat refine Ar ?_)
    exact Bd
    refine Ct A0 false 14 rfl rfl Aa rfl (Af D0) ?_
    refine B8p (α:=Value) (s':=?_) 15 rfl Aa ?_ ?_
    rotate_left
    refine go A0 false ?_
    conv=>whnf
    refine B8f A0 rfl rfl rfl rfl rfl rfl (jn:=w.toNat) rfl rfl rfl (fun v9=>go A0 false ?_)
    conv=>whnf
    exact B9f v9
    intro v9
    refine Do (s':=?_) 16 rfl Aa ?_ ?_
    rotate_left
    refine go A0 false ?_
    conv=>whnf
    refine B5k A0 rfl rfl rfl rfl rfl rfl rfl rfl (l:=1) rfl rfl (⟨by omega,by omega,by omega⟩) (Ax (((Av (B6 x (Ae x w (B8 x w)) (Dn (An x (Ae x w (B8 x w))) (B7 x w)).1) w (Ib (A6 (B6 x (Ae x w (B8 x w)) (Dn (An x (Ae x w (B8 x w))) (B7 x w)).1) w) (B7 x w).stamp.epoch 1)).workers.getD w.toNat default).staged.drop 1)) (Lf (k:=1) hl8) (Al ?_)
    exact Bd
    refine S7 [17,18,19,20] [⟨4,111,.rd v8⟩,⟨6,113,.emp 5⟩] Aa ?_
    refine D5 (s':=?_) A0 rfl Aa Gp ?_ ?_
    rotate_left
    refine go A0 false ?_
    conv=>whnf
    refine Dp A0 rfl rfl rfl rfl rfl rfl rfl rfl rfl rfl rfl (Ax (((Av (B6 x (Ae x w (B8 x w)) (Dn (An x (Ae x w (B8 x w))) (B7 x w)).1) w (Ib (A6 (B6 x (Ae x w (B8 x w)) (Dn (An x (Ae x w (B8 x w))) (B7 x w)).1) w) (B7 x w).stamp.epoch 1)).workers.getD w.toNat default).staged.drop 1)) (Eh) (fun _=>B0d _) (by (rw [List.length_drop];omega)) (Al ?_)
    exact Bd
    refine D5 (s':=?_) A0 rfl Aa Gp ?_ ?_
    rotate_left
    refine go A0 false ?_
    conv=>whnf
    refine Je 111 17 rfl rfl (Al ?_)
    (repeat refine Ar ?_)
    exact Bd
    refine D5 (s':=?_) A0 rfl Aa Gp ?_ ?_
    rotate_left
    refine go A0 false ?_
    conv=>whnf
    (repeat refine Ar ?_)
    exact Bd
    refine D5 (s':=?_) A0 rfl Aa Gp ?_ ?_
    rotate_left
    refine go A0 false ?_
    conv=>whnf
    refine D7 (j:=w) A0 rfl rfl rfl rfl rfl rfl rfl rfl (Be (Av (Av (B6 x (Ae x w (B8 x w)) (Dn (An x (Ae x w (B8 x w))) (B7 x w)).1) w (Ib (A6 (B6 x (Ae x w (B8 x w)) (Dn (An x (Ae x w (B8 x w))) (B7 x w)).1) w) (B7 x w).stamp.epoch 1)) w (Bt (Ib (A6 (B6 x (Ae x w (B8 x w)) (Dn (An x (Ae x w (B8 x w))) (B7 x w)).1) w) (B7 x w).stamp.epoch 1))).workers) (B1i hk9 (by rw [hg9];rfl)) (Al ?_)
    exact Bd
    refine P5 A0 Aa Gp (GW.out (Tt ?_))
    conv=>whnf
    refine B8r Tryz.prog (fun _ g=>B8j 0 3 17 rfl rfl rfl g) ?_
    rw [B99]
    have hz:rc (C6 x w).1=rcb (Av (B6 x (Ae x w (B8 x w)) (Dn (An x (Ae x w (B8 x w))) (B7 x w)).1) w (Bt (Ib (A6 (B6 x (Ae x w (B8 x w)) (Dn (An x (Ae x w (B8 x w))) (B7 x w)).1) w) (B7 x w).stamp.epoch 1))) (Fp x&&Eg ((A6 (B6 x (Ae x w (B8 x w)) (Dn (An x (Ae x w (B8 x w))) (B7 x w)).1) w).sums.getD (B7 x w).stamp.epoch.toNat default+1) (-1000000) 1000000):=by
     show rcb (C6 x w).1 (Fp (C6 x w).1)=_
     rw [hfl,hyes,hcs,Bool.true_and,C3l,A12 (w:=Bt (A6 x w)) ⟨hE.1,by show (B7 x w).stamp.epoch<(A6 x w).sums.length;omega⟩]
     rfl
    rw [hz,hyes]
    exact Kk A0 () trivial rfl rfl rfl rfl Ca
 ·have h3:B8 x w=w:=h3
  refine B8m 0 3 7 rfl rfl (fun v2=>?_)
  refine B9u 0 3 rfl rfl (fun ho_v2=>?_)
  refine Jc rfl ?_
  refine Ct A0 false 0 rfl rfl Aa rfl (Af D0) ?_
  refine Ct A0 false 1 rfl rfl Aa rfl (Af D0) ?_
  refine Ct A0 false 2 rfl rfl Aa rfl (Af D0) ?_
  refine Ct A0 false 3 rfl rfl Aa rfl (Af D0) ?_
  refine Ct A0 false 5 rfl rfl Aa rfl (Af D0) ?_
  refine Ct A0 false 6 rfl rfl Aa rfl (Af D0) ?_
  refine Ct A0 false 7 rfl rfl Aa rfl (Af D0) ?_
  refine Ct A0 false 8 rfl rfl Aa rfl (Af D0) ?_
  refine Ct A0 false 9 rfl rfl Aa rfl (Af D0) ?_
  refine Ct A0 false 11 rfl rfl Aa rfl (Af D0) ?_
  refine Do (s':=?_) 10 rfl Aa ?_ ?_
  rotate_left
  refine go A0 false ?_
  conv=>whnf
  refine Je 97 7 rfl rfl (Al ?_)
  (repeat refine Ar ?_)
  exact Bd
  refine Do (s':=?_) 12 rfl Aa ?_ ?_
  rotate_left
  refine go A0 false ?_
  conv=>whnf
  (repeat refine Ar ?_)
  exact Bd
  refine Ct A0 false 13 rfl rfl Aa rfl (Af D0) ?_
  refine B8p (α:=Value) (s':=?_) 14 rfl Aa ?_ ?_
  rotate_left
  refine go A0 false ?_
  conv=>whnf
  refine B8f A0 rfl rfl rfl rfl rfl rfl (jn:=w.toNat) rfl rfl rfl (fun v3=>go A0 false ?_)
  conv=>whnf
  exact B9f v3
  intro v3
  refine Do (s':=?_) 15 rfl Aa ?_ ?_
  rotate_left
  refine go A0 false ?_
  conv=>whnf
  (repeat refine Ar ?_)
  exact Bd
  refine S7 [16,17,18,19,20] [⟨4,91,.rd v2⟩] Aa ?_
  refine D5 (s':=?_) A0 rfl Aa Gp ?_ ?_
  rotate_left
  refine go A0 false ?_
  conv=>whnf
  (repeat refine Ar ?_)
  exact Bd
  refine D5 (s':=?_) A0 rfl Aa Gp ?_ ?_
  rotate_left
  refine go A0 false ?_
  conv=>whnf
  refine Dp A0 rfl rfl rfl rfl rfl rfl rfl rfl rfl rfl rfl (Ax ((x.workers.getD w.toNat default).queue++[B7 x w])) (Bf rfl) M1 Ac (Al ?_)
  exact Bd
  refine D5 (s':=?_) A0 rfl Aa Gp ?_ ?_
  rotate_left
  refine go A0 false ?_
  conv=>whnf
  refine Je 91 7 rfl rfl (Al ?_)
  (repeat refine Ar ?_)
  exact Bd
  refine D5 (s':=?_) A0 rfl Aa Gp ?_ ?_
  rotate_left
  refine go A0 false ?_
  conv=>whnf
  (repeat refine Ar ?_)
  exact Bd
  refine D5 (s':=?_) A0 rfl Aa Gp ?_ ?_
  rotate_left
  refine go A0 false ?_
  conv=>whnf
  refine D7 (j:=w) A0 rfl rfl rfl rfl rfl rfl rfl rfl (Be (Av x w (kept (A6 x w) (B7 x w))).workers) (B1i hk rfl) (Al ?_)
  exact Bd
  refine P5 A0 Aa Gp (GW.out (Tt ?_))
  conv=>whnf
  refine B8j 0 3 7 rfl rfl rfl ?_
  have hk9:w.toNat<(Av x w (kept (A6 x w) (B7 x w))).workers.length:=by show w.toNat<(x.workers.set _ _).length;rw [List.length_set];exact hk
  have hg9:(Av x w (kept (A6 x w) (B7 x w))).workers.getD w.toNat default=kept (A6 x w) (B7 x w):=C17 hk
  have hl9:((Av x w (kept (A6 x w) (B7 x w))).workers.getD w.toNat default).staged.length=(x.workers.getD w.toNat default).staged.length:=by rw [hg9];rfl
  have hl8:0<((Av x w (kept (A6 x w) (B7 x w))).workers.getD w.toNat default).staged.length:=by omega
  refine B8m 0 3 7 rfl rfl (fun v8=>?_)
  refine B9u 0 3 rfl rfl (fun ho_v8=>?_)
  refine Jc rfl ?_
  refine Ct A0 false 0 rfl rfl Aa rfl (Af D0) ?_
  refine Ct A0 false 1 rfl rfl Aa rfl (Af D0) ?_
  refine Ct A0 false 2 rfl rfl Aa rfl (Af D0) ?_
  refine Ct A0 false 3 rfl rfl Aa rfl (Af D0) ?_
  refine Ct A0 false 5 rfl rfl Aa rfl (Af D0) ?_
  refine Ct A0 false 7 rfl rfl Aa rfl (Af D0) ?_
  refine Ct A0 false 8 rfl rfl Aa rfl (Af D0) ?_
  refine Ct A0 false 9 rfl rfl Aa rfl (Af D0) ?_
  refine Ct A0 false 10 rfl rfl Aa rfl (Af D0) ?_
  refine Ct A0 false 12 rfl rfl Aa rfl (Af D0) ?_
  refine Do (s':=?_) 11 rfl Aa ?_ ?_
  rotate_left
  refine go A0 false ?_
  conv=>whnf
  refine Je 118 7 rfl rfl (Al ?_)
  (repeat refine Ar ?_)
  exact Bd
  refine Do (s':=?_) 13 rfl Aa ?_ ?_
  rotate_left
  refine go A0 false ?_
  conv=>whnf
  (repeat refine Ar ?_)
  exact Bd
  refine Ct A0 false 14 rfl rfl Aa rfl (Af D0) ?_
  refine B8p (α:=Value) (s':=?_) 15 rfl Aa ?_ ?_
  rotate_left
  refine go A0 false ?_
  conv=>whnf
  refine B8f A0 rfl rfl rfl rfl rfl rfl (jn:=w.toNat) rfl rfl rfl (fun v9=>go A0 false ?_)
  conv=>whnf
  exact B9f v9
  intro v9
  refine Do (s':=?_) 16 rfl Aa ?_ ?_
  rotate_left
  refine go A0 false ?_
  conv=>whnf
  refine B5k A0 rfl rfl rfl rfl rfl rfl rfl rfl (l:=1) rfl rfl (⟨by omega,by omega,by omega⟩) (Ax (((Av x w (kept (A6 x w) (B7 x w))).workers.getD w.toNat default).staged.drop 1)) (Lf (k:=1) hl8) (Al ?_)
  exact Bd
  refine S7 [17,18,19,20] [⟨4,111,.rd v8⟩,⟨6,113,.emp 5⟩] Aa ?_
  refine D5 (s':=?_) A0 rfl Aa Gp ?_ ?_
  rotate_left
  refine go A0 false ?_
  conv=>whnf
  refine Dp A0 rfl rfl rfl rfl rfl rfl rfl rfl rfl rfl rfl (Ax (((Av x w (kept (A6 x w) (B7 x w))).workers.getD w.toNat default).staged.drop 1)) (Eh) (fun _=>B0d _) (by (rw [List.length_drop];omega)) (Al ?_)
  exact Bd
  refine D5 (s':=?_) A0 rfl Aa Gp ?_ ?_
  rotate_left
  refine go A0 false ?_
  conv=>whnf
  refine Je 111 7 rfl rfl (Al ?_)
  (repeat refine Ar ?_)
  exact Bd
  refine D5 (s':=?_) A0 rfl Aa Gp ?_ ?_
  rotate_left
  refine go A0 false ?_
  conv=>whnf
  (repeat refine Ar ?_)
  exact Bd
  refine D5 (s':=?_) A0 rfl Aa Gp ?_ ?_
  rotate_left
  refine go A0 false ?_
  conv=>whnf
  refine D7 (j:=w) A0 rfl rfl rfl rfl rfl rfl rfl rfl (Be (Av (Av x w (kept (A6 x w) (B7 x w))) w (Bt (kept (A6 x w) (B7 x w)))).workers) (B1i hk9 (by rw [hg9];rfl)) (Al ?_)
  exact Bd
  refine P5 A0 Aa Gp (GW.out (Tt ?_))
  conv=>whnf
  refine B8r Tryz.prog (fun _ g=>B8j 0 3 7 rfl rfl rfl g) ?_
  rw [B99]
  have hyes:=A1r hM h3
  have hz:rc (C6 x w).1=rcb (Av x w (Bt (kept (A6 x w) (B7 x w)))) (Fp x):=by
   show rcb (C6 x w).1 (Fp (C6 x w).1)=_
   rw [C4f hC h3,hyes,hcs]
   rfl
  rw [hz,hyes]
  exact Kk A0 () trivial rfl rfl rfl rfl Ca
theorem A3b (l:List Cn)(k:Nat):l.eraseIdx k=l.take k++l.drop (k+1):=List.eraseIdx_eq_take_drop_succ l k
theorem A8j {c:A3}{w:Int}(h:¬ (Ap c∧c.news.any (Is w)=true)):D4 c w=(c,false):=if_neg h
theorem B3l {c:A3}{w:Int}(h:Ap c∧c.news.any (Is w)=true)(h1:B1 (A6 c w) (Dd c w).epoch=true):D4 c w=(Ih c w,true):=by
 unfold D4
 rw [if_pos h,if_pos h1]
theorem B3k {c:A3}{w:Int}(h:Ap c∧c.news.any (Is w)=true)(h1:B1 (A6 c w) (Dd c w).epoch=false):D4 c w=(Av (Ih c w) w (Cx (A6 c w) ⟨(Dd c w).epoch,(Dd c w).capped⟩),true):=by
 unfold D4
 rw [if_pos h,if_neg (by rw [h1];decide)]
end Go.Proofs.YtonodkjaoalfjaaGreat
