/- Part 30 of the proof that each of the laws FnColours returns true for every input. No conditions. -/
import Derived.Test.YtdendlkeiaccpaaGreatDoorP29

set_option linter.unusedSimpArgs false
set_option linter.unusedVariables false
set_option maxRecDepth 100000
namespace Go.Proofs.YtdendlkeiaccpaaGreatDoor
open Go.Sx
theorem B3g {c:A3}{w:Int}(h:As c)(h2:(C3 c w).2=true)(h3:Bi c w≠w):B9 (C3 c w).1=decide (Gj (Uv c w)):=by
 rw [P0 h,if_pos ⟨h2,h3⟩]
theorem A95 {c:A3}{w:Int}(h:As c)(h3:Bi c w=w):B9 (C3 c w).1=true:=by
 rw [P0 h,if_neg (fun p=>p.2 h3)]
set_option maxHeartbeats 8000000 in
theorem B4f (x:A3)(w:Int)(h:x.w≤8000000)(og:Eu .i64 x.graph.workers):Dd Tryz.prog (fun _=>True) 116 [] (rc x) [.one (vi w)] (fun _:Unit=>True) (fun _=>rc (C3 x w).1) (fun _=>[.one (vb (C3 x w).2)]):=by
 have h:x.w≤16000000:=by omega
 refine Dp A0 false Tryz.func116 rfl Az fun B b hH hp=>?_
 conv=>whnf
 refine Ak (A6q x w h) hH hp rfl B1 rfl rfl (fun r hr=>go A0 false ?_)
 conv=>whnf
 refine ⟨fun h1=>?_,fun h1=>?_⟩<;>conv=>whnf
 ·have h1:¬ Hj x w:=of_decide_eq_false (by simpa using h1)
  repeat refine Bd ?_
  rw [U1 (fun p=>h1 p.1)]
  exact Bu A0 () trivial rfl rfl rfl rfl B1
 have h1:Hj x w:=of_decide_eq_true (show decide (Hj x w)=true by simpa using h1)
 have hC:=h1.1
 have hb:=h1.2
 have hk:w.toNat<x.workers.length:=by omega
 have hw:=A3.worker_le h hk
 have hWP:=hC.2.1 _ (Ay (d:=default) hk)
 have hlw:=V2 (x.workers.getD w.toNat default)
 repeat refine Bd ?_
 refine Jc A0 rfl rfl rfl rfl rfl rfl (jn:=w.toNat) rfl rfl rfl (fun v=>go A0 false ?_)
 conv=>whnf
 repeat refine Bd ?_
 refine ⟨fun h2=>have h2:=eq_of_beq h2;?_,fun h2=>have h2:=beq_eq_false_iff_ne.1 h2;?_⟩<;>conv=>whnf
 ·repeat refine Bd ?_
  rw [U1 (fun p=>by have:=p.2;simp only [Ab] at this;omega)]
  refine Ej Tryz.prog 7 (w.toNat) [(1,11)] (Al x.workers) hk rfl rfl G2 rfl (Ck rfl) ?_
  exact Bu A0 () trivial rfl rfl rfl rfl B1
 have h2':0<(x.workers.getD w.toNat default).staged.length:=by omega
 have h2:0<(Ab x w).staged.length:=h2'
 have hM:Hj x w∧0<(Ab x w).staged.length:=⟨h1,h2⟩
 have hR:H2 (Bl x w)∧(Bl x w).op<x.graph.nodes.length:=hWP.1.2.1 _ (Ay (d:=default) h2)
 have hgw:=hC.1.1.2.1
 have how:=B3v (k:=(Bl x w).key) (n:=x.graph.workers) hR.1.2.2.2.1.1 hgw.1
 have hwl:=hC.1.2.1
 have hcs:B9 x=true:=decide_eq_true hC
 repeat refine Bd ?_
 refine Je A0 rfl rfl rfl rfl rfl rfl (jn:=w.toNat) rfl (Cw _ _ _) rfl (A8 ?_)
 refine Fz 35 11 rfl rfl (A8 ?_)
 (repeat refine An ?_)
 refine M4 7 (w.toNat) [(1,11)] (Al x.workers) hk rfl rfl G2 rfl (Ck rfl) (I5 ?_)
 conv=>whnf
 have hlk9:=hlw.1
 first|(refine Ax 4 rfl [0,1,2,3,4,5,6,7,8,9] A7 (A8 ?_))|(refine Ax 7 rfl [0,1,2,3,4,5,6,7,8,9,10,11,12,13,14,15] A7 (A8 ?_))|(refine Ax 10 rfl [0,1,2,3,4,5,6,7,8] A7 (A8 ?_))|(refine Ax 12 rfl [0,1,2,3,4,5,6,7,8,9,10,11,12,13,14,15,16,17,18,19,20] A7 (A8 ?_))|(refine Ax 13 rfl [0,1,2,3,4,5,7,8,9,10,11,12,13,14,15,16,6,17,18,19,20] A7 (A8 ?_))
 refine At (Ug (Bl x w).key x.graph.workers Ac) rfl (A8 ?_)
 refine ⟨fun h3=>have h3:=bne_iff_ne.1 h3;?_,fun h3=>have h3:=bne_eq_false_iff_eq.1 h3;?_⟩<;>conv=>whnf
 ·have h3:Bi x w≠w:=h3
  have hmt:0≤Bi x w∧Bi x w<x.graph.workers:=how
  have hln:=T5 hC (f:=w) (t:=Bi x w) Ac hmt
  have hlk:(B0 x w (Bi x w)).toNat<x.links.length:=by omega
  have hll:=A3.link_le h hlk
  have hlp:Iw x.graph.workers w (Ew (Bl x w).key x.graph.workers)=B0 x w (Bi x w):=Q4 hgw Ac hmt
  have hs4:(Ab x w).sums.length=4:=hWP.2.1.1
  have hE:=hR.1.2.1
  have hsum:Gj ((Ab x w).sums.getD (Bl x w).stamp.epoch.toNat default):=hWP.2.2.2.1 _ (Ay (by show (Bl x w).stamp.epoch.toNat<(Ab x w).sums.length;omega))
  refine At (Mf x.graph w (Ew (Bl x w).key x.graph.workers) og) rfl (A8 ?_)
  rw [hlp]
  refine Ks rfl ?_
  refine Ca A0 false 0 rfl rfl A7 rfl (A5 Bb) ?_
  refine Ca A0 false 1 rfl rfl A7 rfl (A5 Bb) ?_
  refine Ca A0 false 2 rfl rfl A7 rfl (A5 Bb) ?_
  refine Ca A0 false 3 rfl rfl A7 rfl (A5 Bb) ?_
  refine Ca A0 false 5 rfl rfl A7 rfl (A5 Bb) ?_
  refine G0 (s':=?_) 4 rfl A7 ?_ ?_
  rotate_left
  refine A8 ?_
  (repeat refine An ?_)
  exact Bh
  refine G0 (s':=?_) 6 rfl A7 ?_ ?_
  rotate_left
  refine A8 ?_
  (repeat refine An ?_)
  exact Bh
  refine R3 (α:=Nat→Value) (s':=?_) 7 rfl A7 ?_ ?_
  rotate_left
  refine A8 ?_
  refine S9 A0 rfl rfl rfl rfl rfl (jn:=(B0 x w (Bi x w)).toNat) rfl (r:=Bz.c ((x.links).getD ((B0 x w (Bi x w)).toNat) default)) rfl hlk rfl rfl (fun u=>go A0 false ?_)
  conv=>whnf
  exact Vv u
  intro u
  refine G0 (s':=?_) 8 rfl A7 ?_ ?_
  rotate_left
  refine A8 ?_
  (repeat refine An ?_)
  exact Bh
  refine Jw [9,13] A7 ⟨?_,?_,trivial⟩
  focus
   refine A8 ?_
   refine Cn (R8 (Br x (B0 x w (Bi x w))) (Bl x w) (by show (x.links.getD _ default).w≤_;omega)) rfl (A8 ?_)
   refine Kt ?_
   refine Ca A0 false 10 rfl rfl A7 rfl (A5 Bb) ?_
   refine B6g (s':=?_) 11 rfl A7 ?_ ?_
   rotate_left
   refine A8 ?_
   (repeat refine An ?_)
   exact Bh
   refine B6g (s':=?_) 12 rfl A7 ?_ ?_
   rotate_left
   refine A8 ?_
   (repeat refine An ?_)
   exact Bh
   refine Jw [13] A7 ⟨?_,trivial⟩
   refine A8 ?_
   (repeat refine An ?_)
   refine Kt ?_
   refine Jw [14] A7 ⟨?_,trivial⟩
   refine A8 ?_
   (repeat refine An ?_)
   refine Kt ?_
   refine Ca A0 false 15 rfl rfl A7 rfl (A5 Bb) ?_
   refine Yz A7 (A8 ?_)
  rotate_left 1
  focus
   refine A8 ?_
   (repeat refine An ?_)
   refine Kt ?_
   refine Jw [9] A7 ⟨?_,trivial⟩
   refine A8 ?_
   refine Cn (R8 (Br x (B0 x w (Bi x w))) (Bl x w) (by show (x.links.getD _ default).w≤_;omega)) rfl (A8 ?_)
   refine Kt ?_
   refine Ca A0 false 10 rfl rfl A7 rfl (A5 Bb) ?_
   refine B6g (s':=?_) 11 rfl A7 ?_ ?_
   rotate_left
   refine A8 ?_
   (repeat refine An ?_)
   exact Bh
   refine B6g (s':=?_) 12 rfl A7 ?_ ?_
   rotate_left
   refine A8 ?_
   (repeat refine An ?_)
   exact Bh
   refine Jw [14] A7 ⟨?_,trivial⟩
   refine A8 ?_
   (repeat refine An ?_)
   refine Kt ?_
   refine Ca A0 false 15 rfl rfl A7 rfl (A5 Bb) ?_
   refine Yz A7 (A8 ?_)
  all_goals
   refine ⟨fun h4=>?_,fun h4=>?_⟩<;>conv=>whnf
   ·have h4:(Cs (Br x (B0 x w (Bi x w))) (Bl x w)).2=false:=by simpa using h4
    repeat refine Bd ?_
    rw [Y8 hM h3 h4]
    refine Ej Tryz.prog 8 ((B0 x w (Bi x w)).toNat) [(1,13)] (Cf x.links) hlk rfl rfl G2 rfl (Ck rfl) ?_
    exact Bu A0 () trivial rfl rfl rfl rfl B1
   have h4:(Cs (Br x (B0 x w (Bi x w))) (Bl x w)).2=true:=by simpa using h4
   have hyes:=Y9 hM h3 h4
   have hfl:=B3g hC (show (C3 x w).2=true by rw [hyes]) h3
   repeat refine Bd ?_
   first|(refine Ax 4 rfl [0,1,2,3,4,5,6,7,8,9] A7 (A8 ?_))|(refine Ax 7 rfl [0,1,2,3,4,5,6,7,8,9,10,11,12,13,14,15] A7 (A8 ?_))|(refine Ax 10 rfl [0,1,2,3,4,5,6,7,8] A7 (A8 ?_))|(refine Ax 12 rfl [0,1,2,3,4,5,6,7,8,9,10,11,12,13,14,15,16,17,18,19,20] A7 (A8 ?_))|(refine Ax 13 rfl [0,1,2,3,4,5,7,8,9,10,11,12,13,14,15,16,6,17,18,19,20] A7 (A8 ?_))
   (repeat refine An ?_)
   refine Am (j:=(B0 x w (Bi x w))) A0 rfl rfl rfl rfl rfl rfl rfl rfl (Cf (C2 x (B0 x w (Bi x w)) (Cs (Br x (B0 x w (Bi x w))) (Bl x w)).1).links) (G8 hlk rfl) ?_
   refine A8 ?_
   refine Ak (A8n (C2 x (B0 x w (Bi x w)) (Cs (Br x (B0 x w (Bi x w))) (Bl x w)).1) (B9 x) w (Bl x w).stamp.epoch 1 hb.1 hk hE.1 (by show (Bl x w).stamp.epoch.toNat<(Ab x w).sums.length;omega) hsum Az) hH hp rfl B1 rfl rfl (fun r2 hr2=>go A0 false ?_)
   conv=>whnf
   have hk9:w.toNat<(B3 (C2 x (B0 x w (Bi x w)) (Cs (Br x (B0 x w (Bi x w))) (Bl x w)).1) w (El (Ab (C2 x (B0 x w (Bi x w)) (Cs (Br x (B0 x w (Bi x w))) (Bl x w)).1) w) (Bl x w).stamp.epoch 1)).workers.length:=by show w.toNat<(x.workers.set _ _).length;rw [List.length_set];exact hk
   have hg9:(B3 (C2 x (B0 x w (Bi x w)) (Cs (Br x (B0 x w (Bi x w))) (Bl x w)).1) w (El (Ab (C2 x (B0 x w (Bi x w)) (Cs (Br x (B0 x w (Bi x w))) (Bl x w)).1) w) (Bl x w).stamp.epoch 1)).workers.getD w.toNat default=El (Ab (C2 x (B0 x w (Bi x w)) (Cs (Br x (B0 x w (Bi x w))) (Bl x w)).1) w) (Bl x w).stamp.epoch 1:=V3 hk
   have hl9:((B3 (C2 x (B0 x w (Bi x w)) (Cs (Br x (B0 x w (Bi x w))) (Bl x w)).1) w (El (Ab (C2 x (B0 x w (Bi x w)) (Cs (Br x (B0 x w (Bi x w))) (Bl x w)).1) w) (Bl x w).stamp.epoch 1)).workers.getD w.toNat default).staged.length=(x.workers.getD w.toNat default).staged.length:=by rw [hg9];rfl
   have hl8:0<((B3 (C2 x (B0 x w (Bi x w)) (Cs (Br x (B0 x w (Bi x w))) (Bl x w)).1) w (El (Ab (C2 x (B0 x w (Bi x w)) (Cs (Br x (B0 x w (Bi x w))) (Bl x w)).1) w) (Bl x w).stamp.epoch 1)).workers.getD w.toNat default).staged.length:=by omega
   refine T9 0 3 17 rfl rfl (fun v8=>?_)
   refine Zg 0 3 rfl rfl (fun ho_v8=>?_)
   refine Ks rfl ?_
   refine Ca A0 false 0 rfl rfl A7 rfl (A5 Bb) ?_
   refine Ca A0 false 1 rfl rfl A7 rfl (A5 Bb) ?_
   refine Ca A0 false 2 rfl rfl A7 rfl (A5 Bb) ?_
   refine Ca A0 false 3 rfl rfl A7 rfl (A5 Bb) ?_
   refine Ca A0 false 5 rfl rfl A7 rfl (A5 Bb) ?_
   refine Ca A0 false 7 rfl rfl A7 rfl (A5 Bb) ?_
   refine Ca A0 false 8 rfl rfl A7 rfl (A5 Bb) ?_
   refine Ca A0 false 9 rfl rfl A7 rfl (A5 Bb) ?_
   refine Ca A0 false 10 rfl rfl A7 rfl (A5 Bb) ?_
   refine Ca A0 false 12 rfl rfl A7 rfl (A5 Bb) ?_
   refine G0 (s':=?_) 11 rfl A7 ?_ ?_
   rotate_left
   refine A8 ?_
   refine Fz 118 17 rfl rfl (A8 ?_)
   (repeat refine An ?_)
   exact Bh
   refine G0 (s':=?_) 13 rfl A7 ?_ ?_
   rotate_left
   refine A8 ?_
   (repeat refine An ?_)
   exact Bh
   refine Ca A0 false 14 rfl rfl A7 rfl (A5 Bb) ?_
   refine R3 (α:=Value) (s':=?_) 15 rfl A7 ?_ ?_
   rotate_left
   refine A8 ?_
   refine Jc A0 rfl rfl rfl rfl rfl rfl (jn:=w.toNat) rfl rfl rfl (fun v9=>go A0 false ?_)
   conv=>whnf
   exact Vv v9
   intro v9
   refine G0 (s':=?_) 16 rfl A7 ?_ ?_
   rotate_left
   refine A8 ?_
   refine A4s A0 rfl rfl rfl rfl rfl rfl rfl rfl (l:=1) rfl rfl (⟨by omega,by omega,by omega⟩) (Ag (((B3 (C2 x (B0 x w (Bi x w)) (Cs (Br x (B0 x w (Bi x w))) (Bl x w)).1) w (El (Ab (C2 x (B0 x w (Bi x w)) (Cs (Br x (B0 x w (Bi x w))) (Bl x w)).1) w) (Bl x w).stamp.epoch 1)).workers.getD w.toNat default).staged.drop 1)) (Gt (k:=1) hl8) (A8 ?_)
   exact Bh
   refine Mq [17,18,19,20] [⟨4,111,.rd v8⟩,⟨6,113,.emp 5⟩] A7 ?_
   refine Bk (s':=?_) A0 rfl A7 Dl ?_ ?_
   rotate_left
   refine A8 ?_
   refine B6 A0 rfl rfl rfl rfl rfl rfl rfl rfl rfl rfl rfl (Ag (((B3 (C2 x (B0 x w (Bi x w)) (Cs (Br x (B0 x w (Bi x w))) (Bl x w)).1) w (El (Ab (C2 x (B0 x w (Bi x w)) (Cs (Br x (B0 x w (Bi x w))) (Bl x w)).1) w) (Bl x w).stamp.epoch 1)).workers.getD w.toNat default).staged.drop 1)) (C1) (fun _=>F7 _) (by (rw [List.length_drop];omega)) (A8 ?_)
   exact Bh
   refine Bk (s':=?_) A0 rfl A7 Dl ?_ ?_
   rotate_left
   refine A8 ?_
   refine Fz 111 17 rfl rfl (A8 ?_)
   (repeat refine An ?_)
   exact Bh
   refine Bk (s':=?_) A0 rfl A7 Dl ?_ ?_
   rotate_left
   refine A8 ?_
   (repeat refine An ?_)
   exact Bh
   refine Bk (s':=?_) A0 rfl A7 Dl ?_ ?_
   rotate_left
   refine A8 ?_
   refine Am (j:=w) A0 rfl rfl rfl rfl rfl rfl rfl rfl (Al (B3 (B3 (C2 x (B0 x w (Bi x w)) (Cs (Br x (B0 x w (Bi x w))) (Bl x w)).1) w (El (Ab (C2 x (B0 x w (Bi x w)) (Cs (Br x (B0 x w (Bi x w))) (Bl x w)).1) w) (Bl x w).stamp.epoch 1)) w (Dz (El (Ab (C2 x (B0 x w (Bi x w)) (Cs (Br x (B0 x w (Bi x w))) (Bl x w)).1) w) (Bl x w).stamp.epoch 1))).workers) (G8 hk9 (by rw [hg9];rfl)) (A8 ?_)
   exact Bh
   refine Jt A0 A7 Dl (GW.out (I5 ?_))
   conv=>whnf
   refine B6z Tryz.prog (fun _ g=>T3 0 3 17 rfl rfl rfl g) ?_
   rw [L6]
   have hz:rc (C3 x w).1=Td (B3 (C2 x (B0 x w (Bi x w)) (Cs (Br x (B0 x w (Bi x w))) (Bl x w)).1) w (Dz (El (Ab (C2 x (B0 x w (Bi x w)) (Cs (Br x (B0 x w (Bi x w))) (Bl x w)).1) w) (Bl x w).stamp.epoch 1))) (B9 x&&Di ((Ab (C2 x (B0 x w (Bi x w)) (Cs (Br x (B0 x w (Bi x w))) (Bl x w)).1) w).sums.getD (Bl x w).stamp.epoch.toNat default+1) (-1000000) 1000000):=by
    show Td (C3 x w).1 (B9 (C3 x w).1)=_
    rw [hfl,hyes,hcs,Bool.true_and,A4t,A1t (w:=Dz (Ab x w)) ⟨hE.1,by show (Bl x w).stamp.epoch<(Ab x w).sums.length;omega⟩]
    rfl
   rw [hz,hyes]
   exact Bu A0 () trivial rfl rfl rfl rfl B1
 have h3:Bi x w=w:=h3
 refine T9 0 3 7 rfl rfl (fun v2=>?_)
 refine Zg 0 3 rfl rfl (fun ho_v2=>?_)
 refine Ks rfl ?_
 refine Ca A0 false 0 rfl rfl A7 rfl (A5 Bb) ?_
 refine Ca A0 false 1 rfl rfl A7 rfl (A5 Bb) ?_
 refine Ca A0 false 2 rfl rfl A7 rfl (A5 Bb) ?_
 refine Ca A0 false 3 rfl rfl A7 rfl (A5 Bb) ?_
 refine Ca A0 false 5 rfl rfl A7 rfl (A5 Bb) ?_
 refine Ca A0 false 6 rfl rfl A7 rfl (A5 Bb) ?_
 refine Ca A0 false 7 rfl rfl A7 rfl (A5 Bb) ?_
 refine Ca A0 false 8 rfl rfl A7 rfl (A5 Bb) ?_
 refine Ca A0 false 9 rfl rfl A7 rfl (A5 Bb) ?_
 refine Ca A0 false 11 rfl rfl A7 rfl (A5 Bb) ?_
 refine G0 (s':=?_) 10 rfl A7 ?_ ?_
 rotate_left
 refine A8 ?_
 refine Fz 97 7 rfl rfl (A8 ?_)
 (repeat refine An ?_)
 exact Bh
 refine G0 (s':=?_) 12 rfl A7 ?_ ?_
 rotate_left
 refine A8 ?_
 (repeat refine An ?_)
 exact Bh
 refine Ca A0 false 13 rfl rfl A7 rfl (A5 Bb) ?_
 refine R3 (α:=Value) (s':=?_) 14 rfl A7 ?_ ?_
 rotate_left
 refine A8 ?_
 refine Jc A0 rfl rfl rfl rfl rfl rfl (jn:=w.toNat) rfl rfl rfl (fun v3=>go A0 false ?_)
 conv=>whnf
 exact Vv v3
 intro v3
 refine G0 (s':=?_) 15 rfl A7 ?_ ?_
 rotate_left
 refine A8 ?_
 (repeat refine An ?_)
 exact Bh
 refine Mq [16,17,18,19,20] [⟨4,91,.rd v2⟩] A7 ?_
 refine Bk (s':=?_) A0 rfl A7 Dl ?_ ?_
 rotate_left
 refine A8 ?_
 (repeat refine An ?_)
 exact Bh
 refine Bk (s':=?_) A0 rfl A7 Dl ?_ ?_
 rotate_left
 refine A8 ?_
 refine B6 A0 rfl rfl rfl rfl rfl rfl rfl rfl rfl rfl rfl (Ag ((x.workers.getD w.toNat default).queue++[Bl x w])) (Ad rfl) Bp Ac (A8 ?_)
 exact Bh
 refine Bk (s':=?_) A0 rfl A7 Dl ?_ ?_
 rotate_left
 refine A8 ?_
 refine Fz 91 7 rfl rfl (A8 ?_)
 (repeat refine An ?_)
 exact Bh
 refine Bk (s':=?_) A0 rfl A7 Dl ?_ ?_
 rotate_left
 refine A8 ?_
 (repeat refine An ?_)
 exact Bh
 refine Bk (s':=?_) A0 rfl A7 Dl ?_ ?_
 rotate_left
 refine A8 ?_
 refine Am (j:=w) A0 rfl rfl rfl rfl rfl rfl rfl rfl (Al (B3 x w (kept (Ab x w) (Bl x w))).workers) (G8 hk rfl) (A8 ?_)
 exact Bh
 refine Jt A0 A7 Dl (GW.out (I5 ?_))
 conv=>whnf
 refine T3 0 3 7 rfl rfl rfl ?_
 have hk9:w.toNat<(B3 x w (kept (Ab x w) (Bl x w))).workers.length:=by show w.toNat<(x.workers.set _ _).length;rw [List.length_set];exact hk
 have hg9:(B3 x w (kept (Ab x w) (Bl x w))).workers.getD w.toNat default=kept (Ab x w) (Bl x w):=V3 hk
 have hl9:((B3 x w (kept (Ab x w) (Bl x w))).workers.getD w.toNat default).staged.length=(x.workers.getD w.toNat default).staged.length:=by rw [hg9];rfl
 have hl8:0<((B3 x w (kept (Ab x w) (Bl x w))).workers.getD w.toNat default).staged.length:=by omega
 refine T9 0 3 7 rfl rfl (fun v8=>?_)
 refine Zg 0 3 rfl rfl (fun ho_v8=>?_)
 refine Ks rfl ?_
 refine Ca A0 false 0 rfl rfl A7 rfl (A5 Bb) ?_
 refine Ca A0 false 1 rfl rfl A7 rfl (A5 Bb) ?_
 refine Ca A0 false 2 rfl rfl A7 rfl (A5 Bb) ?_
 refine Ca A0 false 3 rfl rfl A7 rfl (A5 Bb) ?_
 refine Ca A0 false 5 rfl rfl A7 rfl (A5 Bb) ?_
 refine Ca A0 false 7 rfl rfl A7 rfl (A5 Bb) ?_
 refine Ca A0 false 8 rfl rfl A7 rfl (A5 Bb) ?_
 refine Ca A0 false 9 rfl rfl A7 rfl (A5 Bb) ?_
 refine Ca A0 false 10 rfl rfl A7 rfl (A5 Bb) ?_
 refine Ca A0 false 12 rfl rfl A7 rfl (A5 Bb) ?_
 refine G0 (s':=?_) 11 rfl A7 ?_ ?_
 rotate_left
 refine A8 ?_
 refine Fz 118 7 rfl rfl (A8 ?_)
 (repeat refine An ?_)
 exact Bh
 refine G0 (s':=?_) 13 rfl A7 ?_ ?_
 rotate_left
 refine A8 ?_
 (repeat refine An ?_)
 exact Bh
 refine Ca A0 false 14 rfl rfl A7 rfl (A5 Bb) ?_
 refine R3 (α:=Value) (s':=?_) 15 rfl A7 ?_ ?_
 rotate_left
 refine A8 ?_
 refine Jc A0 rfl rfl rfl rfl rfl rfl (jn:=w.toNat) rfl rfl rfl (fun v9=>go A0 false ?_)
 conv=>whnf
 exact Vv v9
 intro v9
 refine G0 (s':=?_) 16 rfl A7 ?_ ?_
 rotate_left
 refine A8 ?_
 refine A4s A0 rfl rfl rfl rfl rfl rfl rfl rfl (l:=1) rfl rfl (⟨by omega,by omega,by omega⟩) (Ag (((B3 x w (kept (Ab x w) (Bl x w))).workers.getD w.toNat default).staged.drop 1)) (Gt (k:=1) hl8) (A8 ?_)
 exact Bh
 refine Mq [17,18,19,20] [⟨4,111,.rd v8⟩,⟨6,113,.emp 5⟩] A7 ?_
 refine Bk (s':=?_) A0 rfl A7 Dl ?_ ?_
 rotate_left
 refine A8 ?_
 refine B6 A0 rfl rfl rfl rfl rfl rfl rfl rfl rfl rfl rfl (Ag (((B3 x w (kept (Ab x w) (Bl x w))).workers.getD w.toNat default).staged.drop 1)) (C1) (fun _=>F7 _) (by (rw [List.length_drop];omega)) (A8 ?_)
 exact Bh
 refine Bk (s':=?_) A0 rfl A7 Dl ?_ ?_
 rotate_left
 refine A8 ?_
 refine Fz 111 7 rfl rfl (A8 ?_)
 (repeat refine An ?_)
 exact Bh
 refine Bk (s':=?_) A0 rfl A7 Dl ?_ ?_
 rotate_left
 refine A8 ?_
 (repeat refine An ?_)
 exact Bh
 refine Bk (s':=?_) A0 rfl A7 Dl ?_ ?_
 rotate_left
 refine A8 ?_
 refine Am (j:=w) A0 rfl rfl rfl rfl rfl rfl rfl rfl (Al (B3 (B3 x w (kept (Ab x w) (Bl x w))) w (Dz (kept (Ab x w) (Bl x w)))).workers) (G8 hk9 (by rw [hg9];rfl)) (A8 ?_)
 exact Bh
 refine Jt A0 A7 Dl (GW.out (I5 ?_))
 conv=>whnf
 refine B6z Tryz.prog (fun _ g=>T3 0 3 7 rfl rfl rfl g) ?_
 rw [L6]
 have hyes:=A1n hM h3
 have hz:rc (C3 x w).1=Td (B3 x w (Dz (kept (Ab x w) (Bl x w)))) (B9 x):=by
  show Td (C3 x w).1 (B9 (C3 x w).1)=_
  rw [A95 hC h3,hyes,hcs]
  rfl
 rw [hz,hyes]
 exact Bu A0 () trivial rfl rfl rfl rfl B1
end Go.Proofs.YtdendlkeiaccpaaGreatDoor
