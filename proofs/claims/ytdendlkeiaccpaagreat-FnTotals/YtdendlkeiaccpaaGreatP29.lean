/- Part 29 of the proof that each of the laws FnTotals returns true for every input. No conditions. -/
import Derived.Test.YtdendlkeiaccpaaGreatP28

set_option linter.unusedSimpArgs false
set_option linter.unusedVariables false
set_option maxRecDepth 100000
namespace Go.Proofs.YtdendlkeiaccpaaGreat
open Go.Sx
theorem A92 {c:A6}{w:Int}(h:B4 c)(h2:(Ce c w).2=true)(h3:Bb c w≠w):B3 (Ce c w).1=decide (Hv (Yn c w)):=by
 rw [Nb h,if_pos ⟨h2,h3⟩]
theorem A6t {c:A6}{w:Int}(h:B4 c)(h3:Bb c w=w):B3 (Ce c w).1=true:=by
 rw [Nb h,if_neg (fun p=>p.2 h3)]
set_option maxHeartbeats 8000000 in
theorem B06 (x:A6)(w:Int)(h:x.w≤8000000)(og:Et .i64 x.graph.workers):Cr Tryz.prog (fun _=>True) 161 [] (rc x) [.one (vi w)] (fun _:Unit=>True) (fun _=>rc (Ce x w).1) (fun _=>[.one (vb (Ce x w).2)]):=by
 have h:x.w≤16000000:=by omega
 refine Df A0 false Tryz.func161 rfl Aw fun B b hH hp=>?_
 conv=>whnf
 refine Ai (A3l x w h) hH hp rfl At rfl rfl (fun r hr=>go A0 false ?_)
 conv=>whnf
 refine ⟨fun h1=>?_,fun h1=>?_⟩<;>conv=>whnf
 ·have h1:¬ Gp x w:=of_decide_eq_false (by simpa using h1)
  repeat refine B7 ?_
  rw [Rx (fun p=>h1 p.1)]
  exact Bm A0 () trivial rfl rfl rfl rfl At
 have h1:Gp x w:=of_decide_eq_true (show decide (Gp x w)=true by simpa using h1)
 have hC:=h1.1
 have hb:=h1.2
 have hk:w.toNat<x.workers.length:=by omega
 have hw:=A6.worker_le h hk
 have hWP:=hC.2.1 _ (B9 (d:=default) hk)
 have hlw:=T1 (x.workers.getD w.toNat default)
 repeat refine B7 ?_
 refine I1 A0 rfl rfl rfl rfl rfl rfl (jn:=w.toNat) rfl rfl rfl (fun v=>go A0 false ?_)
 conv=>whnf
 repeat refine B7 ?_
 refine ⟨fun h2=>have h2:=eq_of_beq h2;?_,fun h2=>have h2:=beq_eq_false_iff_ne.1 h2;?_⟩<;>conv=>whnf
 ·repeat refine B7 ?_
  rw [Rx (fun p=>by have:=p.2;simp only [Af] at this;omega)]
  refine Gi Tryz.prog 7 (w.toNat) [(1,11)] (Ar x.workers) hk rfl rfl Hi rfl (D0 rfl) ?_
  exact Bm A0 () trivial rfl rfl rfl rfl At
 have h2':0<(x.workers.getD w.toNat default).staged.length:=by omega
 have h2:0<(Af x w).staged.length:=h2'
 have hM:Gp x w∧0<(Af x w).staged.length:=⟨h1,h2⟩
 have hR:H7 (Bf x w)∧(Bf x w).op<x.graph.nodes.length:=hWP.1.2.1 _ (B9 (d:=default) h2)
 have hgw:=hC.1.1.2.1
 have how:=B0h (k:=(Bf x w).key) (n:=x.graph.workers) hR.1.2.2.2.1.1 hgw.1
 have hwl:=hC.1.2.1
 have hcs:B3 x=true:=decide_eq_true hC
 repeat refine B7 ?_
 refine A9u A0 rfl rfl rfl rfl rfl rfl (jn:=w.toNat) rfl (Gd _ _ _) rfl (A8 ?_)
 refine Jw 35 11 rfl rfl (A8 ?_)
 (repeat refine Am ?_)
 refine Mq 7 (w.toNat) [(1,11)] (Ar x.workers) hk rfl rfl Hi rfl (D0 rfl) (Jf ?_)
 conv=>whnf
 have hlk9:=hlw.1
 first|(refine B5 4 rfl [0,1,2,3,4,5,6,7,8,9] A7 (A8 ?_))|(refine B5 7 rfl [0,1,2,3,4,5,6,7,8,9,10,11,12,13,14,15] A7 (A8 ?_))|(refine B5 10 rfl [0,1,2,3,4,5,6,7,8] A7 (A8 ?_))|(refine B5 12 rfl [0,1,2,3,4,5,6,7,8,9,10,11,12,13,14,15,16,17,18,19,20] A7 (A8 ?_))|(refine B5 13 rfl [0,1,2,3,4,5,7,8,9,10,11,12,13,14,15,16,6,17,18,19,20] A7 (A8 ?_))
 refine Az (Sf (Bf x w).key x.graph.workers Ab) rfl (A8 ?_)
 refine ⟨fun h3=>have h3:=bne_iff_ne.1 h3;?_,fun h3=>have h3:=bne_eq_false_iff_eq.1 h3;?_⟩<;>conv=>whnf
 ·have h3:Bb x w≠w:=h3
  have hmt:0≤Bb x w∧Bb x w<x.graph.workers:=how
  have hln:=R5 hC (f:=w) (t:=Bb x w) Ab hmt
  have hlk:(Ay x w (Bb x w)).toNat<x.links.length:=by omega
  have hll:=A6.link_le h hlk
  have hlp:Ho x.graph.workers w (Eo (Bf x w).key x.graph.workers)=Ay x w (Bb x w):=O7 hgw Ab hmt
  have hs4:(Af x w).sums.length=4:=hWP.2.1.1
  have hE:=hR.1.2.1
  have hsum:Hv ((Af x w).sums.getD (Bf x w).stamp.epoch.toNat default):=hWP.2.2.2.1 _ (B9 (by show (Bf x w).stamp.epoch.toNat<(Af x w).sums.length;omega))
  refine Az (L4 x.graph w (Eo (Bf x w).key x.graph.workers) og) rfl (A8 ?_)
  rw [hlp]
  refine Je rfl ?_
  refine Bu A0 false 0 rfl rfl A7 rfl (A4 B1) ?_
  refine Bu A0 false 1 rfl rfl A7 rfl (A4 B1) ?_
  refine Bu A0 false 2 rfl rfl A7 rfl (A4 B1) ?_
  refine Bu A0 false 3 rfl rfl A7 rfl (A4 B1) ?_
  refine Bu A0 false 5 rfl rfl A7 rfl (A4 B1) ?_
  refine Dt (s':=?_) 4 rfl A7 ?_ ?_
  rotate_left
  refine A8 ?_
  (repeat refine Am ?_)
  exact Bh
  refine Dt (s':=?_) 6 rfl A7 ?_ ?_
  rotate_left
  refine A8 ?_
  (repeat refine Am ?_)
  exact Bh
  refine P7 (α:=Nat→Value) (s':=?_) 7 rfl A7 ?_ ?_
  rotate_left
  refine A8 ?_
  refine Up A0 rfl rfl rfl rfl rfl (jn:=(Ay x w (Bb x w)).toNat) rfl (r:=B8.c ((x.links).getD ((Ay x w (Bb x w)).toNat) default)) rfl hlk rfl rfl (fun u=>go A0 false ?_)
  conv=>whnf
  exact Tn u
  intro u
  refine Dt (s':=?_) 8 rfl A7 ?_ ?_
  rotate_left
  refine A8 ?_
  (repeat refine Am ?_)
  exact Bh
  refine Ek [9,13] A7 ⟨?_,?_,trivial⟩
  focus
   refine A8 ?_
   refine Cx (Pd (Bz x (Ay x w (Bb x w))) (Bf x w) (by show (x.links.getD _ default).w≤_;omega)) rfl (A8 ?_)
   refine Eu ?_
   refine Bu A0 false 10 rfl rfl A7 rfl (A4 B1) ?_
   refine B2z (s':=?_) 11 rfl A7 ?_ ?_
   rotate_left
   refine A8 ?_
   (repeat refine Am ?_)
   exact Bh
   refine B2z (s':=?_) 12 rfl A7 ?_ ?_
   rotate_left
   refine A8 ?_
   (repeat refine Am ?_)
   exact Bh
   refine Ek [13] A7 ⟨?_,trivial⟩
   refine A8 ?_
   (repeat refine Am ?_)
   refine Eu ?_
   refine Ek [14] A7 ⟨?_,trivial⟩
   refine A8 ?_
   (repeat refine Am ?_)
   refine Eu ?_
   refine Bu A0 false 15 rfl rfl A7 rfl (A4 B1) ?_
   refine Mj A7 (A8 ?_)
  rotate_left 1
  focus
   refine A8 ?_
   (repeat refine Am ?_)
   refine Eu ?_
   refine Ek [9] A7 ⟨?_,trivial⟩
   refine A8 ?_
   refine Cx (Pd (Bz x (Ay x w (Bb x w))) (Bf x w) (by show (x.links.getD _ default).w≤_;omega)) rfl (A8 ?_)
   refine Eu ?_
   refine Bu A0 false 10 rfl rfl A7 rfl (A4 B1) ?_
   refine B2z (s':=?_) 11 rfl A7 ?_ ?_
   rotate_left
   refine A8 ?_
   (repeat refine Am ?_)
   exact Bh
   refine B2z (s':=?_) 12 rfl A7 ?_ ?_
   rotate_left
   refine A8 ?_
   (repeat refine Am ?_)
   exact Bh
   refine Ek [14] A7 ⟨?_,trivial⟩
   refine A8 ?_
   (repeat refine Am ?_)
   refine Eu ?_
   refine Bu A0 false 15 rfl rfl A7 rfl (A4 B1) ?_
   refine Mj A7 (A8 ?_)
  all_goals
   refine ⟨fun h4=>?_,fun h4=>?_⟩<;>conv=>whnf
   ·have h4:(Cl (Bz x (Ay x w (Bb x w))) (Bf x w)).2=false:=by simpa using h4
    repeat refine B7 ?_
    rw [W7 hM h3 h4]
    refine Gi Tryz.prog 8 ((Ay x w (Bb x w)).toNat) [(1,13)] (Ct x.links) hlk rfl rfl Hi rfl (D0 rfl) ?_
    exact Bm A0 () trivial rfl rfl rfl rfl At
   have h4:(Cl (Bz x (Ay x w (Bb x w))) (Bf x w)).2=true:=by simpa using h4
   have hyes:=W8 hM h3 h4
   have hfl:=A92 hC (show (Ce x w).2=true by rw [hyes]) h3
   repeat refine B7 ?_
   first|(refine B5 4 rfl [0,1,2,3,4,5,6,7,8,9] A7 (A8 ?_))|(refine B5 7 rfl [0,1,2,3,4,5,6,7,8,9,10,11,12,13,14,15] A7 (A8 ?_))|(refine B5 10 rfl [0,1,2,3,4,5,6,7,8] A7 (A8 ?_))|(refine B5 12 rfl [0,1,2,3,4,5,6,7,8,9,10,11,12,13,14,15,16,17,18,19,20] A7 (A8 ?_))|(refine B5 13 rfl [0,1,2,3,4,5,7,8,9,10,11,12,13,14,15,16,6,17,18,19,20] A7 (A8 ?_))
   (repeat refine Am ?_)
   refine Al (j:=(Ay x w (Bb x w))) A0 rfl rfl rfl rfl rfl rfl rfl rfl (Ct (Cb x (Ay x w (Bb x w)) (Cl (Bz x (Ay x w (Bb x w))) (Bf x w)).1).links) (Fg hlk rfl) ?_
   refine A8 ?_
   refine Ai (A5h (Cb x (Ay x w (Bb x w)) (Cl (Bz x (Ay x w (Bb x w))) (Bf x w)).1) (B3 x) w (Bf x w).stamp.epoch 1 hb.1 hk hE.1 (by show (Bf x w).stamp.epoch.toNat<(Af x w).sums.length;omega) hsum Aw) hH hp rfl At rfl rfl (fun r2 hr2=>go A0 false ?_)
   conv=>whnf
   have hk9:w.toNat<(Bc (Cb x (Ay x w (Bb x w)) (Cl (Bz x (Ay x w (Bb x w))) (Bf x w)).1) w (F4 (Af (Cb x (Ay x w (Bb x w)) (Cl (Bz x (Ay x w (Bb x w))) (Bf x w)).1) w) (Bf x w).stamp.epoch 1)).workers.length:=by show w.toNat<(x.workers.set _ _).length;rw [List.length_set];exact hk
   have hg9:(Bc (Cb x (Ay x w (Bb x w)) (Cl (Bz x (Ay x w (Bb x w))) (Bf x w)).1) w (F4 (Af (Cb x (Ay x w (Bb x w)) (Cl (Bz x (Ay x w (Bb x w))) (Bf x w)).1) w) (Bf x w).stamp.epoch 1)).workers.getD w.toNat default=F4 (Af (Cb x (Ay x w (Bb x w)) (Cl (Bz x (Ay x w (Bb x w))) (Bf x w)).1) w) (Bf x w).stamp.epoch 1:=T2 hk
   have hl9:((Bc (Cb x (Ay x w (Bb x w)) (Cl (Bz x (Ay x w (Bb x w))) (Bf x w)).1) w (F4 (Af (Cb x (Ay x w (Bb x w)) (Cl (Bz x (Ay x w (Bb x w))) (Bf x w)).1) w) (Bf x w).stamp.epoch 1)).workers.getD w.toNat default).staged.length=(x.workers.getD w.toNat default).staged.length:=by rw [hg9];rfl
   have hl8:0<((Bc (Cb x (Ay x w (Bb x w)) (Cl (Bz x (Ay x w (Bb x w))) (Bf x w)).1) w (F4 (Af (Cb x (Ay x w (Bb x w)) (Cl (Bz x (Ay x w (Bb x w))) (Bf x w)).1) w) (Bf x w).stamp.epoch 1)).workers.getD w.toNat default).staged.length:=by omega
   refine R7 0 3 17 rfl rfl (fun v8=>?_)
   refine Xc 0 3 rfl rfl (fun ho_v8=>?_)
   refine Je rfl ?_
   refine Bu A0 false 0 rfl rfl A7 rfl (A4 B1) ?_
   refine Bu A0 false 1 rfl rfl A7 rfl (A4 B1) ?_
   refine Bu A0 false 2 rfl rfl A7 rfl (A4 B1) ?_
   refine Bu A0 false 3 rfl rfl A7 rfl (A4 B1) ?_
   refine Bu A0 false 5 rfl rfl A7 rfl (A4 B1) ?_
   refine Bu A0 false 7 rfl rfl A7 rfl (A4 B1) ?_
   refine Bu A0 false 8 rfl rfl A7 rfl (A4 B1) ?_
   refine Bu A0 false 9 rfl rfl A7 rfl (A4 B1) ?_
   refine Bu A0 false 10 rfl rfl A7 rfl (A4 B1) ?_
   refine Bu A0 false 12 rfl rfl A7 rfl (A4 B1) ?_
   refine Dt (s':=?_) 11 rfl A7 ?_ ?_
   rotate_left
   refine A8 ?_
   refine Jw 118 17 rfl rfl (A8 ?_)
   (repeat refine Am ?_)
   exact Bh
   refine Dt (s':=?_) 13 rfl A7 ?_ ?_
   rotate_left
   refine A8 ?_
   (repeat refine Am ?_)
   exact Bh
   refine Bu A0 false 14 rfl rfl A7 rfl (A4 B1) ?_
   refine P7 (α:=Value) (s':=?_) 15 rfl A7 ?_ ?_
   rotate_left
   refine A8 ?_
   refine I1 A0 rfl rfl rfl rfl rfl rfl (jn:=w.toNat) rfl rfl rfl (fun v9=>go A0 false ?_)
   conv=>whnf
   exact Tn v9
   intro v9
   refine Dt (s':=?_) 16 rfl A7 ?_ ?_
   rotate_left
   refine A8 ?_
   refine A1v A0 rfl rfl rfl rfl rfl rfl rfl rfl (l:=1) rfl rfl (⟨by omega,by omega,by omega⟩) (Aa (((Bc (Cb x (Ay x w (Bb x w)) (Cl (Bz x (Ay x w (Bb x w))) (Bf x w)).1) w (F4 (Af (Cb x (Ay x w (Bb x w)) (Cl (Bz x (Ay x w (Bb x w))) (Bf x w)).1) w) (Bf x w).stamp.epoch 1)).workers.getD w.toNat default).staged.drop 1)) (Fw (k:=1) hl8) (A8 ?_)
   exact Bh
   refine Ng [17,18,19,20] [⟨4,111,.rd v8⟩,⟨6,113,.emp 5⟩] A7 ?_
   refine Bp (s':=?_) A0 rfl A7 Dx ?_ ?_
   rotate_left
   refine A8 ?_
   refine Av A0 rfl rfl rfl rfl rfl rfl rfl rfl rfl rfl rfl (Aa (((Bc (Cb x (Ay x w (Bb x w)) (Cl (Bz x (Ay x w (Bb x w))) (Bf x w)).1) w (F4 (Af (Cb x (Ay x w (Bb x w)) (Cl (Bz x (Ay x w (Bb x w))) (Bf x w)).1) w) (Bf x w).stamp.epoch 1)).workers.getD w.toNat default).staged.drop 1)) (Cc) (fun _=>Cd _) (by (rw [List.length_drop];omega)) (A8 ?_)
   exact Bh
   refine Bp (s':=?_) A0 rfl A7 Dx ?_ ?_
   rotate_left
   refine A8 ?_
   refine Jw 111 17 rfl rfl (A8 ?_)
   (repeat refine Am ?_)
   exact Bh
   refine Bp (s':=?_) A0 rfl A7 Dx ?_ ?_
   rotate_left
   refine A8 ?_
   (repeat refine Am ?_)
   exact Bh
   refine Bp (s':=?_) A0 rfl A7 Dx ?_ ?_
   rotate_left
   refine A8 ?_
   refine Al (j:=w) A0 rfl rfl rfl rfl rfl rfl rfl rfl (Ar (Bc (Bc (Cb x (Ay x w (Bb x w)) (Cl (Bz x (Ay x w (Bb x w))) (Bf x w)).1) w (F4 (Af (Cb x (Ay x w (Bb x w)) (Cl (Bz x (Ay x w (Bb x w))) (Bf x w)).1) w) (Bf x w).stamp.epoch 1)) w (E7 (F4 (Af (Cb x (Ay x w (Bb x w)) (Cl (Bz x (Ay x w (Bb x w))) (Bf x w)).1) w) (Bf x w).stamp.epoch 1))).workers) (Fg hk9 (by rw [hg9];rfl)) (A8 ?_)
   exact Bh
   refine L0 A0 A7 Dx (GW.out (Jf ?_))
   conv=>whnf
   refine B3h Tryz.prog (fun _ g=>R3 0 3 17 rfl rfl rfl g) ?_
   rw [Js]
   have hz:rc (Ce x w).1=Rc (Bc (Cb x (Ay x w (Bb x w)) (Cl (Bz x (Ay x w (Bb x w))) (Bf x w)).1) w (E7 (F4 (Af (Cb x (Ay x w (Bb x w)) (Cl (Bz x (Ay x w (Bb x w))) (Bf x w)).1) w) (Bf x w).stamp.epoch 1))) (B3 x&&Eb ((Af (Cb x (Ay x w (Bb x w)) (Cl (Bz x (Ay x w (Bb x w))) (Bf x w)).1) w).sums.getD (Bf x w).stamp.epoch.toNat default+1) (-1000000) 1000000):=by
    show Rc (Ce x w).1 (B3 (Ce x w).1)=_
    rw [hfl,hyes,hcs,Bool.true_and,A1z,Z2 (w:=E7 (Af x w)) ⟨hE.1,by show (Bf x w).stamp.epoch<(Af x w).sums.length;omega⟩]
    rfl
   rw [hz,hyes]
   exact Bm A0 () trivial rfl rfl rfl rfl At
 have h3:Bb x w=w:=h3
 refine R7 0 3 7 rfl rfl (fun v2=>?_)
 refine Xc 0 3 rfl rfl (fun ho_v2=>?_)
 refine Je rfl ?_
 refine Bu A0 false 0 rfl rfl A7 rfl (A4 B1) ?_
 refine Bu A0 false 1 rfl rfl A7 rfl (A4 B1) ?_
 refine Bu A0 false 2 rfl rfl A7 rfl (A4 B1) ?_
 refine Bu A0 false 3 rfl rfl A7 rfl (A4 B1) ?_
 refine Bu A0 false 5 rfl rfl A7 rfl (A4 B1) ?_
 refine Bu A0 false 6 rfl rfl A7 rfl (A4 B1) ?_
 refine Bu A0 false 7 rfl rfl A7 rfl (A4 B1) ?_
 refine Bu A0 false 8 rfl rfl A7 rfl (A4 B1) ?_
 refine Bu A0 false 9 rfl rfl A7 rfl (A4 B1) ?_
 refine Bu A0 false 11 rfl rfl A7 rfl (A4 B1) ?_
 refine Dt (s':=?_) 10 rfl A7 ?_ ?_
 rotate_left
 refine A8 ?_
 refine Jw 97 7 rfl rfl (A8 ?_)
 (repeat refine Am ?_)
 exact Bh
 refine Dt (s':=?_) 12 rfl A7 ?_ ?_
 rotate_left
 refine A8 ?_
 (repeat refine Am ?_)
 exact Bh
 refine Bu A0 false 13 rfl rfl A7 rfl (A4 B1) ?_
 refine P7 (α:=Value) (s':=?_) 14 rfl A7 ?_ ?_
 rotate_left
 refine A8 ?_
 refine I1 A0 rfl rfl rfl rfl rfl rfl (jn:=w.toNat) rfl rfl rfl (fun v3=>go A0 false ?_)
 conv=>whnf
 exact Tn v3
 intro v3
 refine Dt (s':=?_) 15 rfl A7 ?_ ?_
 rotate_left
 refine A8 ?_
 (repeat refine Am ?_)
 exact Bh
 refine Ng [16,17,18,19,20] [⟨4,91,.rd v2⟩] A7 ?_
 refine Bp (s':=?_) A0 rfl A7 Dx ?_ ?_
 rotate_left
 refine A8 ?_
 (repeat refine Am ?_)
 exact Bh
 refine Bp (s':=?_) A0 rfl A7 Dx ?_ ?_
 rotate_left
 refine A8 ?_
 refine Av A0 rfl rfl rfl rfl rfl rfl rfl rfl rfl rfl rfl (Aa ((x.workers.getD w.toNat default).queue++[Bf x w])) (Ad rfl) Bj Ab (A8 ?_)
 exact Bh
 refine Bp (s':=?_) A0 rfl A7 Dx ?_ ?_
 rotate_left
 refine A8 ?_
 refine Jw 91 7 rfl rfl (A8 ?_)
 (repeat refine Am ?_)
 exact Bh
 refine Bp (s':=?_) A0 rfl A7 Dx ?_ ?_
 rotate_left
 refine A8 ?_
 (repeat refine Am ?_)
 exact Bh
 refine Bp (s':=?_) A0 rfl A7 Dx ?_ ?_
 rotate_left
 refine A8 ?_
 refine Al (j:=w) A0 rfl rfl rfl rfl rfl rfl rfl rfl (Ar (Bc x w (kept (Af x w) (Bf x w))).workers) (Fg hk rfl) (A8 ?_)
 exact Bh
 refine L0 A0 A7 Dx (GW.out (Jf ?_))
 conv=>whnf
 refine R3 0 3 7 rfl rfl rfl ?_
 have hk9:w.toNat<(Bc x w (kept (Af x w) (Bf x w))).workers.length:=by show w.toNat<(x.workers.set _ _).length;rw [List.length_set];exact hk
 have hg9:(Bc x w (kept (Af x w) (Bf x w))).workers.getD w.toNat default=kept (Af x w) (Bf x w):=T2 hk
 have hl9:((Bc x w (kept (Af x w) (Bf x w))).workers.getD w.toNat default).staged.length=(x.workers.getD w.toNat default).staged.length:=by rw [hg9];rfl
 have hl8:0<((Bc x w (kept (Af x w) (Bf x w))).workers.getD w.toNat default).staged.length:=by omega
 refine R7 0 3 7 rfl rfl (fun v8=>?_)
 refine Xc 0 3 rfl rfl (fun ho_v8=>?_)
 refine Je rfl ?_
 refine Bu A0 false 0 rfl rfl A7 rfl (A4 B1) ?_
 refine Bu A0 false 1 rfl rfl A7 rfl (A4 B1) ?_
 refine Bu A0 false 2 rfl rfl A7 rfl (A4 B1) ?_
 refine Bu A0 false 3 rfl rfl A7 rfl (A4 B1) ?_
 refine Bu A0 false 5 rfl rfl A7 rfl (A4 B1) ?_
 refine Bu A0 false 7 rfl rfl A7 rfl (A4 B1) ?_
 refine Bu A0 false 8 rfl rfl A7 rfl (A4 B1) ?_
 refine Bu A0 false 9 rfl rfl A7 rfl (A4 B1) ?_
 refine Bu A0 false 10 rfl rfl A7 rfl (A4 B1) ?_
 refine Bu A0 false 12 rfl rfl A7 rfl (A4 B1) ?_
 refine Dt (s':=?_) 11 rfl A7 ?_ ?_
 rotate_left
 refine A8 ?_
 refine Jw 118 7 rfl rfl (A8 ?_)
 (repeat refine Am ?_)
 exact Bh
 refine Dt (s':=?_) 13 rfl A7 ?_ ?_
 rotate_left
 refine A8 ?_
 (repeat refine Am ?_)
 exact Bh
 refine Bu A0 false 14 rfl rfl A7 rfl (A4 B1) ?_
 refine P7 (α:=Value) (s':=?_) 15 rfl A7 ?_ ?_
 rotate_left
 refine A8 ?_
 refine I1 A0 rfl rfl rfl rfl rfl rfl (jn:=w.toNat) rfl rfl rfl (fun v9=>go A0 false ?_)
 conv=>whnf
 exact Tn v9
 intro v9
 refine Dt (s':=?_) 16 rfl A7 ?_ ?_
 rotate_left
 refine A8 ?_
 refine A1v A0 rfl rfl rfl rfl rfl rfl rfl rfl (l:=1) rfl rfl (⟨by omega,by omega,by omega⟩) (Aa (((Bc x w (kept (Af x w) (Bf x w))).workers.getD w.toNat default).staged.drop 1)) (Fw (k:=1) hl8) (A8 ?_)
 exact Bh
 refine Ng [17,18,19,20] [⟨4,111,.rd v8⟩,⟨6,113,.emp 5⟩] A7 ?_
 refine Bp (s':=?_) A0 rfl A7 Dx ?_ ?_
 rotate_left
 refine A8 ?_
 refine Av A0 rfl rfl rfl rfl rfl rfl rfl rfl rfl rfl rfl (Aa (((Bc x w (kept (Af x w) (Bf x w))).workers.getD w.toNat default).staged.drop 1)) (Cc) (fun _=>Cd _) (by (rw [List.length_drop];omega)) (A8 ?_)
 exact Bh
 refine Bp (s':=?_) A0 rfl A7 Dx ?_ ?_
 rotate_left
 refine A8 ?_
 refine Jw 111 7 rfl rfl (A8 ?_)
 (repeat refine Am ?_)
 exact Bh
 refine Bp (s':=?_) A0 rfl A7 Dx ?_ ?_
 rotate_left
 refine A8 ?_
 (repeat refine Am ?_)
 exact Bh
 refine Bp (s':=?_) A0 rfl A7 Dx ?_ ?_
 rotate_left
 refine A8 ?_
 refine Al (j:=w) A0 rfl rfl rfl rfl rfl rfl rfl rfl (Ar (Bc (Bc x w (kept (Af x w) (Bf x w))) w (E7 (kept (Af x w) (Bf x w)))).workers) (Fg hk9 (by rw [hg9];rfl)) (A8 ?_)
 exact Bh
 refine L0 A0 A7 Dx (GW.out (Jf ?_))
 conv=>whnf
 refine B3h Tryz.prog (fun _ g=>R3 0 3 7 rfl rfl rfl g) ?_
 rw [Js]
 have hyes:=Yw hM h3
 have hz:rc (Ce x w).1=Rc (Bc x w (E7 (kept (Af x w) (Bf x w)))) (B3 x):=by
  show Rc (Ce x w).1 (B3 (Ce x w).1)=_
  rw [A6t hC h3,hyes,hcs]
  rfl
 rw [hz,hyes]
 exact Bm A0 () trivial rfl rfl rfl rfl At
end Go.Proofs.YtdendlkeiaccpaaGreat
