/- Part 28 of the proof that each of the laws FnTold returns true for every input. No conditions. -/
import Derived.Test.YtdendlkeiaccpaaGreatDoorP27

set_option linter.unusedSimpArgs false
set_option linter.unusedVariables false
set_option maxRecDepth 100000
namespace Go.Proofs.YtdendlkeiaccpaaGreatDoor
open Go.Sx
theorem B0u {c:A5}{w:Int}(h:B6 c)(h2:(Cg c w).2=true)(h3:Ba c w≠w):B4 (Cg c w).1=decide (I4 (Ze c w)):=by
 rw [Nf h,if_pos ⟨h2,h3⟩]
theorem A7l {c:A5}{w:Int}(h:B6 c)(h3:Ba c w=w):B4 (Cg c w).1=true:=by
 rw [Nf h,if_neg (fun p=>p.2 h3)]
set_option maxHeartbeats 8000000 in
theorem B1u (x:A5)(w:Int)(h:x.w≤8000000)(og:Ee .i64 x.graph.workers):Cw Tryz.prog (fun _=>True) 116 [] (rc x) [.one (vi w)] (fun _:Unit=>True) (fun _=>rc (Cg x w).1) (fun _=>[.one (vb (Cg x w).2)]):=by
 have h:x.w≤16000000:=by omega
 refine Dn A0 false Tryz.func116 rfl Aw fun B b hH hp=>?_
 conv=>whnf
 refine Aj (A4f x w h) hH hp rfl Ay rfl rfl (fun r hr=>go A0 false ?_)
 conv=>whnf
 refine ⟨fun h1=>?_,fun h1=>?_⟩<;>conv=>whnf
 ·have h1:¬ Gz x w:=of_decide_eq_false (by simpa using h1)
  repeat refine Bj ?_
  rw [Sh (fun p=>h1 p.1)]
  exact Bl A0 () trivial rfl rfl rfl rfl Ay
 have h1:Gz x w:=of_decide_eq_true (show decide (Gz x w)=true by simpa using h1)
 have hC:=h1.1
 have hb:=h1.2
 have hk:w.toNat<x.workers.length:=by omega
 have hw:=A5.worker_le h hk
 have hWP:=hC.2.1 _ (B8 (d:=default) hk)
 have hlw:=Tg (x.workers.getD w.toNat default)
 repeat refine Bj ?_
 refine I9 A0 rfl rfl rfl rfl rfl rfl (jn:=w.toNat) rfl rfl rfl (fun v=>go A0 false ?_)
 conv=>whnf
 repeat refine Bj ?_
 refine ⟨fun h2=>have h2:=eq_of_beq h2;?_,fun h2=>have h2:=beq_eq_false_iff_ne.1 h2;?_⟩<;>conv=>whnf
 ·repeat refine Bj ?_
  rw [Sh (fun p=>by have:=p.2;simp only [Ad] at this;omega)]
  refine Gu Tryz.prog 7 (w.toNat) [(1,11)] (Av x.workers) hk rfl rfl Ht rfl (D5 rfl) ?_
  exact Bl A0 () trivial rfl rfl rfl rfl Ay
 have h2':0<(x.workers.getD w.toNat default).staged.length:=by omega
 have h2:0<(Ad x w).staged.length:=h2'
 have hM:Gz x w∧0<(Ad x w).staged.length:=⟨h1,h2⟩
 have hR:Hs (Be x w)∧(Be x w).op<x.graph.nodes.length:=hWP.1.2.1 _ (B8 (d:=default) h2)
 have hgw:=hC.1.1.2.1
 have how:=B06 (k:=(Be x w).key) (n:=x.graph.workers) hR.1.2.2.2.1.1 hgw.1
 have hwl:=hC.1.2.1
 have hcs:B4 x=true:=decide_eq_true hC
 repeat refine Bj ?_
 refine B0k A0 rfl rfl rfl rfl rfl rfl (jn:=w.toNat) rfl (Gr _ _ _) rfl (A8 ?_)
 refine K0 35 11 rfl rfl (A8 ?_)
 (repeat refine An ?_)
 refine Mr 7 (w.toNat) [(1,11)] (Av x.workers) hk rfl rfl Ht rfl (D5 rfl) (Ji ?_)
 conv=>whnf
 have hlk9:=hlw.1
 first|(refine B7 4 rfl [0,1,2,3,4,5,6,7,8,9] A7 (A8 ?_))|(refine B7 7 rfl [0,1,2,3,4,5,6,7,8,9,10,11,12,13,14,15] A7 (A8 ?_))|(refine B7 10 rfl [0,1,2,3,4,5,6,7,8] A7 (A8 ?_))|(refine B7 12 rfl [0,1,2,3,4,5,6,7,8,9,10,11,12,13,14,15,16,17,18,19,20] A7 (A8 ?_))|(refine B7 13 rfl [0,1,2,3,4,5,7,8,9,10,11,12,13,14,15,16,6,17,18,19,20] A7 (A8 ?_))
 refine B5 (Sy (Be x w).key x.graph.workers Ab) rfl (A8 ?_)
 refine ⟨fun h3=>have h3:=bne_iff_ne.1 h3;?_,fun h3=>have h3:=bne_eq_false_iff_eq.1 h3;?_⟩<;>conv=>whnf
 ·have h3:Ba x w≠w:=h3
  have hmt:0≤Ba x w∧Ba x w<x.graph.workers:=how
  have hln:=Ro hC (f:=w) (t:=Ba x w) Ab hmt
  have hlk:(B0 x w (Ba x w)).toNat<x.links.length:=by omega
  have hll:=A5.link_le h hlk
  have hlp:Di x.graph.workers w (F1 (Be x w).key x.graph.workers)=B0 x w (Ba x w):=Oh hgw Ab hmt
  have hs4:(Ad x w).sums.length=4:=hWP.2.1.1
  have hE:=hR.1.2.1
  have hsum:I4 ((Ad x w).sums.getD (Be x w).stamp.epoch.toNat default):=hWP.2.2.2.1 _ (B8 (by show (Be x w).stamp.epoch.toNat<(Ad x w).sums.length;omega))
  refine B5 (J1 x.graph w (F1 (Be x w).key x.graph.workers) og) rfl (A8 ?_)
  rw [hlp]
  refine J8 rfl ?_
  refine Bu A0 false 0 rfl rfl A7 rfl (A4 B2) ?_
  refine Bu A0 false 1 rfl rfl A7 rfl (A4 B2) ?_
  refine Bu A0 false 2 rfl rfl A7 rfl (A4 B2) ?_
  refine Bu A0 false 3 rfl rfl A7 rfl (A4 B2) ?_
  refine Bu A0 false 5 rfl rfl A7 rfl (A4 B2) ?_
  refine Ej (s':=?_) 4 rfl A7 ?_ ?_
  rotate_left
  refine A8 ?_
  (repeat refine An ?_)
  exact Bf
  refine Ej (s':=?_) 6 rfl A7 ?_ ?_
  rotate_left
  refine A8 ?_
  (repeat refine An ?_)
  exact Bf
  refine Pj (α:=Nat→Value) (s':=?_) 7 rfl A7 ?_ ?_
  rotate_left
  refine A8 ?_
  refine V1 A0 rfl rfl rfl rfl rfl (jn:=(B0 x w (Ba x w)).toNat) rfl (r:=Bv.c ((x.links).getD ((B0 x w (Ba x w)).toNat) default)) rfl hlk rfl rfl (fun u=>go A0 false ?_)
  conv=>whnf
  exact Tz u
  intro u
  refine Ej (s':=?_) 8 rfl A7 ?_ ?_
  rotate_left
  refine A8 ?_
  (repeat refine An ?_)
  exact Bf
  refine Gv [9,13] A7 ⟨?_,?_,trivial⟩
  focus
   refine A8 ?_
   refine Cq (Pp (Bz x (B0 x w (Ba x w))) (Be x w) (by show (x.links.getD _ default).w≤_;omega)) rfl (A8 ?_)
   refine He ?_
   refine Bu A0 false 10 rfl rfl A7 rfl (A4 B2) ?_
   refine A1w (s':=?_) 11 rfl A7 ?_ ?_
   rotate_left
   refine A8 ?_
   (repeat refine An ?_)
   exact Bf
   refine A1w (s':=?_) 12 rfl A7 ?_ ?_
   rotate_left
   refine A8 ?_
   (repeat refine An ?_)
   exact Bf
   refine Gv [13] A7 ⟨?_,trivial⟩
   refine A8 ?_
   (repeat refine An ?_)
   refine He ?_
   refine Gv [14] A7 ⟨?_,trivial⟩
   refine A8 ?_
   (repeat refine An ?_)
   refine He ?_
   refine Bu A0 false 15 rfl rfl A7 rfl (A4 B2) ?_
   refine S5 A7 (A8 ?_)
  rotate_left 1
  focus
   refine A8 ?_
   (repeat refine An ?_)
   refine He ?_
   refine Gv [9] A7 ⟨?_,trivial⟩
   refine A8 ?_
   refine Cq (Pp (Bz x (B0 x w (Ba x w))) (Be x w) (by show (x.links.getD _ default).w≤_;omega)) rfl (A8 ?_)
   refine He ?_
   refine Bu A0 false 10 rfl rfl A7 rfl (A4 B2) ?_
   refine A1w (s':=?_) 11 rfl A7 ?_ ?_
   rotate_left
   refine A8 ?_
   (repeat refine An ?_)
   exact Bf
   refine A1w (s':=?_) 12 rfl A7 ?_ ?_
   rotate_left
   refine A8 ?_
   (repeat refine An ?_)
   exact Bf
   refine Gv [14] A7 ⟨?_,trivial⟩
   refine A8 ?_
   (repeat refine An ?_)
   refine He ?_
   refine Bu A0 false 15 rfl rfl A7 rfl (A4 B2) ?_
   refine S5 A7 (A8 ?_)
  all_goals
   refine ⟨fun h4=>?_,fun h4=>?_⟩<;>conv=>whnf
   ·have h4:(Co (Bz x (B0 x w (Ba x w))) (Be x w)).2=false:=by simpa using h4
    repeat refine Bj ?_
    rw [Wh hM h3 h4]
    refine Gu Tryz.prog 8 ((B0 x w (Ba x w)).toNat) [(1,13)] (Cy x.links) hlk rfl rfl Ht rfl (D5 rfl) ?_
    exact Bl A0 () trivial rfl rfl rfl rfl Ay
   have h4:(Co (Bz x (B0 x w (Ba x w))) (Be x w)).2=true:=by simpa using h4
   have hyes:=Wi hM h3 h4
   have hfl:=B0u hC (show (Cg x w).2=true by rw [hyes]) h3
   repeat refine Bj ?_
   first|(refine B7 4 rfl [0,1,2,3,4,5,6,7,8,9] A7 (A8 ?_))|(refine B7 7 rfl [0,1,2,3,4,5,6,7,8,9,10,11,12,13,14,15] A7 (A8 ?_))|(refine B7 10 rfl [0,1,2,3,4,5,6,7,8] A7 (A8 ?_))|(refine B7 12 rfl [0,1,2,3,4,5,6,7,8,9,10,11,12,13,14,15,16,17,18,19,20] A7 (A8 ?_))|(refine B7 13 rfl [0,1,2,3,4,5,7,8,9,10,11,12,13,14,15,16,6,17,18,19,20] A7 (A8 ?_))
   (repeat refine An ?_)
   refine Ao (j:=(B0 x w (Ba x w))) A0 rfl rfl rfl rfl rfl rfl rfl rfl (Cy (Cd x (B0 x w (Ba x w)) (Co (Bz x (B0 x w (Ba x w))) (Be x w)).1).links) (Fo hlk rfl) ?_
   refine A8 ?_
   refine Aj (A57 (Cd x (B0 x w (Ba x w)) (Co (Bz x (B0 x w (Ba x w))) (Be x w)).1) (B4 x) w (Be x w).stamp.epoch 1 hb.1 hk hE.1 (by show (Be x w).stamp.epoch.toNat<(Ad x w).sums.length;omega) hsum Aw) hH hp rfl Ay rfl rfl (fun r2 hr2=>go A0 false ?_)
   conv=>whnf
   have hk9:w.toNat<(Bb (Cd x (B0 x w (Ba x w)) (Co (Bz x (B0 x w (Ba x w))) (Be x w)).1) w (Fe (Ad (Cd x (B0 x w (Ba x w)) (Co (Bz x (B0 x w (Ba x w))) (Be x w)).1) w) (Be x w).stamp.epoch 1)).workers.length:=by show w.toNat<(x.workers.set _ _).length;rw [List.length_set];exact hk
   have hg9:(Bb (Cd x (B0 x w (Ba x w)) (Co (Bz x (B0 x w (Ba x w))) (Be x w)).1) w (Fe (Ad (Cd x (B0 x w (Ba x w)) (Co (Bz x (B0 x w (Ba x w))) (Be x w)).1) w) (Be x w).stamp.epoch 1)).workers.getD w.toNat default=Fe (Ad (Cd x (B0 x w (Ba x w)) (Co (Bz x (B0 x w (Ba x w))) (Be x w)).1) w) (Be x w).stamp.epoch 1:=Th hk
   have hl9:((Bb (Cd x (B0 x w (Ba x w)) (Co (Bz x (B0 x w (Ba x w))) (Be x w)).1) w (Fe (Ad (Cd x (B0 x w (Ba x w)) (Co (Bz x (B0 x w (Ba x w))) (Be x w)).1) w) (Be x w).stamp.epoch 1)).workers.getD w.toNat default).staged.length=(x.workers.getD w.toNat default).staged.length:=by rw [hg9];rfl
   have hl8:0<((Bb (Cd x (B0 x w (Ba x w)) (Co (Bz x (B0 x w (Ba x w))) (Be x w)).1) w (Fe (Ad (Cd x (B0 x w (Ba x w)) (Co (Bz x (B0 x w (Ba x w))) (Be x w)).1) w) (Be x w).stamp.epoch 1)).workers.getD w.toNat default).staged.length:=by omega
   refine Rq 0 3 17 rfl rfl (fun v8=>?_)
   refine Xv 0 3 rfl rfl (fun ho_v8=>?_)
   refine J8 rfl ?_
   refine Bu A0 false 0 rfl rfl A7 rfl (A4 B2) ?_
   refine Bu A0 false 1 rfl rfl A7 rfl (A4 B2) ?_
   refine Bu A0 false 2 rfl rfl A7 rfl (A4 B2) ?_
   refine Bu A0 false 3 rfl rfl A7 rfl (A4 B2) ?_
   refine Bu A0 false 5 rfl rfl A7 rfl (A4 B2) ?_
   refine Bu A0 false 7 rfl rfl A7 rfl (A4 B2) ?_
   refine Bu A0 false 8 rfl rfl A7 rfl (A4 B2) ?_
   refine Bu A0 false 9 rfl rfl A7 rfl (A4 B2) ?_
   refine Bu A0 false 10 rfl rfl A7 rfl (A4 B2) ?_
   refine Bu A0 false 12 rfl rfl A7 rfl (A4 B2) ?_
   refine Ej (s':=?_) 11 rfl A7 ?_ ?_
   rotate_left
   refine A8 ?_
   refine K0 118 17 rfl rfl (A8 ?_)
   (repeat refine An ?_)
   exact Bf
   refine Ej (s':=?_) 13 rfl A7 ?_ ?_
   rotate_left
   refine A8 ?_
   (repeat refine An ?_)
   exact Bf
   refine Bu A0 false 14 rfl rfl A7 rfl (A4 B2) ?_
   refine Pj (α:=Value) (s':=?_) 15 rfl A7 ?_ ?_
   rotate_left
   refine A8 ?_
   refine I9 A0 rfl rfl rfl rfl rfl rfl (jn:=w.toNat) rfl rfl rfl (fun v9=>go A0 false ?_)
   conv=>whnf
   exact Tz v9
   intro v9
   refine Ej (s':=?_) 16 rfl A7 ?_ ?_
   rotate_left
   refine A8 ?_
   refine A2q A0 rfl rfl rfl rfl rfl rfl rfl rfl (l:=1) rfl rfl (⟨by omega,by omega,by omega⟩) (Ah (((Bb (Cd x (B0 x w (Ba x w)) (Co (Bz x (B0 x w (Ba x w))) (Be x w)).1) w (Fe (Ad (Cd x (B0 x w (Ba x w)) (Co (Bz x (B0 x w (Ba x w))) (Be x w)).1) w) (Be x w).stamp.epoch 1)).workers.getD w.toNat default).staged.drop 1)) (G8 (k:=1) hl8) (A8 ?_)
   exact Bf
   refine Lf [17,18,19,20] [⟨4,111,.rd v8⟩,⟨6,113,.emp 5⟩] A7 ?_
   refine Bm (s':=?_) A0 rfl A7 E5 ?_ ?_
   rotate_left
   refine A8 ?_
   refine B1 A0 rfl rfl rfl rfl rfl rfl rfl rfl rfl rfl rfl (Ah (((Bb (Cd x (B0 x w (Ba x w)) (Co (Bz x (B0 x w (Ba x w))) (Be x w)).1) w (Fe (Ad (Cd x (B0 x w (Ba x w)) (Co (Bz x (B0 x w (Ba x w))) (Be x w)).1) w) (Be x w).stamp.epoch 1)).workers.getD w.toNat default).staged.drop 1)) (Ci) (fun _=>F8 _) (by (rw [List.length_drop];omega)) (A8 ?_)
   exact Bf
   refine Bm (s':=?_) A0 rfl A7 E5 ?_ ?_
   rotate_left
   refine A8 ?_
   refine K0 111 17 rfl rfl (A8 ?_)
   (repeat refine An ?_)
   exact Bf
   refine Bm (s':=?_) A0 rfl A7 E5 ?_ ?_
   rotate_left
   refine A8 ?_
   (repeat refine An ?_)
   exact Bf
   refine Bm (s':=?_) A0 rfl A7 E5 ?_ ?_
   rotate_left
   refine A8 ?_
   refine Ao (j:=w) A0 rfl rfl rfl rfl rfl rfl rfl rfl (Av (Bb (Bb (Cd x (B0 x w (Ba x w)) (Co (Bz x (B0 x w (Ba x w))) (Be x w)).1) w (Fe (Ad (Cd x (B0 x w (Ba x w)) (Co (Bz x (B0 x w (Ba x w))) (Be x w)).1) w) (Be x w).stamp.epoch 1)) w (Ei (Fe (Ad (Cd x (B0 x w (Ba x w)) (Co (Bz x (B0 x w (Ba x w))) (Be x w)).1) w) (Be x w).stamp.epoch 1))).workers) (Fo hk9 (by rw [hg9];rfl)) (A8 ?_)
   exact Bf
   refine K3 A0 A7 E5 (GW.out (Ji ?_))
   conv=>whnf
   refine B1k Tryz.prog (fun _ g=>Rm 0 3 17 rfl rfl rfl g) ?_
   rw [Js]
   have hz:rc (Cg x w).1=Ru (Bb (Cd x (B0 x w (Ba x w)) (Co (Bz x (B0 x w (Ba x w))) (Be x w)).1) w (Ei (Fe (Ad (Cd x (B0 x w (Ba x w)) (Co (Bz x (B0 x w (Ba x w))) (Be x w)).1) w) (Be x w).stamp.epoch 1))) (B4 x&&Do ((Ad (Cd x (B0 x w (Ba x w)) (Co (Bz x (B0 x w (Ba x w))) (Be x w)).1) w).sums.getD (Be x w).stamp.epoch.toNat default+1) (-1000000) 1000000):=by
    show Ru (Cg x w).1 (B4 (Cg x w).1)=_
    rw [hfl,hyes,hcs,Bool.true_and,A2r,Zs (w:=Ei (Ad x w)) ⟨hE.1,by show (Be x w).stamp.epoch<(Ad x w).sums.length;omega⟩]
    rfl
   rw [hz,hyes]
   exact Bl A0 () trivial rfl rfl rfl rfl Ay
 have h3:Ba x w=w:=h3
 refine Rq 0 3 7 rfl rfl (fun v2=>?_)
 refine Xv 0 3 rfl rfl (fun ho_v2=>?_)
 refine J8 rfl ?_
 refine Bu A0 false 0 rfl rfl A7 rfl (A4 B2) ?_
 refine Bu A0 false 1 rfl rfl A7 rfl (A4 B2) ?_
 refine Bu A0 false 2 rfl rfl A7 rfl (A4 B2) ?_
 refine Bu A0 false 3 rfl rfl A7 rfl (A4 B2) ?_
 refine Bu A0 false 5 rfl rfl A7 rfl (A4 B2) ?_
 refine Bu A0 false 6 rfl rfl A7 rfl (A4 B2) ?_
 refine Bu A0 false 7 rfl rfl A7 rfl (A4 B2) ?_
 refine Bu A0 false 8 rfl rfl A7 rfl (A4 B2) ?_
 refine Bu A0 false 9 rfl rfl A7 rfl (A4 B2) ?_
 refine Bu A0 false 11 rfl rfl A7 rfl (A4 B2) ?_
 refine Ej (s':=?_) 10 rfl A7 ?_ ?_
 rotate_left
 refine A8 ?_
 refine K0 97 7 rfl rfl (A8 ?_)
 (repeat refine An ?_)
 exact Bf
 refine Ej (s':=?_) 12 rfl A7 ?_ ?_
 rotate_left
 refine A8 ?_
 (repeat refine An ?_)
 exact Bf
 refine Bu A0 false 13 rfl rfl A7 rfl (A4 B2) ?_
 refine Pj (α:=Value) (s':=?_) 14 rfl A7 ?_ ?_
 rotate_left
 refine A8 ?_
 refine I9 A0 rfl rfl rfl rfl rfl rfl (jn:=w.toNat) rfl rfl rfl (fun v3=>go A0 false ?_)
 conv=>whnf
 exact Tz v3
 intro v3
 refine Ej (s':=?_) 15 rfl A7 ?_ ?_
 rotate_left
 refine A8 ?_
 (repeat refine An ?_)
 exact Bf
 refine Lf [16,17,18,19,20] [⟨4,91,.rd v2⟩] A7 ?_
 refine Bm (s':=?_) A0 rfl A7 E5 ?_ ?_
 rotate_left
 refine A8 ?_
 (repeat refine An ?_)
 exact Bf
 refine Bm (s':=?_) A0 rfl A7 E5 ?_ ?_
 rotate_left
 refine A8 ?_
 refine B1 A0 rfl rfl rfl rfl rfl rfl rfl rfl rfl rfl rfl (Ah ((x.workers.getD w.toNat default).queue++[Be x w])) (Aa rfl) Bg Ab (A8 ?_)
 exact Bf
 refine Bm (s':=?_) A0 rfl A7 E5 ?_ ?_
 rotate_left
 refine A8 ?_
 refine K0 91 7 rfl rfl (A8 ?_)
 (repeat refine An ?_)
 exact Bf
 refine Bm (s':=?_) A0 rfl A7 E5 ?_ ?_
 rotate_left
 refine A8 ?_
 (repeat refine An ?_)
 exact Bf
 refine Bm (s':=?_) A0 rfl A7 E5 ?_ ?_
 rotate_left
 refine A8 ?_
 refine Ao (j:=w) A0 rfl rfl rfl rfl rfl rfl rfl rfl (Av (Bb x w (kept (Ad x w) (Be x w))).workers) (Fo hk rfl) (A8 ?_)
 exact Bf
 refine K3 A0 A7 E5 (GW.out (Ji ?_))
 conv=>whnf
 refine Rm 0 3 7 rfl rfl rfl ?_
 have hk9:w.toNat<(Bb x w (kept (Ad x w) (Be x w))).workers.length:=by show w.toNat<(x.workers.set _ _).length;rw [List.length_set];exact hk
 have hg9:(Bb x w (kept (Ad x w) (Be x w))).workers.getD w.toNat default=kept (Ad x w) (Be x w):=Th hk
 have hl9:((Bb x w (kept (Ad x w) (Be x w))).workers.getD w.toNat default).staged.length=(x.workers.getD w.toNat default).staged.length:=by rw [hg9];rfl
 have hl8:0<((Bb x w (kept (Ad x w) (Be x w))).workers.getD w.toNat default).staged.length:=by omega
 refine Rq 0 3 7 rfl rfl (fun v8=>?_)
 refine Xv 0 3 rfl rfl (fun ho_v8=>?_)
 refine J8 rfl ?_
 refine Bu A0 false 0 rfl rfl A7 rfl (A4 B2) ?_
 refine Bu A0 false 1 rfl rfl A7 rfl (A4 B2) ?_
 refine Bu A0 false 2 rfl rfl A7 rfl (A4 B2) ?_
 refine Bu A0 false 3 rfl rfl A7 rfl (A4 B2) ?_
 refine Bu A0 false 5 rfl rfl A7 rfl (A4 B2) ?_
 refine Bu A0 false 7 rfl rfl A7 rfl (A4 B2) ?_
 refine Bu A0 false 8 rfl rfl A7 rfl (A4 B2) ?_
 refine Bu A0 false 9 rfl rfl A7 rfl (A4 B2) ?_
 refine Bu A0 false 10 rfl rfl A7 rfl (A4 B2) ?_
 refine Bu A0 false 12 rfl rfl A7 rfl (A4 B2) ?_
 refine Ej (s':=?_) 11 rfl A7 ?_ ?_
 rotate_left
 refine A8 ?_
 refine K0 118 7 rfl rfl (A8 ?_)
 (repeat refine An ?_)
 exact Bf
 refine Ej (s':=?_) 13 rfl A7 ?_ ?_
 rotate_left
 refine A8 ?_
 (repeat refine An ?_)
 exact Bf
 refine Bu A0 false 14 rfl rfl A7 rfl (A4 B2) ?_
 refine Pj (α:=Value) (s':=?_) 15 rfl A7 ?_ ?_
 rotate_left
 refine A8 ?_
 refine I9 A0 rfl rfl rfl rfl rfl rfl (jn:=w.toNat) rfl rfl rfl (fun v9=>go A0 false ?_)
 conv=>whnf
 exact Tz v9
 intro v9
 refine Ej (s':=?_) 16 rfl A7 ?_ ?_
 rotate_left
 refine A8 ?_
 refine A2q A0 rfl rfl rfl rfl rfl rfl rfl rfl (l:=1) rfl rfl (⟨by omega,by omega,by omega⟩) (Ah (((Bb x w (kept (Ad x w) (Be x w))).workers.getD w.toNat default).staged.drop 1)) (G8 (k:=1) hl8) (A8 ?_)
 exact Bf
 refine Lf [17,18,19,20] [⟨4,111,.rd v8⟩,⟨6,113,.emp 5⟩] A7 ?_
 refine Bm (s':=?_) A0 rfl A7 E5 ?_ ?_
 rotate_left
 refine A8 ?_
 refine B1 A0 rfl rfl rfl rfl rfl rfl rfl rfl rfl rfl rfl (Ah (((Bb x w (kept (Ad x w) (Be x w))).workers.getD w.toNat default).staged.drop 1)) (Ci) (fun _=>F8 _) (by (rw [List.length_drop];omega)) (A8 ?_)
 exact Bf
 refine Bm (s':=?_) A0 rfl A7 E5 ?_ ?_
 rotate_left
 refine A8 ?_
 refine K0 111 7 rfl rfl (A8 ?_)
 (repeat refine An ?_)
 exact Bf
 refine Bm (s':=?_) A0 rfl A7 E5 ?_ ?_
 rotate_left
 refine A8 ?_
 (repeat refine An ?_)
 exact Bf
 refine Bm (s':=?_) A0 rfl A7 E5 ?_ ?_
 rotate_left
 refine A8 ?_
 refine Ao (j:=w) A0 rfl rfl rfl rfl rfl rfl rfl rfl (Av (Bb (Bb x w (kept (Ad x w) (Be x w))) w (Ei (kept (Ad x w) (Be x w)))).workers) (Fo hk9 (by rw [hg9];rfl)) (A8 ?_)
 exact Bf
 refine K3 A0 A7 E5 (GW.out (Ji ?_))
 conv=>whnf
 refine B1k Tryz.prog (fun _ g=>Rm 0 3 7 rfl rfl rfl g) ?_
 rw [Js]
 have hyes:=Zm hM h3
 have hz:rc (Cg x w).1=Ru (Bb x w (Ei (kept (Ad x w) (Be x w)))) (B4 x):=by
  show Ru (Cg x w).1 (B4 (Cg x w).1)=_
  rw [A7l hC h3,hyes,hcs]
  rfl
 rw [hz,hyes]
 exact Bl A0 () trivial rfl rfl rfl rfl Ay
end Go.Proofs.YtdendlkeiaccpaaGreatDoor
