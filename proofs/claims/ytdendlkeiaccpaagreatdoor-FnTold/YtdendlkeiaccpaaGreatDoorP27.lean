/- Part 27 of the proof that each of the laws FnTold returns true for every input. No conditions. -/
import Derived.Test.YtdendlkeiaccpaaGreatDoorP26

set_option linter.unusedSimpArgs false
set_option linter.unusedVariables false
set_option maxRecDepth 100000
namespace Go.Proofs.YtdendlkeiaccpaaGreatDoor
open Go.Sx
set_option maxHeartbeats 8000000 in
theorem A4e (x:A5)(f t:Int)(h:x.w≤16000000)(og:Ee .i64 x.graph.workers):Cw Tryz.prog (fun _=>True) 118 [] (rc x) [.one (vi f),.one (vi t)] (fun _:Unit=>True) (fun _=>Ru (Dr x f t).1 (B4 x)) (fun _=>[.one (vb (Dr x f t).2)]):=by
 refine Dn A0 false Tryz.func118 rfl Aw fun B b hH hp=>?_
 conv=>whnf
 refine B5 (J1 x.graph f t og) rfl (A8 ?_)
 refine ⟨fun hok=>?_,fun hok=>?_⟩<;>conv=>whnf
 ·have hok:¬ B6 x:=of_decide_eq_false (show B4 x=false by simpa using hok)
  repeat refine Bj ?_
  rw [Iy (fun p=>hok p.1)]
  exact Bl A0 () trivial rfl rfl rfl rfl Ay
 have hC:B6 x:=of_decide_eq_true (show B4 x=true by simpa using hok)
 by_cases hne:f=t
 ·repeat refine Bj ?_
  refine ⟨fun hz=>?_,fun hz=>?_⟩<;>conv=>whnf
  ·repeat refine Bj ?_
   rw [Iy (fun p=>p.2.1 hne)]
   exact Bl A0 () trivial rfl rfl rfl rfl Ay
  repeat refine Bj ?_
  refine ⟨fun hft=>have hft:=eq_of_beq hft;?_,fun hft=>have hft:=beq_eq_false_iff_ne.1 hft;?_⟩<;>conv=>whnf
  ·repeat refine Bj ?_
   rw [Iy (fun p=>p.2.1 hne)]
   exact Bl A0 () trivial rfl rfl rfl rfl Ay
  exact absurd hne hft
 rw [A1p hC hne]
 cases hLd:decide (Lj x f t)
 ·have hL:¬ Lj x f t:=of_decide_eq_false hLd
  rw [Rn,if_neg hL]
  repeat refine Bj ?_
  rw [Iy hL]
  exact Bl A0 () trivial rfl rfl rfl rfl Ay
 have hL:Lj x f t:=of_decide_eq_true hLd
 have hln:=Ro hC hL.2.2.1 hL.2.2.2
 have hlk:(B0 x f t).toNat<x.links.length:=by omega
 have hlw:=A5.link_le h hlk
 rw [Rn,if_pos hL]
 repeat refine Bj ?_
 refine ⟨fun hz=>?_,fun hz=>?_⟩<;>conv=>whnf
 ·have:=of_decide_eq_true hz
  omega
 repeat refine Bj ?_
 refine ⟨fun hft=>have hft:=eq_of_beq hft;?_,fun hft=>have hft:=beq_eq_false_iff_ne.1 hft;?_⟩<;>conv=>whnf
 ·exact absurd hft hne
 repeat refine Bj ?_
 (repeat refine An ?_)
 refine V1 A0 rfl rfl rfl rfl rfl (jn:=(B0 x f t).toNat) rfl (r:=Bv.c ((x.links).getD ((B0 x f t).toNat) default)) rfl hlk rfl rfl (fun u=>go A0 false ?_)
 conv=>whnf
 refine Cq (Np (Bz x (B0 x f t)) (by show (x.links.getD _ default).w≤_;omega)) rfl (A8 ?_)
 first|(refine B7 5 rfl [0,1,2,3,4,5,6,7,8] A7 (A8 ?_))
 (repeat refine An ?_)
 refine Ao (j:=(B0 x f t)) A0 rfl rfl rfl rfl rfl rfl rfl rfl (Cy (x.links.set (B0 x f t).toNat (D6 (Bz x (B0 x f t))).1)) (Fo hlk rfl) (A8 ?_)
 rw [V2 hL]
 exact Bl A0 () trivial rfl rfl rfl rfl Ay
theorem A2r (n:Int):Do n (-1000000) 1000000=decide (I4 n):=by
 rw [Bool.eq_iff_iff,Go.Sx.As,decide_eq_true_eq]
 exact Iff.rfl
theorem B14 {c:A5}{f t:Int}(h:B6 c)(h2:(Dh c f t).2=true):B4 (Dh c f t).1=decide (I4 (A0b c f t)):=by
 rw [Si h,if_pos h2]
theorem Th {c:A5}{t:Int}{W:A9}(hk:t.toNat<c.workers.length):Ad (Bb c t W) t=W:=by
 unfold Ad Bb
 exact Sx.getD_set_self _ _ _ _ hk
theorem Js {c:A5}{t:Int}{W V:A9}:Bb (Bb c t W) t V=Bb c t V:=by
 unfold Bb
 rw [List.set_set]
set_option maxHeartbeats 8000000 in
theorem B1v (x:A5)(f t:Int)(h:x.w≤8000000)(og:Ee .i64 x.graph.workers):Cw Tryz.prog (fun _=>True) 117 [] (rc x) [.one (vi f),.one (vi t)] (fun _:Unit=>True) (fun _=>rc (Dh x f t).1) (fun _=>[.one (vb (Dh x f t).2)]):=by
 have h8:=h
 have h:x.w≤16000000:=by omega
 refine Dn A0 false Tryz.func117 rfl Aw fun B b hH hp=>?_
 conv=>whnf
 refine B5 (J1 x.graph f t og) rfl (A8 ?_)
 refine ⟨fun hok=>?_,fun hok=>?_⟩<;>conv=>whnf
 ·have hok:¬ B6 x:=of_decide_eq_false (show B4 x=false by simpa using hok)
  repeat refine Bj ?_
  rw [Kt (fun p=>hok p.1)]
  exact Bl A0 () trivial rfl rfl rfl rfl Ay
 have hC:B6 x:=of_decide_eq_true (show B4 x=true by simpa using hok)
 by_cases hne:f=t
 ·repeat refine Bj ?_
  refine ⟨fun hz=>?_,fun hz=>?_⟩<;>conv=>whnf
  ·repeat refine Bj ?_
   rw [Kt (fun p=>p.2.1 hne)]
   exact Bl A0 () trivial rfl rfl rfl rfl Ay
  repeat refine Bj ?_
  refine ⟨fun hft=>have hft:=eq_of_beq hft;?_,fun hft=>have hft:=beq_eq_false_iff_ne.1 hft;?_⟩<;>conv=>whnf
  ·repeat refine Bj ?_
   rw [Kt (fun p=>p.2.1 hne)]
   exact Bl A0 () trivial rfl rfl rfl rfl Ay
  exact absurd hne hft
 rw [A1p hC hne]
 cases hLd:decide (Lj x f t)
 ·have hL:¬ Lj x f t:=of_decide_eq_false hLd
  rw [Rn,if_neg hL]
  repeat refine Bj ?_
  rw [Kt hL]
  exact Bl A0 () trivial rfl rfl rfl rfl Ay
 have hL:Lj x f t:=of_decide_eq_true hLd
 have hln:=Ro hC hL.2.2.1 hL.2.2.2
 have hlk:(B0 x f t).toNat<x.links.length:=by omega
 have hlw:=A5.link_le h hlk
 rw [Rn,if_pos hL]
 repeat refine Bj ?_
 refine ⟨fun hz=>?_,fun hz=>?_⟩<;>conv=>whnf
 ·have:=of_decide_eq_true hz
  omega
 repeat refine Bj ?_
 refine ⟨fun hft=>have hft:=eq_of_beq hft;?_,fun hft=>have hft:=beq_eq_false_iff_ne.1 hft;?_⟩<;>conv=>whnf
 ·exact absurd hft hne
 repeat refine Bj ?_
 (repeat refine An ?_)
 refine V1 A0 rfl rfl rfl rfl rfl (jn:=(B0 x f t).toNat) rfl (r:=Bv.c ((x.links).getD ((B0 x f t).toNat) default)) rfl hlk rfl rfl (fun u=>go A0 false ?_)
 conv=>whnf
 refine Cq (R3 (Bz x (B0 x f t)) (by show (x.links.getD _ default).w≤_;omega)) rfl (A8 ?_)
 refine ⟨fun h4=>?_,fun h4=>?_⟩<;>conv=>whnf
 ·have h4:(C1 (Bz x (B0 x f t))).2.2=false:=by simpa using h4
  repeat refine Bj ?_
  rw [Wj h4]
  refine Gu Tryz.prog 3 ((B0 x f t).toNat) [(1,6)] (Cy x.links) hlk rfl rfl Ht rfl (D5 rfl) ?_
  exact Bl A0 () trivial rfl rfl rfl rfl Ay
 have h4:(C1 (Bz x (B0 x f t))).2.2=true:=by simpa using h4
 have hT:0<(Bz x (B0 x f t)).queue.length:=by
  rcases Nat.eq_zero_or_pos (Bz x (B0 x f t)).queue.length with e|e
  ·rw [A0c (fun p=>by omega)] at h4;cases h4
  exact e
 have hLA:=hC.2.2.1 _ hlk
 have hLP:G1 (Bz x (B0 x f t)):=hLA.1
 have hrec:(C1 (Bz x (B0 x f t))).2.1=(Bz x (B0 x f t)).queue.getD 0 default:=by rw [A2u ⟨hLP,hT⟩]
 have hRP:Hs (C1 (Bz x (B0 x f t))).2.1:=by rw [hrec];exact hLP.2 _ (B8 hT)
 have hb:=hL.2.2.2
 have hwl:=hC.1.2.1
 have hk:t.toNat<x.workers.length:=by omega
 have hw:=A5.worker_le h8 hk
 have hWP:=hC.2.1 _ (B8 (d:=default) hk)
 have hql:=(Tg (x.workers.getD t.toNat default)).1
 have hyes:=Zn hL h4
 have hfl:=B14 hC (show (Dh x f t).2=true by rw [hyes])
 repeat refine Bj ?_
 first|(refine B7 7 rfl [0,1,2,3,4,5,6,7,8] A7 (A8 ?_))|(refine B7 8 rfl [0,1,2,3,4,5,6,7,8,9,10,11,12,13,14,15,16,17,18,19,20] A7 (A8 ?_))|(refine B7 9 rfl [0,1,2,3,4,5,6,7,8,9,10,11,12,13] A7 (A8 ?_))
 (repeat refine An ?_)
 refine Ao (j:=(B0 x f t)) A0 rfl rfl rfl rfl rfl rfl rfl rfl (Cy (x.links.set (B0 x f t).toNat (C1 (Bz x (B0 x f t))).1)) (Fo hlk rfl) (A8 ?_)
 generalize hR:(C1 (Bz x (B0 x f t))).2.1=R at *
 generalize hLk:(C1 (Bz x (B0 x f t))).1=LK at *
 refine Rq 0 3 2 rfl rfl (fun v2=>?_)
 refine Xv 0 3 rfl rfl (fun ho_v2=>?_)
 refine J8 rfl ?_
 refine Bu A0 false 0 rfl rfl A7 rfl (A4 B2) ?_
 refine Bu A0 false 1 rfl rfl A7 rfl (A4 B2) ?_
 refine Bu A0 false 2 rfl rfl A7 rfl (A4 B2) ?_
 refine Bu A0 false 3 rfl rfl A7 rfl (A4 B2) ?_
 refine Bu A0 false 5 rfl rfl A7 rfl (A4 B2) ?_
 refine Bu A0 false 6 rfl rfl A7 rfl (A4 B2) ?_
 refine Bu A0 false 7 rfl rfl A7 rfl (A4 B2) ?_
 refine Bu A0 false 8 rfl rfl A7 rfl (A4 B2) ?_
 refine Bu A0 false 9 rfl rfl A7 rfl (A4 B2) ?_
 refine Bu A0 false 11 rfl rfl A7 rfl (A4 B2) ?_
 refine Ej (s':=?_) 10 rfl A7 ?_ ?_
 rotate_left
 refine A8 ?_
 refine K0 66 2 rfl rfl (A8 ?_)
 (repeat refine An ?_)
 exact Bf
 refine Ej (s':=?_) 12 rfl A7 ?_ ?_
 rotate_left
 refine A8 ?_
 (repeat refine An ?_)
 exact Bf
 refine Bu A0 false 13 rfl rfl A7 rfl (A4 B2) ?_
 refine Pj (α:=Value) (s':=?_) 14 rfl A7 ?_ ?_
 rotate_left
 refine A8 ?_
 refine I9 A0 rfl rfl rfl rfl rfl rfl (jn:=t.toNat) rfl rfl rfl (fun v=>go A0 false ?_)
 conv=>whnf
 exact Tz v
 intro v
 refine Ej (s':=?_) 15 rfl A7 ?_ ?_
 rotate_left
 refine A8 ?_
 (repeat refine An ?_)
 exact Bf
 refine Lf [16,17,18,19,20] [⟨4,60,.rd v2⟩] A7 ?_
 refine Bm (s':=?_) A0 rfl A7 E5 ?_ ?_
 rotate_left
 refine A8 ?_
 (repeat refine An ?_)
 exact Bf
 refine Bm (s':=?_) A0 rfl A7 E5 ?_ ?_
 rotate_left
 refine A8 ?_
 refine B1 A0 rfl rfl rfl rfl rfl rfl rfl rfl rfl rfl rfl (Ah ((x.workers.getD t.toNat default).queue++[R])) (Aa rfl) Bg Ab (A8 ?_)
 exact Bf
 refine Bm (s':=?_) A0 rfl A7 E5 ?_ ?_
 rotate_left
 refine A8 ?_
 refine K0 60 2 rfl rfl (A8 ?_)
 (repeat refine An ?_)
 exact Bf
 refine Bm (s':=?_) A0 rfl A7 E5 ?_ ?_
 rotate_left
 refine A8 ?_
 (repeat refine An ?_)
 exact Bf
 refine Bm (s':=?_) A0 rfl A7 E5 ?_ ?_
 rotate_left
 refine A8 ?_
 refine Ao (j:=t) A0 rfl rfl rfl rfl rfl rfl rfl rfl (Av (Bb x t (kept (Ad x t) R)).workers) (Fo hk rfl) (A8 ?_)
 exact Bf
 refine K3 A0 A7 E5 (GW.out (Ji ?_))
 conv=>whnf
 refine Rm 0 3 2 rfl rfl rfl ?_
 have hsl:(Bb x t (kept (Ad x t) R)).workers.length=x.workers.length:=List.length_set
 have hk1:t.toNat<(Bb x t (kept (Ad x t) R)).workers.length:=by omega
 have hg1:(Bb x t (kept (Ad x t) R)).workers.getD t.toNat default=kept (Ad x t) R:=Th hk
 have hbl:((Bb x t (kept (Ad x t) R)).workers.getD t.toNat default).black.length=4:=by rw [hg1];exact hWP.2.1.2.1
 have hE:=hRP.2.1
 have hbk:R.stamp.epoch.toNat<((Bb x t (kept (Ad x t) R)).workers.getD t.toNat default).black.length:=by omega
 first|(refine B7 7 rfl [0,1,2,3,4,5,6,7,8] A7 (A8 ?_))|(refine B7 8 rfl [0,1,2,3,4,5,6,7,8,9,10,11,12,13,14,15,16,17,18,19,20] A7 (A8 ?_))|(refine B7 9 rfl [0,1,2,3,4,5,6,7,8,9,10,11,12,13] A7 (A8 ?_))
 (repeat refine An ?_)
 refine I9 A0 rfl rfl rfl rfl rfl rfl (jn:=t.toNat) rfl rfl rfl (fun v3=>go A0 false ?_)
 conv=>whnf
 (repeat refine An ?_)
 refine Ao (j:=R.stamp.epoch) A0 rfl rfl rfl rfl rfl rfl rfl rfl (Ek (((Bb x t (kept (Ad x t) R)).workers.getD t.toNat default).black.set R.stamp.epoch.toNat true)) (Cb hbk rfl) (A8 ?_)
 refine A4d 2 (t.toNat) [(5,13)] (Av (Bb (Bb (Cd x (B0 x f t) LK) t (kept (Ad x t) R)) t (I8 (kept (Ad x t) R) R.stamp.epoch)).workers) hk1 rfl rfl Ht rfl (J5 hk1 (by rw [hg1];rfl)) ?_
 have hk0:t.toNat<(Cd x (B0 x f t) LK).workers.length:=hk
 have hk2:t.toNat<(Bb (Bb (Cd x (B0 x f t) LK) t (kept (Ad x t) R)) t (I8 (kept (Ad x t) R) R.stamp.epoch)).workers.length:=by rw [Js];show t.toNat<(x.workers.set _ _).length;rw [List.length_set];exact hk
 have hw2:Ad (Bb (Bb (Cd x (B0 x f t) LK) t (kept (Ad x t) R)) t (I8 (kept (Ad x t) R) R.stamp.epoch)) t=I8 (kept (Ad x t) R) R.stamp.epoch:=by rw [Js];exact Th hk0
 have hs4:(Ad x t).sums.length=4:=hWP.2.1.1
 refine Aj (A57 (Bb (Bb (Cd x (B0 x f t) LK) t (kept (Ad x t) R)) t (I8 (kept (Ad x t) R) R.stamp.epoch)) (B4 x) t R.stamp.epoch (-1) Ab hk2 Ab (by rw [hw2];show R.stamp.epoch.toNat<(Ad x t).sums.length;omega) (by rw [hw2];exact hWP.2.2.2.1 _ (B8 (by show R.stamp.epoch.toNat<(Ad x t).sums.length;omega))) Aw) hH hp rfl Ay rfl rfl (fun r hr=>go A0 false ?_)
 conv=>whnf
 rw [hw2,Js,Js]
 have hcs:B4 x=true:=decide_eq_true hC
 have hz:rc (Dh x f t).1=Ru (Bb (Cd x (B0 x f t) LK) t (Fe (I8 (kept (Ad x t) R) R.stamp.epoch) R.stamp.epoch (-1))) (B4 x&&Do ((I8 (kept (Ad x t) R) R.stamp.epoch).sums.getD R.stamp.epoch.toNat default+ -1) (-1000000) 1000000):=by
  show Ru (Dh x f t).1 (B4 (Dh x f t).1)=_
  rw [hfl,hyes,hcs,Bool.true_and,A2r,A16 (w:=Ad x t) hWP.2.1.1 hWP.2.1.2.1 hE]
  show Ru _ (decide (I4 ((Ad x t).sums.getD (Jf x f t).stamp.epoch.toNat default+ -1)))=_
  rw [show Jf x f t=R from hR]
  rfl
 rw [hz,hyes]
 exact Bl A0 () trivial rfl rfl rfl rfl Ay
end Go.Proofs.YtdendlkeiaccpaaGreatDoor
