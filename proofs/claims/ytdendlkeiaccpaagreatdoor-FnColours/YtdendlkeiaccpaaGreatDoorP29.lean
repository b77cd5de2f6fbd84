/- Part 29 of the proof that each of the laws FnColours returns true for every input. No conditions. -/
import Derived.Test.YtdendlkeiaccpaaGreatDoorP28

set_option linter.unusedSimpArgs false
set_option linter.unusedVariables false
set_option maxRecDepth 100000
namespace Go.Proofs.YtdendlkeiaccpaaGreatDoor
open Go.Sx
set_option maxHeartbeats 8000000 in
theorem A6p (x:A3)(f t:Int)(h:x.w≤16000000)(og:Eu .i64 x.graph.workers):Dd Tryz.prog (fun _=>True) 118 [] (rc x) [.one (vi f),.one (vi t)] (fun _:Unit=>True) (fun _=>Td (Cy x f t).1 (B9 x)) (fun _=>[.one (vb (Cy x f t).2)]):=by
 refine Dp A0 false Tryz.func118 rfl Az fun B b hH hp=>?_
 conv=>whnf
 refine At (Mf x.graph f t og) rfl (A8 ?_)
 refine ⟨fun hok=>?_,fun hok=>?_⟩<;>conv=>whnf
 ·have hok:¬ As x:=of_decide_eq_false (show B9 x=false by simpa using hok)
  repeat refine Bd ?_
  rw [K1 (fun p=>hok p.1)]
  exact Bu A0 () trivial rfl rfl rfl rfl B1
 have hC:As x:=of_decide_eq_true (show B9 x=true by simpa using hok)
 by_cases hne:f=t
 ·repeat refine Bd ?_
  refine ⟨fun hz=>?_,fun hz=>?_⟩<;>conv=>whnf
  ·repeat refine Bd ?_
   rw [K1 (fun p=>p.2.1 hne)]
   exact Bu A0 () trivial rfl rfl rfl rfl B1
  repeat refine Bd ?_
  refine ⟨fun hft=>have hft:=eq_of_beq hft;?_,fun hft=>have hft:=beq_eq_false_iff_ne.1 hft;?_⟩<;>conv=>whnf
  ·repeat refine Bd ?_
   rw [K1 (fun p=>p.2.1 hne)]
   exact Bu A0 () trivial rfl rfl rfl rfl B1
  exact absurd hne hft
 rw [A3t hC hne]
 cases hLd:decide (Mj x f t)
 ·have hL:¬ Mj x f t:=of_decide_eq_false hLd
  rw [T4,if_neg hL]
  repeat refine Bd ?_
  rw [K1 hL]
  exact Bu A0 () trivial rfl rfl rfl rfl B1
 have hL:Mj x f t:=of_decide_eq_true hLd
 have hln:=T5 hC hL.2.2.1 hL.2.2.2
 have hlk:(B0 x f t).toNat<x.links.length:=by omega
 have hlw:=A3.link_le h hlk
 rw [T4,if_pos hL]
 repeat refine Bd ?_
 refine ⟨fun hz=>?_,fun hz=>?_⟩<;>conv=>whnf
 ·have:=of_decide_eq_true hz
  omega
 repeat refine Bd ?_
 refine ⟨fun hft=>have hft:=eq_of_beq hft;?_,fun hft=>have hft:=beq_eq_false_iff_ne.1 hft;?_⟩<;>conv=>whnf
 ·exact absurd hft hne
 repeat refine Bd ?_
 (repeat refine An ?_)
 refine S9 A0 rfl rfl rfl rfl rfl (jn:=(B0 x f t).toNat) rfl (r:=Bz.c ((x.links).getD ((B0 x f t).toNat) default)) rfl hlk rfl rfl (fun u=>go A0 false ?_)
 conv=>whnf
 refine Cn (Pb (Br x (B0 x f t)) (by show (x.links.getD _ default).w≤_;omega)) rfl (A8 ?_)
 first|(refine Ax 5 rfl [0,1,2,3,4,5,6,7,8] A7 (A8 ?_))
 (repeat refine An ?_)
 refine Am (j:=(B0 x f t)) A0 rfl rfl rfl rfl rfl rfl rfl rfl (Cf (x.links.set (B0 x f t).toNat (Cr (Br x (B0 x f t))).1)) (G8 hlk rfl) (A8 ?_)
 rw [Wx hL]
 exact Bu A0 () trivial rfl rfl rfl rfl B1
theorem A4t (n:Int):Di n (-1000000) 1000000=decide (Gj n):=by
 rw [Bool.eq_iff_iff,Go.Sx.Ah,decide_eq_true_eq]
 exact Iff.rfl
theorem B4r {c:A3}{f t:Int}(h:As c)(h2:(Cm c f t).2=true):B9 (Cm c f t).1=decide (Gj (V1 c f t)):=by
 rw [U2 h,if_pos h2]
theorem V3 {c:A3}{t:Int}{W:Aa}(hk:t.toNat<c.workers.length):Ab (B3 c t W) t=W:=by
 unfold Ab B3
 exact Sx.getD_set_self _ _ _ _ hk
theorem L6 {c:A3}{t:Int}{W V:Aa}:B3 (B3 c t W) t V=B3 c t V:=by
 unfold B3
 rw [List.set_set]
set_option maxHeartbeats 8000000 in
theorem B4g (x:A3)(f t:Int)(h:x.w≤8000000)(og:Eu .i64 x.graph.workers):Dd Tryz.prog (fun _=>True) 117 [] (rc x) [.one (vi f),.one (vi t)] (fun _:Unit=>True) (fun _=>rc (Cm x f t).1) (fun _=>[.one (vb (Cm x f t).2)]):=by
 have h8:=h
 have h:x.w≤16000000:=by omega
 refine Dp A0 false Tryz.func117 rfl Az fun B b hH hp=>?_
 conv=>whnf
 refine At (Mf x.graph f t og) rfl (A8 ?_)
 refine ⟨fun hok=>?_,fun hok=>?_⟩<;>conv=>whnf
 ·have hok:¬ As x:=of_decide_eq_false (show B9 x=false by simpa using hok)
  repeat refine Bd ?_
  rw [M3 (fun p=>hok p.1)]
  exact Bu A0 () trivial rfl rfl rfl rfl B1
 have hC:As x:=of_decide_eq_true (show B9 x=true by simpa using hok)
 by_cases hne:f=t
 ·repeat refine Bd ?_
  refine ⟨fun hz=>?_,fun hz=>?_⟩<;>conv=>whnf
  ·repeat refine Bd ?_
   rw [M3 (fun p=>p.2.1 hne)]
   exact Bu A0 () trivial rfl rfl rfl rfl B1
  repeat refine Bd ?_
  refine ⟨fun hft=>have hft:=eq_of_beq hft;?_,fun hft=>have hft:=beq_eq_false_iff_ne.1 hft;?_⟩<;>conv=>whnf
  ·repeat refine Bd ?_
   rw [M3 (fun p=>p.2.1 hne)]
   exact Bu A0 () trivial rfl rfl rfl rfl B1
  exact absurd hne hft
 rw [A3t hC hne]
 cases hLd:decide (Mj x f t)
 ·have hL:¬ Mj x f t:=of_decide_eq_false hLd
  rw [T4,if_neg hL]
  repeat refine Bd ?_
  rw [M3 hL]
  exact Bu A0 () trivial rfl rfl rfl rfl B1
 have hL:Mj x f t:=of_decide_eq_true hLd
 have hln:=T5 hC hL.2.2.1 hL.2.2.2
 have hlk:(B0 x f t).toNat<x.links.length:=by omega
 have hlw:=A3.link_le h hlk
 rw [T4,if_pos hL]
 repeat refine Bd ?_
 refine ⟨fun hz=>?_,fun hz=>?_⟩<;>conv=>whnf
 ·have:=of_decide_eq_true hz
  omega
 repeat refine Bd ?_
 refine ⟨fun hft=>have hft:=eq_of_beq hft;?_,fun hft=>have hft:=beq_eq_false_iff_ne.1 hft;?_⟩<;>conv=>whnf
 ·exact absurd hft hne
 repeat refine Bd ?_
 (repeat refine An ?_)
 refine S9 A0 rfl rfl rfl rfl rfl (jn:=(B0 x f t).toNat) rfl (r:=Bz.c ((x.links).getD ((B0 x f t).toNat) default)) rfl hlk rfl rfl (fun u=>go A0 false ?_)
 conv=>whnf
 refine Cn (Si (Br x (B0 x f t)) (by show (x.links.getD _ default).w≤_;omega)) rfl (A8 ?_)
 refine ⟨fun h4=>?_,fun h4=>?_⟩<;>conv=>whnf
 ·have h4:(Bw (Br x (B0 x f t))).2.2=false:=by simpa using h4
  repeat refine Bd ?_
  rw [Ya h4]
  refine Ej Tryz.prog 3 ((B0 x f t).toNat) [(1,6)] (Cf x.links) hlk rfl rfl G2 rfl (Ck rfl) ?_
  exact Bu A0 () trivial rfl rfl rfl rfl B1
 have h4:(Bw (Br x (B0 x f t))).2.2=true:=by simpa using h4
 have hT:0<(Br x (B0 x f t)).queue.length:=by
  rcases Nat.eq_zero_or_pos (Br x (B0 x f t)).queue.length with e|e
  ·rw [A16 (fun p=>by omega)] at h4;cases h4
  exact e
 have hLA:=hC.2.2.1 _ hlk
 have hLP:Gm (Br x (B0 x f t)):=hLA.1
 have hrec:(Bw (Br x (B0 x f t))).2.1=(Br x (B0 x f t)).queue.getD 0 default:=by rw [A4x ⟨hLP,hT⟩]
 have hRP:H2 (Bw (Br x (B0 x f t))).2.1:=by rw [hrec];exact hLP.2 _ (Ay hT)
 have hb:=hL.2.2.2
 have hwl:=hC.1.2.1
 have hk:t.toNat<x.workers.length:=by omega
 have hw:=A3.worker_le h8 hk
 have hWP:=hC.2.1 _ (Ay (d:=default) hk)
 have hql:=(V2 (x.workers.getD t.toNat default)).1
 have hyes:=A1o hL h4
 have hfl:=B4r hC (show (Cm x f t).2=true by rw [hyes])
 repeat refine Bd ?_
 first|(refine Ax 7 rfl [0,1,2,3,4,5,6,7,8] A7 (A8 ?_))|(refine Ax 8 rfl [0,1,2,3,4,5,6,7,8,9,10,11,12,13,14,15,16,17,18,19,20] A7 (A8 ?_))|(refine Ax 9 rfl [0,1,2,3,4,5,6,7,8,9,10,11,12,13] A7 (A8 ?_))
 (repeat refine An ?_)
 refine Am (j:=(B0 x f t)) A0 rfl rfl rfl rfl rfl rfl rfl rfl (Cf (x.links.set (B0 x f t).toNat (Bw (Br x (B0 x f t))).1)) (G8 hlk rfl) (A8 ?_)
 generalize hR:(Bw (Br x (B0 x f t))).2.1=R at *
 generalize hLk:(Bw (Br x (B0 x f t))).1=LK at *
 refine T9 0 3 2 rfl rfl (fun v2=>?_)
 refine Zg 0 3 rfl rfl (fun ho_v2=>?_)
 refine Ks rfl ?_
 refine Ca A0 false 0 rfl rfl A7 rfl (A5 Bb) ?_
 refine Ca A0 false 1 rfl rfl A7 rfl (A5 Bb) ?_
 refine Ca A0 false 2 rfl rfl A7 rfl (A5 Bb) ?_
 refine Ca A0 false 3 rfl rfl A7 rfl (A5 Bb) ?_
 refine Ca A0 false 5 rfl rfl A7 rfl (A5 Bb) ?_
 refine Ca A0 false 6 rfl rfl A7 rfl (A5 Bb) ?_
 refine Ca A0 false 7 rfl rfl A7 rfl (A5 Bb) ?_
 refine Ca A0 false 8 rfl rfl A7 rfl (A5 Bb) ?_
 refine Ca A0 false 9 rfl rfl A7 rfl (A5 Bb) ?_
 refine Ca A0 false 11 rfl rfl A7 rfl (A5 Bb) ?_
 refine G0 (s':=?_) 10 rfl A7 ?_ ?_
 rotate_left
 refine A8 ?_
 refine Fz 66 2 rfl rfl (A8 ?_)
 (repeat refine An ?_)
 exact Bh
 refine G0 (s':=?_) 12 rfl A7 ?_ ?_
 rotate_left
 refine A8 ?_
 (repeat refine An ?_)
 exact Bh
 refine Ca A0 false 13 rfl rfl A7 rfl (A5 Bb) ?_
 refine R3 (α:=Value) (s':=?_) 14 rfl A7 ?_ ?_
 rotate_left
 refine A8 ?_
 refine Jc A0 rfl rfl rfl rfl rfl rfl (jn:=t.toNat) rfl rfl rfl (fun v=>go A0 false ?_)
 conv=>whnf
 exact Vv v
 intro v
 refine G0 (s':=?_) 15 rfl A7 ?_ ?_
 rotate_left
 refine A8 ?_
 (repeat refine An ?_)
 exact Bh
 refine Mq [16,17,18,19,20] [⟨4,60,.rd v2⟩] A7 ?_
 refine Bk (s':=?_) A0 rfl A7 Dl ?_ ?_
 rotate_left
 refine A8 ?_
 (repeat refine An ?_)
 exact Bh
 refine Bk (s':=?_) A0 rfl A7 Dl ?_ ?_
 rotate_left
 refine A8 ?_
 refine B6 A0 rfl rfl rfl rfl rfl rfl rfl rfl rfl rfl rfl (Ag ((x.workers.getD t.toNat default).queue++[R])) (Ad rfl) Bp Ac (A8 ?_)
 exact Bh
 refine Bk (s':=?_) A0 rfl A7 Dl ?_ ?_
 rotate_left
 refine A8 ?_
 refine Fz 60 2 rfl rfl (A8 ?_)
 (repeat refine An ?_)
 exact Bh
 refine Bk (s':=?_) A0 rfl A7 Dl ?_ ?_
 rotate_left
 refine A8 ?_
 (repeat refine An ?_)
 exact Bh
 refine Bk (s':=?_) A0 rfl A7 Dl ?_ ?_
 rotate_left
 refine A8 ?_
 refine Am (j:=t) A0 rfl rfl rfl rfl rfl rfl rfl rfl (Al (B3 x t (kept (Ab x t) R)).workers) (G8 hk rfl) (A8 ?_)
 exact Bh
 refine Jt A0 A7 Dl (GW.out (I5 ?_))
 conv=>whnf
 refine T3 0 3 2 rfl rfl rfl ?_
 have hsl:(B3 x t (kept (Ab x t) R)).workers.length=x.workers.length:=List.length_set
 have hk1:t.toNat<(B3 x t (kept (Ab x t) R)).workers.length:=by omega
 have hg1:(B3 x t (kept (Ab x t) R)).workers.getD t.toNat default=kept (Ab x t) R:=V3 hk
 have hbl:((B3 x t (kept (Ab x t) R)).workers.getD t.toNat default).black.length=4:=by rw [hg1];exact hWP.2.1.2.1
 have hE:=hRP.2.1
 have hbk:R.stamp.epoch.toNat<((B3 x t (kept (Ab x t) R)).workers.getD t.toNat default).black.length:=by omega
 first|(refine Ax 7 rfl [0,1,2,3,4,5,6,7,8] A7 (A8 ?_))|(refine Ax 8 rfl [0,1,2,3,4,5,6,7,8,9,10,11,12,13,14,15,16,17,18,19,20] A7 (A8 ?_))|(refine Ax 9 rfl [0,1,2,3,4,5,6,7,8,9,10,11,12,13] A7 (A8 ?_))
 (repeat refine An ?_)
 refine Jc A0 rfl rfl rfl rfl rfl rfl (jn:=t.toNat) rfl rfl rfl (fun v3=>go A0 false ?_)
 conv=>whnf
 (repeat refine An ?_)
 refine Am (j:=R.stamp.epoch) A0 rfl rfl rfl rfl rfl rfl rfl rfl (Dq (((B3 x t (kept (Ab x t) R)).workers.getD t.toNat default).black.set R.stamp.epoch.toNat true)) (C6 hbk rfl) (A8 ?_)
 refine A1x 2 (t.toNat) [(5,13)] (Al (B3 (B3 (C2 x (B0 x f t) LK) t (kept (Ab x t) R)) t (Gy (kept (Ab x t) R) R.stamp.epoch)).workers) hk1 rfl rfl G2 rfl (Fw hk1 (by rw [hg1];rfl)) ?_
 have hk0:t.toNat<(C2 x (B0 x f t) LK).workers.length:=hk
 have hk2:t.toNat<(B3 (B3 (C2 x (B0 x f t) LK) t (kept (Ab x t) R)) t (Gy (kept (Ab x t) R) R.stamp.epoch)).workers.length:=by rw [L6];show t.toNat<(x.workers.set _ _).length;rw [List.length_set];exact hk
 have hw2:Ab (B3 (B3 (C2 x (B0 x f t) LK) t (kept (Ab x t) R)) t (Gy (kept (Ab x t) R) R.stamp.epoch)) t=Gy (kept (Ab x t) R) R.stamp.epoch:=by rw [L6];exact V3 hk0
 have hs4:(Ab x t).sums.length=4:=hWP.2.1.1
 refine Ak (A8n (B3 (B3 (C2 x (B0 x f t) LK) t (kept (Ab x t) R)) t (Gy (kept (Ab x t) R) R.stamp.epoch)) (B9 x) t R.stamp.epoch (-1) Ac hk2 Ac (by rw [hw2];show R.stamp.epoch.toNat<(Ab x t).sums.length;omega) (by rw [hw2];exact hWP.2.2.2.1 _ (Ay (by show R.stamp.epoch.toNat<(Ab x t).sums.length;omega))) Az) hH hp rfl B1 rfl rfl (fun r hr=>go A0 false ?_)
 conv=>whnf
 rw [hw2,L6,L6]
 have hcs:B9 x=true:=decide_eq_true hC
 have hz:rc (Cm x f t).1=Td (B3 (C2 x (B0 x f t) LK) t (El (Gy (kept (Ab x t) R) R.stamp.epoch) R.stamp.epoch (-1))) (B9 x&&Di ((Gy (kept (Ab x t) R) R.stamp.epoch).sums.getD R.stamp.epoch.toNat default+ -1) (-1000000) 1000000):=by
  show Td (Cm x f t).1 (B9 (Cm x f t).1)=_
  rw [hfl,hyes,hcs,Bool.true_and,A4t,A38 (w:=Ab x t) hWP.2.1.1 hWP.2.1.2.1 hE]
  show Td _ (decide (Gj ((Ab x t).sums.getD (Gu x f t).stamp.epoch.toNat default+ -1)))=_
  rw [show Gu x f t=R from hR]
  rfl
 rw [hz,hyes]
 exact Bu A0 () trivial rfl rfl rfl rfl B1
end Go.Proofs.YtdendlkeiaccpaaGreatDoor
