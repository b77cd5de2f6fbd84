/- Part 28 of the proof that each of the laws FnTotals returns true for every input. No conditions. -/
import Derived.Test.YtdendlkeiaccpaaGreatP27

set_option linter.unusedSimpArgs false
set_option linter.unusedVariables false
set_option maxRecDepth 100000
namespace Go.Proofs.YtdendlkeiaccpaaGreat
open Go.Sx
set_option maxHeartbeats 8000000 in
theorem A3k (x:A6)(f t:Int)(h:x.w≤16000000)(og:Et .i64 x.graph.workers):Cr Tryz.prog (fun _=>True) 163 [] (rc x) [.one (vi f),.one (vi t)] (fun _:Unit=>True) (fun _=>Rc (Dl x f t).1 (B3 x)) (fun _=>[.one (vb (Dl x f t).2)]):=by
 refine Df A0 false Tryz.func163 rfl Aw fun B b hH hp=>?_
 conv=>whnf
 refine Az (L4 x.graph f t og) rfl (A8 ?_)
 refine ⟨fun hok=>?_,fun hok=>?_⟩<;>conv=>whnf
 ·have hok:¬ B4 x:=of_decide_eq_false (show B3 x=false by simpa using hok)
  repeat refine B7 ?_
  rw [It (fun p=>hok p.1)]
  exact Bm A0 () trivial rfl rfl rfl rfl At
 have hC:B4 x:=of_decide_eq_true (show B3 x=true by simpa using hok)
 by_cases hne:f=t
 ·repeat refine B7 ?_
  refine ⟨fun hz=>?_,fun hz=>?_⟩<;>conv=>whnf
  ·repeat refine B7 ?_
   rw [It (fun p=>p.2.1 hne)]
   exact Bm A0 () trivial rfl rfl rfl rfl At
  repeat refine B7 ?_
  refine ⟨fun hft=>have hft:=eq_of_beq hft;?_,fun hft=>have hft:=beq_eq_false_iff_ne.1 hft;?_⟩<;>conv=>whnf
  ·repeat refine B7 ?_
   rw [It (fun p=>p.2.1 hne)]
   exact Bm A0 () trivial rfl rfl rfl rfl At
  exact absurd hne hft
 rw [A0v hC hne]
 cases hLd:decide (Lg x f t)
 ·have hL:¬ Lg x f t:=of_decide_eq_false hLd
  rw [R4,if_neg hL]
  repeat refine B7 ?_
  rw [It hL]
  exact Bm A0 () trivial rfl rfl rfl rfl At
 have hL:Lg x f t:=of_decide_eq_true hLd
 have hln:=R5 hC hL.2.2.1 hL.2.2.2
 have hlk:(Ay x f t).toNat<x.links.length:=by omega
 have hlw:=A6.link_le h hlk
 rw [R4,if_pos hL]
 repeat refine B7 ?_
 refine ⟨fun hz=>?_,fun hz=>?_⟩<;>conv=>whnf
 ·have:=of_decide_eq_true hz
  omega
 repeat refine B7 ?_
 refine ⟨fun hft=>have hft:=eq_of_beq hft;?_,fun hft=>have hft:=beq_eq_false_iff_ne.1 hft;?_⟩<;>conv=>whnf
 ·exact absurd hft hne
 repeat refine B7 ?_
 (repeat refine Am ?_)
 refine Up A0 rfl rfl rfl rfl rfl (jn:=(Ay x f t).toNat) rfl (r:=B8.c ((x.links).getD ((Ay x f t).toNat) default)) rfl hlk rfl rfl (fun u=>go A0 false ?_)
 conv=>whnf
 refine Cx (Nl (Bz x (Ay x f t)) (by show (x.links.getD _ default).w≤_;omega)) rfl (A8 ?_)
 first|(refine B5 5 rfl [0,1,2,3,4,5,6,7,8] A7 (A8 ?_))
 (repeat refine Am ?_)
 refine Al (j:=(Ay x f t)) A0 rfl rfl rfl rfl rfl rfl rfl rfl (Ct (x.links.set (Ay x f t).toNat (D3 (Bz x (Ay x f t))).1)) (Fg hlk rfl) (A8 ?_)
 rw [Uq hL]
 exact Bm A0 () trivial rfl rfl rfl rfl At
theorem A1z (n:Int):Eb n (-1000000) 1000000=decide (Hv n):=by
 rw [Bool.eq_iff_iff,Go.Sx.Au,decide_eq_true_eq]
 exact Iff.rfl
theorem B1g {c:A6}{f t:Int}(h:B4 c)(h2:(D9 c f t).2=true):B3 (D9 c f t).1=decide (Hv (Zb c f t)):=by
 rw [Ry h,if_pos h2]
theorem T2 {c:A6}{t:Int}{W:Ac}(hk:t.toNat<c.workers.length):Af (Bc c t W) t=W:=by
 unfold Af Bc
 exact Sx.getD_set_self _ _ _ _ hk
theorem Js {c:A6}{t:Int}{W V:Ac}:Bc (Bc c t W) t V=Bc c t V:=by
 unfold Bc
 rw [List.set_set]
set_option maxHeartbeats 8000000 in
theorem B07 (x:A6)(f t:Int)(h:x.w≤8000000)(og:Et .i64 x.graph.workers):Cr Tryz.prog (fun _=>True) 162 [] (rc x) [.one (vi f),.one (vi t)] (fun _:Unit=>True) (fun _=>rc (D9 x f t).1) (fun _=>[.one (vb (D9 x f t).2)]):=by
 have h8:=h
 have h:x.w≤16000000:=by omega
 refine Df A0 false Tryz.func162 rfl Aw fun B b hH hp=>?_
 conv=>whnf
 refine Az (L4 x.graph f t og) rfl (A8 ?_)
 refine ⟨fun hok=>?_,fun hok=>?_⟩<;>conv=>whnf
 ·have hok:¬ B4 x:=of_decide_eq_false (show B3 x=false by simpa using hok)
  repeat refine B7 ?_
  rw [Ks (fun p=>hok p.1)]
  exact Bm A0 () trivial rfl rfl rfl rfl At
 have hC:B4 x:=of_decide_eq_true (show B3 x=true by simpa using hok)
 by_cases hne:f=t
 ·repeat refine B7 ?_
  refine ⟨fun hz=>?_,fun hz=>?_⟩<;>conv=>whnf
  ·repeat refine B7 ?_
   rw [Ks (fun p=>p.2.1 hne)]
   exact Bm A0 () trivial rfl rfl rfl rfl At
  repeat refine B7 ?_
  refine ⟨fun hft=>have hft:=eq_of_beq hft;?_,fun hft=>have hft:=beq_eq_false_iff_ne.1 hft;?_⟩<;>conv=>whnf
  ·repeat refine B7 ?_
   rw [Ks (fun p=>p.2.1 hne)]
   exact Bm A0 () trivial rfl rfl rfl rfl At
  exact absurd hne hft
 rw [A0v hC hne]
 cases hLd:decide (Lg x f t)
 ·have hL:¬ Lg x f t:=of_decide_eq_false hLd
  rw [R4,if_neg hL]
  repeat refine B7 ?_
  rw [Ks hL]
  exact Bm A0 () trivial rfl rfl rfl rfl At
 have hL:Lg x f t:=of_decide_eq_true hLd
 have hln:=R5 hC hL.2.2.1 hL.2.2.2
 have hlk:(Ay x f t).toNat<x.links.length:=by omega
 have hlw:=A6.link_le h hlk
 rw [R4,if_pos hL]
 repeat refine B7 ?_
 refine ⟨fun hz=>?_,fun hz=>?_⟩<;>conv=>whnf
 ·have:=of_decide_eq_true hz
  omega
 repeat refine B7 ?_
 refine ⟨fun hft=>have hft:=eq_of_beq hft;?_,fun hft=>have hft:=beq_eq_false_iff_ne.1 hft;?_⟩<;>conv=>whnf
 ·exact absurd hft hne
 repeat refine B7 ?_
 (repeat refine Am ?_)
 refine Up A0 rfl rfl rfl rfl rfl (jn:=(Ay x f t).toNat) rfl (r:=B8.c ((x.links).getD ((Ay x f t).toNat) default)) rfl hlk rfl rfl (fun u=>go A0 false ?_)
 conv=>whnf
 refine Cx (Ql (Bz x (Ay x f t)) (by show (x.links.getD _ default).w≤_;omega)) rfl (A8 ?_)
 refine ⟨fun h4=>?_,fun h4=>?_⟩<;>conv=>whnf
 ·have h4:(C3 (Bz x (Ay x f t))).2.2=false:=by simpa using h4
  repeat refine B7 ?_
  rw [W9 h4]
  refine Gi Tryz.prog 3 ((Ay x f t).toNat) [(1,6)] (Ct x.links) hlk rfl rfl Hi rfl (D0 rfl) ?_
  exact Bm A0 () trivial rfl rfl rfl rfl At
 have h4:(C3 (Bz x (Ay x f t))).2.2=true:=by simpa using h4
 have hT:0<(Bz x (Ay x f t)).queue.length:=by
  rcases Nat.eq_zero_or_pos (Bz x (Ay x f t)).queue.length with e|e
  ·rw [Zc (fun p=>by omega)] at h4;cases h4
  exact e
 have hLA:=hC.2.2.1 _ hlk
 have hLP:Fq (Bz x (Ay x f t)):=hLA.1
 have hrec:(C3 (Bz x (Ay x f t))).2.1=(Bz x (Ay x f t)).queue.getD 0 default:=by rw [A11 ⟨hLP,hT⟩]
 have hRP:H7 (C3 (Bz x (Ay x f t))).2.1:=by rw [hrec];exact hLP.2 _ (B9 hT)
 have hb:=hL.2.2.2
 have hwl:=hC.1.2.1
 have hk:t.toNat<x.workers.length:=by omega
 have hw:=A6.worker_le h8 hk
 have hWP:=hC.2.1 _ (B9 (d:=default) hk)
 have hql:=(T1 (x.workers.getD t.toNat default)).1
 have hyes:=Yx hL h4
 have hfl:=B1g hC (show (D9 x f t).2=true by rw [hyes])
 repeat refine B7 ?_
 first|(refine B5 7 rfl [0,1,2,3,4,5,6,7,8] A7 (A8 ?_))|(refine B5 8 rfl [0,1,2,3,4,5,6,7,8,9,10,11,12,13,14,15,16,17,18,19,20] A7 (A8 ?_))|(refine B5 9 rfl [0,1,2,3,4,5,6,7,8,9,10,11,12,13] A7 (A8 ?_))
 (repeat refine Am ?_)
 refine Al (j:=(Ay x f t)) A0 rfl rfl rfl rfl rfl rfl rfl rfl (Ct (x.links.set (Ay x f t).toNat (C3 (Bz x (Ay x f t))).1)) (Fg hlk rfl) (A8 ?_)
 generalize hR:(C3 (Bz x (Ay x f t))).2.1=R at *
 generalize hLk:(C3 (Bz x (Ay x f t))).1=LK at *
 refine R7 0 3 2 rfl rfl (fun v2=>?_)
 refine Xc 0 3 rfl rfl (fun ho_v2=>?_)
 refine Je rfl ?_
 refine Bu A0 false 0 rfl rfl A7 rfl (A4 B1) ?_
 refine Bu A0 false 1 rfl rfl A7 rfl (A4 B1) ?_
 refine Bu A0 false 2 rfl rfl A7 rfl (A4 B1) ?_
 refine Bu A0 false 3 rfl rfl A7 rfl (A4 B1) ?_
 refine Bu A0 false 5 rfl rfl A7 rfl (A4 B1) ?_
 refine Bu A0 false 6 rfl rfl A7 rfl (A4 B1) ?_
 refine Bu A0 false 7 rfl rfl A7 rfl (A4 B1) ?_
 refine Bu A0 false 8 rfl rfl A7 rfl (A4 B1) ?_
 refine Bu A0 false 9 rfl rfl A7 rfl (A4 B1) ?_
 refine Bu A0 false 11 rfl rfl A7 rfl (A4 B1) ?_
 refine Dt (s':=?_) 10 rfl A7 ?_ ?_
 rotate_left
 refine A8 ?_
 refine Jw 66 2 rfl rfl (A8 ?_)
 (repeat refine Am ?_)
 exact Bh
 refine Dt (s':=?_) 12 rfl A7 ?_ ?_
 rotate_left
 refine A8 ?_
 (repeat refine Am ?_)
 exact Bh
 refine Bu A0 false 13 rfl rfl A7 rfl (A4 B1) ?_
 refine P7 (α:=Value) (s':=?_) 14 rfl A7 ?_ ?_
 rotate_left
 refine A8 ?_
 refine I1 A0 rfl rfl rfl rfl rfl rfl (jn:=t.toNat) rfl rfl rfl (fun v=>go A0 false ?_)
 conv=>whnf
 exact Tn v
 intro v
 refine Dt (s':=?_) 15 rfl A7 ?_ ?_
 rotate_left
 refine A8 ?_
 (repeat refine Am ?_)
 exact Bh
 refine Ng [16,17,18,19,20] [⟨4,60,.rd v2⟩] A7 ?_
 refine Bp (s':=?_) A0 rfl A7 Dx ?_ ?_
 rotate_left
 refine A8 ?_
 (repeat refine Am ?_)
 exact Bh
 refine Bp (s':=?_) A0 rfl A7 Dx ?_ ?_
 rotate_left
 refine A8 ?_
 refine Av A0 rfl rfl rfl rfl rfl rfl rfl rfl rfl rfl rfl (Aa ((x.workers.getD t.toNat default).queue++[R])) (Ad rfl) Bj Ab (A8 ?_)
 exact Bh
 refine Bp (s':=?_) A0 rfl A7 Dx ?_ ?_
 rotate_left
 refine A8 ?_
 refine Jw 60 2 rfl rfl (A8 ?_)
 (repeat refine Am ?_)
 exact Bh
 refine Bp (s':=?_) A0 rfl A7 Dx ?_ ?_
 rotate_left
 refine A8 ?_
 (repeat refine Am ?_)
 exact Bh
 refine Bp (s':=?_) A0 rfl A7 Dx ?_ ?_
 rotate_left
 refine A8 ?_
 refine Al (j:=t) A0 rfl rfl rfl rfl rfl rfl rfl rfl (Ar (Bc x t (kept (Af x t) R)).workers) (Fg hk rfl) (A8 ?_)
 exact Bh
 refine L0 A0 A7 Dx (GW.out (Jf ?_))
 conv=>whnf
 refine R3 0 3 2 rfl rfl rfl ?_
 have hsl:(Bc x t (kept (Af x t) R)).workers.length=x.workers.length:=List.length_set
 have hk1:t.toNat<(Bc x t (kept (Af x t) R)).workers.length:=by omega
 have hg1:(Bc x t (kept (Af x t) R)).workers.getD t.toNat default=kept (Af x t) R:=T2 hk
 have hbl:((Bc x t (kept (Af x t) R)).workers.getD t.toNat default).black.length=4:=by rw [hg1];exact hWP.2.1.2.1
 have hE:=hRP.2.1
 have hbk:R.stamp.epoch.toNat<((Bc x t (kept (Af x t) R)).workers.getD t.toNat default).black.length:=by omega
 first|(refine B5 7 rfl [0,1,2,3,4,5,6,7,8] A7 (A8 ?_))|(refine B5 8 rfl [0,1,2,3,4,5,6,7,8,9,10,11,12,13,14,15,16,17,18,19,20] A7 (A8 ?_))|(refine B5 9 rfl [0,1,2,3,4,5,6,7,8,9,10,11,12,13] A7 (A8 ?_))
 (repeat refine Am ?_)
 refine I1 A0 rfl rfl rfl rfl rfl rfl (jn:=t.toNat) rfl rfl rfl (fun v3=>go A0 false ?_)
 conv=>whnf
 (repeat refine Am ?_)
 refine Al (j:=R.stamp.epoch) A0 rfl rfl rfl rfl rfl rfl rfl rfl (Eg (((Bc x t (kept (Af x t) R)).workers.getD t.toNat default).black.set R.stamp.epoch.toNat true)) (C0 hbk rfl) (A8 ?_)
 refine A3g 2 (t.toNat) [(5,13)] (Ar (Bc (Bc (Cb x (Ay x f t) LK) t (kept (Af x t) R)) t (I0 (kept (Af x t) R) R.stamp.epoch)).workers) hk1 rfl rfl Hi rfl (Iz hk1 (by rw [hg1];rfl)) ?_
 have hk0:t.toNat<(Cb x (Ay x f t) LK).workers.length:=hk
 have hk2:t.toNat<(Bc (Bc (Cb x (Ay x f t) LK) t (kept (Af x t) R)) t (I0 (kept (Af x t) R) R.stamp.epoch)).workers.length:=by rw [Js];show t.toNat<(x.workers.set _ _).length;rw [List.length_set];exact hk
 have hw2:Af (Bc (Bc (Cb x (Ay x f t) LK) t (kept (Af x t) R)) t (I0 (kept (Af x t) R) R.stamp.epoch)) t=I0 (kept (Af x t) R) R.stamp.epoch:=by rw [Js];exact T2 hk0
 have hs4:(Af x t).sums.length=4:=hWP.2.1.1
 refine Ai (A5h (Bc (Bc (Cb x (Ay x f t) LK) t (kept (Af x t) R)) t (I0 (kept (Af x t) R) R.stamp.epoch)) (B3 x) t R.stamp.epoch (-1) Ab hk2 Ab (by rw [hw2];show R.stamp.epoch.toNat<(Af x t).sums.length;omega) (by rw [hw2];exact hWP.2.2.2.1 _ (B9 (by show R.stamp.epoch.toNat<(Af x t).sums.length;omega))) Aw) hH hp rfl At rfl rfl (fun r hr=>go A0 false ?_)
 conv=>whnf
 rw [hw2,Js,Js]
 have hcs:B3 x=true:=decide_eq_true hC
 have hz:rc (D9 x f t).1=Rc (Bc (Cb x (Ay x f t) LK) t (F4 (I0 (kept (Af x t) R) R.stamp.epoch) R.stamp.epoch (-1))) (B3 x&&Eb ((I0 (kept (Af x t) R) R.stamp.epoch).sums.getD R.stamp.epoch.toNat default+ -1) (-1000000) 1000000):=by
  show Rc (D9 x f t).1 (B3 (D9 x f t).1)=_
  rw [hfl,hyes,hcs,Bool.true_and,A1z,A1c (w:=Af x t) hWP.2.1.1 hWP.2.1.2.1 hE]
  show Rc _ (decide (Hv ((Af x t).sums.getD (Jb x f t).stamp.epoch.toNat default+ -1)))=_
  rw [show Jb x f t=R from hR]
  rfl
 rw [hz,hyes]
 exact Bm A0 () trivial rfl rfl rfl rfl At
end Go.Proofs.YtdendlkeiaccpaaGreat
