/- Part 28 of the proof that each of the laws FnConsole returns true for every input. No conditions. -/
import Derived.Test.YtmhcebdkjgkmlaaGreatDoorQ27

set_option linter.unusedSimpArgs false
set_option linter.unusedVariables false
set_option maxRecDepth 100000
namespace Go.Proofs.YtmhcebdkjgkmlaaGreatDoor
open Go.Sx
set_option maxHeartbeats 8000000 in
theorem C0e (x:A3)(f t:Int)(h:x.w≤16000000)(og:Gv .i64 x.az.aq):MtR (fun _=>True) 188 [] (rc x) [.one (vi f),.one (vi t)] (fun _:Unit=>True) (fun _=>rcb (F6 x f t).1 (Au x)) (fun _=>[.one (vb (F6 x f t).2)]):=by
 refine zeP Tryz.func188 fun B b hH hp=>?_;refine Fp (Sm x.az f t og) ?_;refine C1 (fun hok=>?_) fun hok=>?_
 ·have hok:¬ Ax x:=Cv (show Au x=false by simpa using hok)
  refine As ?_;rw [Ls (fun p=>hok p.1)];exact Jf () trivial
 have hC:Ax x:=Bn (show Au x=true by simpa using hok)
 by_cases hne:f=t
 ·refine As ?_
  refine C1 (fun hz=>?_) fun hz=>?_
  ·refine As ?_
   rw [Ls (fun p=>p.2.1 hne)];exact Jf () trivial
  refine As ?_;refine Lf (fun hft=>?_) fun hft=>?_
  ·refine As ?_
   rw [Ls (fun p=>p.2.1 hne)];exact Jf () trivial
  exact absurd hne hft
 rw [A7s hC hne]
 cases hLd:decide (P5 x f t)
 ·have hL:¬ P5 x f t:=Cv hLd
  rw [O3,Ab hL];refine As ?_;rw [Ls hL];exact Jf () trivial
 have hL:P5 x f t:=Bn hLd;have hln:=Q1 hC hL.2.2.1 hL.2.2.2;have hlk:(Ar x f t).toNat<x.ay.length:=by omega
 have hlw:=A3.link_le h hlk;rw [O3,Ak hL];refine As ?_;refine C1 (fun hz=>?_) fun hz=>?_
 ·have:=Bn hz
  omega
 refine As ?_;refine Lf (fun hft=>?_) fun hft=>?_
 ·exact absurd hft hne
 refine As ?_;refine A4k A0 rfl hlk rfl (fun u=>go A0 false ?_);conv=>whnf
 refine Lo (A8x (Bg x (Ar x f t)) (by show (x.ay.getD _ default).w≤_;omega)) rfl (Ah ?_)
 first|(refine Aj 5 rfl [0,1,2,3,4,5,6,7,8] Am (Ah ?_))
 refine B4 ?_;refine Bi (j:=(Ar x f t)) A0 rfl (Ba (x.ay.set (Ar x f t).toNat (Et (Bg x (Ar x f t))).1)) (Ht hlk rfl) (Ah ?_);rw [W6 hL];exact Jf () trivial
theorem B75 (n:Int):E4 n (-1000000) 1000000=decide (Jk n):=by
 rw [S3,Go.Sx.Cl,Np];exact Iff.rfl
variable {c : A3}
theorem C8v {f t:Int}(h:Ax c)(h2:(E9 c f t).2=true):Au (E9 c f t).1=decide (Jk (B4w c f t)):=by
 rw [A4l h,Ak h2]
theorem A5u {t:Int}{W:Ae}(hk:t.toNat<c.aq.length):A8 (Be c t W) t=W:=by
 unfold A8 Be;exact Sx.getD_set_self _ _ _ _ hk
theorem Q3 {t:Int}{W V:Ae}:Be (Be c t W) t V=Be c t V:=by
 unfold Be;rw [List.set_set]
set_option maxHeartbeats 8000000 in
theorem C8i (x:A3)(f t:Int)(h:x.w≤8000000)(og:Gv .i64 x.az.aq):MtR (fun _=>True) 187 [] (rc x) [.one (vi f),.one (vi t)] (fun _:Unit=>True) (fun _=>rc (E9 x f t).1) (fun _=>[.one (vb (E9 x f t).2)]):=by
 have h8:=h;have h:x.w≤16000000:=by omega
 refine zeP Tryz.func187 fun B b hH hp=>?_;refine Fp (Sm x.az f t og) ?_;refine C1 (fun hok=>?_) fun hok=>?_
 ·have hok:¬ Ax x:=Cv (show Au x=false by simpa using hok)
  refine As ?_;rw [Oz (fun p=>hok p.1)];exact Jf () trivial
 have hC:Ax x:=Bn (show Au x=true by simpa using hok)
 by_cases hne:f=t
 ·refine As ?_
  refine C1 (fun hz=>?_) fun hz=>?_
  ·refine As ?_
   rw [Oz (fun p=>p.2.1 hne)];exact Jf () trivial
  refine As ?_;refine Lf (fun hft=>?_) fun hft=>?_
  ·refine As ?_
   rw [Oz (fun p=>p.2.1 hne)];exact Jf () trivial
  exact absurd hne hft
 rw [A7s hC hne]
 cases hLd:decide (P5 x f t)
 ·have hL:¬ P5 x f t:=Cv hLd
  rw [O3,Ab hL];refine As ?_;rw [Oz hL];exact Jf () trivial
 have hL:P5 x f t:=Bn hLd;have hln:=Q1 hC hL.2.2.1 hL.2.2.2;have hlk:(Ar x f t).toNat<x.ay.length:=by omega
 have hlw:=A3.link_le h hlk;rw [O3,Ak hL];refine As ?_;refine C1 (fun hz=>?_) fun hz=>?_
 ·have:=Bn hz
  omega
 refine As ?_;refine Lf (fun hft=>?_) fun hft=>?_
 ·exact absurd hft hne
 refine As ?_;refine A4k A0 rfl hlk rfl (fun u=>go A0 false ?_);conv=>whnf
 refine Lo (B4r (Bg x (Ar x f t)) (by show (x.ay.getD _ default).w≤_;omega)) rfl (Ah ?_)
 refine C1 (fun h4=>?_) fun h4=>?_
 ·have h4:(Bp (Bg x (Ar x f t))).2.2=false:=by simpa using h4
  refine As ?_;rw [Yl h4];refine Gb Tryz.prog 3 ((Ar x f t).toNat) [(1,6)] (Ba x.ay) hlk rfl S7 rfl (Ct rfl) ?_;exact Jf () trivial
 have h4:(Bp (Bg x (Ar x f t))).2.2=true:=by simpa using h4
 have hT:0<(Bg x (Ar x f t)).ar.length:=by
  rcases Nat.eq_zero_or_pos (Bg x (Ar x f t)).ar.length with e|e
  ·rw [Xx (fun p=>by omega)] at h4;cases h4
  exact e
 have hLA:=hC.2.2.1 _ hlk;have hLP:Hv (Bg x (Ar x f t)):=hLA.1;have hrec:(Bp (Bg x (Ar x f t))).2.1=(Bg x (Ar x f t)).ar.getD 0 default:=by rw [A19 ⟨hLP,hT⟩]
 have hRP:H5 (Bp (Bg x (Ar x f t))).2.1:=by rw [hrec];exact hLP.2 _ (Al hT)
 have hb:=hL.2.2.2;have hwl:=hC.1.2.1;have hk:t.toNat<x.aq.length:=by omega
 have hw:=A3.worker_le h8 hk;have hWP:=hC.2.1 _ (Al (d:=default) hk);have hql:=(Om (x.aq.getD t.toNat default)).1;have hyes:=A1v hL h4;have hfl:=C8v hC (show (E9 x f t).2=true by rw [hyes])
 refine As ?_
 first|(refine Aj 7 rfl [0,1,2,3,4,5,6,7,8] Am (Ah ?_))|(refine Aj 8 rfl [0,1,2,3,4,5,6,7,8,9,10,11,12,13,14,15,16,17,18,19,20] Am (Ah ?_))|(refine Aj 9 rfl [0,1,2,3,4,5,6,7,8,9,10,11,12,13] Am (Ah ?_))
 refine B4 ?_;refine Bi (j:=(Ar x f t)) A0 rfl (Ba (x.ay.set (Ar x f t).toNat (Bp (Bg x (Ar x f t))).1)) (Ht hlk rfl) (Ah ?_);generalize hR:(Bp (Bg x (Ar x f t))).2.1=R at *;generalize hLk:(Bp (Bg x (Ar x f t))).1=LK at *;refine Zk 0 3 2 rfl rfl (fun v2=>?_);refine A71 0 3 rfl rfl (fun ho_v2=>?_);refine J3 rfl (E5 0 rfl (E5 1 rfl (E5 2 rfl (E5 3 rfl (E5 5 rfl (E5 6 rfl (E5 7 rfl (E5 8 rfl (E5 9 rfl (E5 11 rfl ?_))))))))));refine Lt (s':=?_) 10 rfl Am ?_ ?_;rotate_left;refine Ah ?_;refine Hk 66 2 rfl (Em ?_);exact C2
 refine On 12 ?_;refine E5 13 rfl ?_;refine Wa (α:=Value) (s':=?_) 14 rfl Am ?_ ?_;rotate_left;refine Ah ?_;refine M9 A0 rfl (jn:=t.toNat) rfl rfl (fun v=>go A0 false ?_);conv=>whnf
 exact A3y v
 intro v;refine On 15 ?_;refine Nu [16,17,18,19,20] [⟨4,60,.rd v2⟩] Am ?_;refine My rfl Dt ?_;refine Lg (s':=?_) rfl Dt ?_ ?_;rotate_left;refine Ah ?_;refine B6 A0 rfl (A9 ((x.aq.getD t.toNat default).ar++[R])) (Ao rfl) Hd A7 (Ah ?_);exact C2
 refine Lg (s':=?_) rfl Dt ?_ ?_;rotate_left;refine Ah ?_;refine Hk 60 2 rfl (Em ?_);exact C2
 refine My rfl Dt ?_;refine Lg (s':=?_) rfl Dt ?_ ?_;rotate_left;refine Ah ?_;refine Bi (j:=t) A0 rfl (Af (Be x t (kept (A8 x t) R)).aq) (Ht hk rfl) (Ah ?_);exact C2
 refine Lr A0 Am Dt (GW.out (It ?_));conv=>whnf
 refine Zh 0 3 2 rfl rfl rfl ?_;have hsl:(Be x t (kept (A8 x t) R)).aq.length=x.aq.length:=K0;have hk1:t.toNat<(Be x t (kept (A8 x t) R)).aq.length:=by omega
 have hg1:(Be x t (kept (A8 x t) R)).aq.getD t.toNat default=kept (A8 x t) R:=A5u hk;have hbl:((Be x t (kept (A8 x t) R)).aq.getD t.toNat default).ah.length=4:=by rw [hg1];exact hWP.2.1.2.1
 have hE:=hRP.2.1;have hbk:R.af.ab.toNat<((Be x t (kept (A8 x t) R)).aq.getD t.toNat default).ah.length:=by omega
 first|(refine Aj 7 rfl [0,1,2,3,4,5,6,7,8] Am (Ah ?_))|(refine Aj 8 rfl [0,1,2,3,4,5,6,7,8,9,10,11,12,13,14,15,16,17,18,19,20] Am (Ah ?_))|(refine Aj 9 rfl [0,1,2,3,4,5,6,7,8,9,10,11,12,13] Am (Ah ?_))
 refine B4 ?_;refine M9 A0 rfl (jn:=t.toNat) rfl rfl (fun v3=>go A0 false ?_);conv=>whnf
 refine B4 ?_;refine Bi (j:=R.af.ab) A0 rfl (Df (((Be x t (kept (A8 x t) R)).aq.getD t.toNat default).ah.set R.af.ab.toNat true)) (Cm hbk rfl) (Ah ?_);refine C0c 2 (t.toNat) [(5,13)] (Af (Be (Be (Dd x (Ar x f t) LK) t (kept (A8 x t) R)) t (Q9 (kept (A8 x t) R) R.af.ab)).aq) hk1 rfl rfl S7 rfl (Hx hk1 (by rw [hg1];rfl)) ?_;have hk0:t.toNat<(Dd x (Ar x f t) LK).aq.length:=hk;have hk2:t.toNat<(Be (Be (Dd x (Ar x f t) LK) t (kept (A8 x t) R)) t (Q9 (kept (A8 x t) R) R.af.ab)).aq.length:=by rw [Q3];show t.toNat<(x.aq.set _ _).length;rw [K0];exact hk
 have hw2:A8 (Be (Be (Dd x (Ar x f t) LK) t (kept (A8 x t) R)) t (Q9 (kept (A8 x t) R) R.af.ab)) t=Q9 (kept (A8 x t) R) R.af.ab:=by rw [Q3];exact A5u hk0
 have hs4:(A8 x t).al.length=4:=hWP.2.1.1;refine A6h (C18 (Be (Be (Dd x (Ar x f t) LK) t (kept (A8 x t) R)) t (Q9 (kept (A8 x t) R) R.af.ab)) (Au x) t R.af.ab (-1) A7 hk2 A7 (by rw [hw2];show R.af.ab.toNat<(A8 x t).al.length;omega) (by rw [hw2];exact hWP.2.2.2.1 _ (Al (by show R.af.ab.toNat<(A8 x t).al.length;omega))) Bq) hH hp rfl J0 rfl rfl (fun r hr=>go A0 false ?_)
 conv=>whnf
 rw [hw2,Q3,Q3];have hcs:Au x=true:=Dc hC
 have hz:rc (E9 x f t).1=rcb (Be (Dd x (Ar x f t) LK) t (Iv (Q9 (kept (A8 x t) R) R.af.ab) R.af.ab (-1))) (Au x&&E4 ((Q9 (kept (A8 x t) R) R.af.ab).al.getD R.af.ab.toNat default+ -1) (-1000000) 1000000):=by
  show rcb (E9 x f t).1 (Au (E9 x f t).1)=_
  rw [hfl,hyes,hcs,Bool.true_and,B75,A4q (w:=A8 x t) hWP.2.1.1 hWP.2.1.2.1 hE]
  show rcb _ (decide (Jk ((A8 x t).al.getD (Pa x f t).af.ab.toNat default+ -1)))=_
  rw [show Pa x f t=R from hR]
  rfl
 rw [hz,hyes];exact Jf () trivial
theorem C7i {c:A3}{w:Int}(h:Ax c)(h2:(Ck c w).2=true)(h3:B1 c w≠w):Au (Ck c w).1=decide (Jk (B30 c w)):=by
 rw [W8 h,Ak ⟨h2,h3⟩]
theorem C34 {c:A3}{w:Int}(h:Ax c)(h3:B1 c w=w):Au (Ck c w).1=true:=by
 rw [W8 h,Ab (fun p=>p.2 h3)]
set_option maxHeartbeats 8000000 in
theorem C8h (x:A3)(w:Int)(h:x.w≤8000000)(og:Gv .i64 x.az.aq):MtR (fun _=>True) 186 [] (rc x) [.one (vi w)] (fun _:Unit=>True) (fun _=>rc (Ck x w).1) (fun _=>[.one (vb (Ck x w).2)]):=by
 have h:x.w≤16000000:=by omega
 refine zeP Tryz.func186 fun B b hH hp=>?_;refine M4 (C0f x w h) hH hp fun r hr=>?_;refine C1 (fun h1=>?_) fun h1=>?_
 ·have h1:¬ I6 x w:=Cv (by simpa using h1)
  refine As ?_;rw [Rq (fun p=>h1 p.1)];exact Jf () trivial
 have h1:I6 x w:=Bn (show decide (I6 x w)=true by simpa using h1)
 have hC:=h1.1;have hb:=h1.2;have hk:w.toNat<x.aq.length:=by omega
 have hw:=A3.worker_le h hk;have hWP:=hC.2.1 _ (Al (d:=default) hk);have hlw:=Om (x.aq.getD w.toNat default);refine As ?_;refine M9 A0 rfl (jn:=w.toNat) rfl rfl (fun v=>go A0 false ?_);conv=>whnf
 refine As ?_;refine Lf (fun h2=>?_) fun h2=>?_
 ·refine As ?_
  rw [Rq (fun p=>by have:=p.2;simp only [A8] at this;omega)];refine Gb Tryz.prog 7 (w.toNat) [(1,11)] (Af x.aq) hk rfl S7 rfl (Ct rfl) ?_;exact Jf () trivial
 have h2':0<(x.aq.getD w.toNat default).aa.length:=by omega
 have h2:0<(A8 x w).aa.length:=h2';have hM:I6 x w∧0<(A8 x w).aa.length:=⟨h1,h2⟩;have hR:H5 (B2 x w)∧(B2 x w).op<x.az.ak.length:=hWP.1.2.1 _ (Al (d:=default) h2);have hgw:=hC.1.1.2.1;have how:=B61 (k:=(B2 x w).key) (n:=x.az.aq) hR.1.2.2.2.1.1 hgw.1;have hwl:=hC.1.2.1;have hcs:Au x=true:=Dc hC;refine As ?_;refine N8 A0 rfl (Cu _ _ _) rfl (Ah ?_);refine Hk 35 11 rfl (Em ?_);refine Rt 7 (w.toNat) [(1,11)] (Af x.aq) hk rfl rfl S7 rfl (Ct rfl) (It ?_);conv=>whnf
 have hlk9:=hlw.1
 first|(refine Aj 4 rfl [0,1,2,3,4,5,6,7,8,9] Am (Ah ?_))|(refine Aj 7 rfl [0,1,2,3,4,5,6,7,8,9,10,11,12,13,14,15] Am (Ah ?_))|(refine Aj 10 rfl [0,1,2,3,4,5,6,7,8] Am (Ah ?_))|(refine Aj 12 rfl [0,1,2,3,4,5,6,7,8,9,10,11,12,13,14,15,16,17,18,19,20] Am (Ah ?_))|(refine Aj 13 rfl [0,1,2,3,4,5,7,8,9,10,11,12,13,14,15,16,6,17,18,19,20] Am (Ah ?_))
 refine Fp (A4z (B2 x w).key x.az.aq A7) ?_;refine Y0 (fun h3=>?_) fun h3=>?_
 ·have h3:B1 x w≠w:=h3
  have hmt:0≤B1 x w∧B1 x w<x.az.aq:=how;have hln:=Q1 hC (f:=w) (t:=B1 x w) A7 hmt;have hlk:(Ar x w (B1 x w)).toNat<x.ay.length:=by omega
  have hll:=A3.link_le h hlk;have hlp:J7 x.az.aq w (Ev (B2 x w).key x.az.aq)=Ar x w (B1 x w):=Sd hgw A7 hmt;have hs4:(A8 x w).al.length=4:=hWP.2.1.1;have hE:=hR.1.2.1;have hsum:Jk ((A8 x w).al.getD (B2 x w).af.ab.toNat default):=hWP.2.2.2.1 _ (Al (by show (B2 x w).af.ab.toNat<(A8 x w).al.length;omega))
  refine Fp (Sm x.az w (Ev (B2 x w).key x.az.aq) og) ?_;rw [hlp];refine J3 rfl (E5 0 rfl (E5 1 rfl (E5 2 rfl (E5 3 rfl (E5 5 rfl ?_)))));refine On 4 ?_;refine On 6 ?_;refine Wa (α:=Nat→Value) (s':=?_) 7 rfl Am ?_ ?_;rotate_left;refine Ah ?_;refine A4k A0 rfl hlk rfl (fun u=>go A0 false ?_);conv=>whnf
  exact A3y u
  intro u;refine On 8 ?_;refine zt2 9 13 ?_ ?_
  focus
   refine Lo (A84 (Bg x (Ar x w (B1 x w))) (B2 x w) (by show (x.ay.getD _ default).w≤_;omega)) rfl (Ah ?_)
   refine Ec (E5 10 rfl ?_);refine zoF 11 ?_;refine zoF 12 ?_;refine splitB [13] Am ⟨?_,trivial⟩;refine Em ?_;refine Ec ?_
  rotate_left 1
  focus
   refine B4 ?_;refine Ec ?_;refine splitB [9] Am ⟨?_,trivial⟩;refine Ah ?_;refine Lo (A84 (Bg x (Ar x w (B1 x w))) (B2 x w) (by show (x.ay.getD _ default).w≤_;omega)) rfl (Ah ?_)
   refine Ec (E5 10 rfl ?_);refine zoF 11 ?_;refine zoF 12 ?_
  all_goals
   refine splitB [14] Am ⟨?_,trivial⟩;refine Em ?_;refine Ec (E5 15 rfl ?_);refine A0z Am (Ah ?_)
  all_goals
   refine C1 (fun h4=>?_) fun h4=>?_
   ·have h4:(D8 (Bg x (Ar x w (B1 x w))) (B2 x w)).2=false:=by simpa using h4
    refine As ?_;rw [Yj hM h3 h4];refine Gb Tryz.prog 8 ((Ar x w (B1 x w)).toNat) [(1,13)] (Ba x.ay) hlk rfl S7 rfl (Ct rfl) ?_;exact Jf () trivial
   have h4:(D8 (Bg x (Ar x w (B1 x w))) (B2 x w)).2=true:=by simpa using h4
   have hyes:=Yk hM h3 h4;have hfl:=C7i hC (show (Ck x w).2=true by rw [hyes]) h3
   refine As ?_
   first|(refine Aj 4 rfl [0,1,2,3,4,5,6,7,8,9] Am (Ah ?_))|(refine Aj 7 rfl [0,1,2,3,4,5,6,7,8,9,10,11,12,13,14,15] Am (Ah ?_))|(refine Aj 10 rfl [0,1,2,3,4,5,6,7,8] Am (Ah ?_))|(refine Aj 12 rfl [0,1,2,3,4,5,6,7,8,9,10,11,12,13,14,15,16,17,18,19,20] Am (Ah ?_))|(refine Aj 13 rfl [0,1,2,3,4,5,7,8,9,10,11,12,13,14,15,16,6,17,18,19,20] Am (Ah ?_))
   refine B4 ?_;refine Bi (j:=(Ar x w (B1 x w))) A0 rfl (Ba (Dd x (Ar x w (B1 x w)) (D8 (Bg x (Ar x w (B1 x w))) (B2 x w)).1).ay) (Ht hlk rfl) ?_;refine Ah ?_;refine M4 (C18 (Dd x (Ar x w (B1 x w)) (D8 (Bg x (Ar x w (B1 x w))) (B2 x w)).1) (Au x) w (B2 x w).af.ab 1 hb.1 hk hE.1 (by show (B2 x w).af.ab.toNat<(A8 x w).al.length;omega) hsum Bq) hH hp fun r2 hr2=>?_
   have hk9:w.toNat<(Be (Dd x (Ar x w (B1 x w)) (D8 (Bg x (Ar x w (B1 x w))) (B2 x w)).1) w (Iv (A8 (Dd x (Ar x w (B1 x w)) (D8 (Bg x (Ar x w (B1 x w))) (B2 x w)).1) w) (B2 x w).af.ab 1)).aq.length:=by show w.toNat<(x.aq.set _ _).length;rw [K0];exact hk
   have hg9:(Be (Dd x (Ar x w (B1 x w)) (D8 (Bg x (Ar x w (B1 x w))) (B2 x w)).1) w (Iv (A8 (Dd x (Ar x w (B1 x w)) (D8 (Bg x (Ar x w (B1 x w))) (B2 x w)).1) w) (B2 x w).af.ab 1)).aq.getD w.toNat default=Iv (A8 (Dd x (Ar x w (B1 x w)) (D8 (Bg x (Ar x w (B1 x w))) (B2 x w)).1) w) (B2 x w).af.ab 1:=A5u hk;have hl9:((Be (Dd x (Ar x w (B1 x w)) (D8 (Bg x (Ar x w (B1 x w))) (B2 x w)).1) w (Iv (A8 (Dd x (Ar x w (B1 x w)) (D8 (Bg x (Ar x w (B1 x w))) (B2 x w)).1) w) (B2 x w).af.ab 1)).aq.getD w.toNat default).aa.length=(x.aq.getD w.toNat default).aa.length:=by rw [hg9];rfl
   have hl8:0<((Be (Dd x (Ar x w (B1 x w)) (D8 (Bg x (Ar x w (B1 x w))) (B2 x w)).1) w (Iv (A8 (Dd x (Ar x w (B1 x w)) (D8 (Bg x (Ar x w (B1 x w))) (B2 x w)).1) w) (B2 x w).af.ab 1)).aq.getD w.toNat default).aa.length:=by omega
   refine Zk 0 3 17 rfl rfl (fun v8=>?_);refine A71 0 3 rfl rfl (fun ho_v8=>?_);refine J3 rfl (E5 0 rfl (E5 1 rfl (E5 2 rfl (E5 3 rfl (E5 5 rfl (E5 7 rfl (E5 8 rfl (E5 9 rfl (E5 10 rfl (E5 12 rfl ?_))))))))));refine Lt (s':=?_) 11 rfl Am ?_ ?_;rotate_left;refine Ah ?_;refine Hk 118 17 rfl (Em ?_);exact C2
   refine On 13 ?_;refine E5 14 rfl ?_;refine Wa (α:=Value) (s':=?_) 15 rfl Am ?_ ?_;rotate_left;refine Ah ?_;refine M9 A0 rfl (jn:=w.toNat) rfl rfl (fun v9=>go A0 false ?_);conv=>whnf
   exact A3y v9
   intro v9;refine Lt (s':=?_) 16 rfl Am ?_ ?_;rotate_left;refine Ah ?_;refine B4t A0 rfl (⟨by omega,by omega,by omega⟩) (A9 (((Be (Dd x (Ar x w (B1 x w)) (D8 (Bg x (Ar x w (B1 x w))) (B2 x w)).1) w (Iv (A8 (Dd x (Ar x w (B1 x w)) (D8 (Bg x (Ar x w (B1 x w))) (B2 x w)).1) w) (B2 x w).af.ab 1)).aq.getD w.toNat default).aa.drop 1)) (Ip (k:=1) hl8) (Ah ?_);exact C2
   refine Nu [17,18,19,20] [⟨4,111,.rd v8⟩,⟨6,113,.emp 5⟩] Am ?_;refine Lg (s':=?_) rfl Dt ?_ ?_;rotate_left;refine Ah ?_;refine B6 A0 rfl (A9 (((Be (Dd x (Ar x w (B1 x w)) (D8 (Bg x (Ar x w (B1 x w))) (B2 x w)).1) w (Iv (A8 (Dd x (Ar x w (B1 x w)) (D8 (Bg x (Ar x w (B1 x w))) (B2 x w)).1) w) (B2 x w).af.ab 1)).aq.getD w.toNat default).aa.drop 1)) (Bs) (fun _=>J4 _) (by (rw [Ge];omega)) (Ah ?_);exact C2
   refine Lg (s':=?_) rfl Dt ?_ ?_;rotate_left;refine Ah ?_;refine Hk 111 17 rfl (Em ?_);exact C2
   refine My rfl Dt ?_;refine Lg (s':=?_) rfl Dt ?_ ?_;rotate_left;refine Ah ?_;refine Bi (j:=w) A0 rfl (Af (Be (Be (Dd x (Ar x w (B1 x w)) (D8 (Bg x (Ar x w (B1 x w))) (B2 x w)).1) w (Iv (A8 (Dd x (Ar x w (B1 x w)) (D8 (Bg x (Ar x w (B1 x w))) (B2 x w)).1) w) (B2 x w).af.ab 1)) w (Ew (Iv (A8 (Dd x (Ar x w (B1 x w)) (D8 (Bg x (Ar x w (B1 x w))) (B2 x w)).1) w) (B2 x w).af.ab 1))).aq) (Ht hk9 (by rw [hg9];rfl)) (Ah ?_);exact C2
   refine Lr A0 Am Dt (GW.out (It ?_));conv=>whnf
   refine C4m Tryz.prog (fun _ g=>Zh 0 3 17 rfl rfl rfl g) ?_;rw [Q3]
   have hz:rc (Ck x w).1=rcb (Be (Dd x (Ar x w (B1 x w)) (D8 (Bg x (Ar x w (B1 x w))) (B2 x w)).1) w (Ew (Iv (A8 (Dd x (Ar x w (B1 x w)) (D8 (Bg x (Ar x w (B1 x w))) (B2 x w)).1) w) (B2 x w).af.ab 1))) (Au x&&E4 ((A8 (Dd x (Ar x w (B1 x w)) (D8 (Bg x (Ar x w (B1 x w))) (B2 x w)).1) w).al.getD (B2 x w).af.ab.toNat default+1) (-1000000) 1000000):=by
    show rcb (Ck x w).1 (Au (Ck x w).1)=_
    rw [hfl,hyes,hcs,Bool.true_and,B75,A11 (w:=Ew (A8 x w)) ⟨hE.1,by show (B2 x w).af.ab<(A8 x w).al.length;omega⟩]
    rfl
   rw [hz,hyes];exact Jf () trivial
 have h3:B1 x w=w:=h3;refine Zk 0 3 7 rfl rfl (fun v2=>?_);refine A71 0 3 rfl rfl (fun ho_v2=>?_);refine J3 rfl (E5 0 rfl (E5 1 rfl (E5 2 rfl (E5 3 rfl (E5 5 rfl (E5 6 rfl (E5 7 rfl (E5 8 rfl (E5 9 rfl (E5 11 rfl ?_))))))))));refine Lt (s':=?_) 10 rfl Am ?_ ?_;rotate_left;refine Ah ?_;refine Hk 97 7 rfl (Em ?_);exact C2
 refine On 12 ?_;refine E5 13 rfl ?_;refine Wa (α:=Value) (s':=?_) 14 rfl Am ?_ ?_;rotate_left;refine Ah ?_;refine M9 A0 rfl (jn:=w.toNat) rfl rfl (fun v3=>go A0 false ?_);conv=>whnf
 exact A3y v3
 intro v3;refine On 15 ?_;refine Nu [16,17,18,19,20] [⟨4,91,.rd v2⟩] Am ?_;refine My rfl Dt ?_;refine Lg (s':=?_) rfl Dt ?_ ?_;rotate_left;refine Ah ?_;refine B6 A0 rfl (A9 ((x.aq.getD w.toNat default).ar++[B2 x w])) (Ao rfl) Hd A7 (Ah ?_);exact C2
 refine Lg (s':=?_) rfl Dt ?_ ?_;rotate_left;refine Ah ?_;refine Hk 91 7 rfl (Em ?_);exact C2
 refine My rfl Dt ?_;refine Lg (s':=?_) rfl Dt ?_ ?_;rotate_left;refine Ah ?_;refine Bi (j:=w) A0 rfl (Af (Be x w (kept (A8 x w) (B2 x w))).aq) (Ht hk rfl) (Ah ?_);exact C2
 refine Lr A0 Am Dt (GW.out (It ?_));conv=>whnf
 refine Zh 0 3 7 rfl rfl rfl ?_;have hk9:w.toNat<(Be x w (kept (A8 x w) (B2 x w))).aq.length:=by show w.toNat<(x.aq.set _ _).length;rw [K0];exact hk
 have hg9:(Be x w (kept (A8 x w) (B2 x w))).aq.getD w.toNat default=kept (A8 x w) (B2 x w):=A5u hk;have hl9:((Be x w (kept (A8 x w) (B2 x w))).aq.getD w.toNat default).aa.length=(x.aq.getD w.toNat default).aa.length:=by rw [hg9];rfl
 have hl8:0<((Be x w (kept (A8 x w) (B2 x w))).aq.getD w.toNat default).aa.length:=by omega
 refine Zk 0 3 7 rfl rfl (fun v8=>?_);refine A71 0 3 rfl rfl (fun ho_v8=>?_);refine J3 rfl (E5 0 rfl (E5 1 rfl (E5 2 rfl (E5 3 rfl (E5 5 rfl (E5 7 rfl (E5 8 rfl (E5 9 rfl (E5 10 rfl (E5 12 rfl ?_))))))))));refine Lt (s':=?_) 11 rfl Am ?_ ?_;rotate_left;refine Ah ?_;refine Hk 118 7 rfl (Em ?_);exact C2
 refine On 13 ?_;refine E5 14 rfl ?_;refine Wa (α:=Value) (s':=?_) 15 rfl Am ?_ ?_;rotate_left;refine Ah ?_;refine M9 A0 rfl (jn:=w.toNat) rfl rfl (fun v9=>go A0 false ?_);conv=>whnf
 exact A3y v9
 intro v9;refine Lt (s':=?_) 16 rfl Am ?_ ?_;rotate_left;refine Ah ?_;refine B4t A0 rfl (⟨by omega,by omega,by omega⟩) (A9 (((Be x w (kept (A8 x w) (B2 x w))).aq.getD w.toNat default).aa.drop 1)) (Ip (k:=1) hl8) (Ah ?_);exact C2
 refine Nu [17,18,19,20] [⟨4,111,.rd v8⟩,⟨6,113,.emp 5⟩] Am ?_;refine Lg (s':=?_) rfl Dt ?_ ?_;rotate_left;refine Ah ?_;refine B6 A0 rfl (A9 (((Be x w (kept (A8 x w) (B2 x w))).aq.getD w.toNat default).aa.drop 1)) (Bs) (fun _=>J4 _) (by (rw [Ge];omega)) (Ah ?_);exact C2
 refine Lg (s':=?_) rfl Dt ?_ ?_;rotate_left;refine Ah ?_;refine Hk 111 7 rfl (Em ?_);exact C2
 refine My rfl Dt ?_;refine Lg (s':=?_) rfl Dt ?_ ?_;rotate_left;refine Ah ?_;refine Bi (j:=w) A0 rfl (Af (Be (Be x w (kept (A8 x w) (B2 x w))) w (Ew (kept (A8 x w) (B2 x w)))).aq) (Ht hk9 (by rw [hg9];rfl)) (Ah ?_);exact C2
 refine Lr A0 Am Dt (GW.out (It ?_));conv=>whnf
 refine C4m Tryz.prog (fun _ g=>Zh 0 3 7 rfl rfl rfl g) ?_;rw [Q3];have hyes:=A1u hM h3
 have hz:rc (Ck x w).1=rcb (Be x w (Ew (kept (A8 x w) (B2 x w)))) (Au x):=by
  show rcb (Ck x w).1 (Au (Ck x w).1)=_
  rw [C34 hC h3,hyes,hcs];rfl
 rw [hz,hyes];exact Jf () trivial
theorem A6y (l:List De)(n:Nat):F3 n fun i=>De.c (l.getD i default):=by
 intro i hi c hc;simp only [De.c,Ch,Ph,T9] at hc
 rcases hc with rfl|rfl|rfl<;>exact ⟨_,rfl⟩
theorem A88 (l:List De):(Ix De.c l).length=l.length * 3:=B4v (es:=3) (fun _=>rfl) l
theorem A6s (l:List De)(k:Nat):l.eraseIdx k=l.take k++l.drop (k+1):=List.eraseIdx_eq_take_drop_succ l k
set_option maxHeartbeats 4000000 in
theorem B9m (l:List De)(k:Nat)(hk:k<l.length)(hl:l.length≤16777216):Nw Tryz.prog (fun _=>True) 237 [] [.one (Bf l)] [.one (vi k),.one (vi ((k:Int)+1))] (fun _:Unit=>True) (fun _=>[.one (Bf (l.eraseIdx k))]):=by
 refine Z5 A0 false Tryz.func237 rfl Bq fun B hH hp=>?_;conv=>whnf
 refine C4o A0 rfl rfl rfl rfl rfl rfl rfl (l:=(k:Int)) (h:=(k:Int)+1) (m:=(l.length:Int)) rfl rfl rfl ⟨by omega,by omega,by omega,by omega⟩ (Ah ?_);refine Lf (fun hz=>?_) fun hz=>?_
 ·omega
 refine A5t 0 3 De.c l rfl A7 (A6y _ _) (fun b off cap pre Cg p1 p2 p3 p4=>?_);refine Qh 0 0 rfl rfl ?_
 have hlast:l.drop k=(l.drop k).take (l.length-(k+1))++l.drop (l.length-1):=by
  have e:=Pk (l.length-(k+1)) (l.drop k);rw [List.drop_drop,show k+(l.length-(k+1))=l.length-1 by omega] at e
  exact e.symm
 have hcut:l=l.take k++l.drop k:=(Pk k l).symm;have hcut2:l=l.take (k+1)++l.drop (k+1):=(Pk (k+1) l).symm;have t1:(l.take k).length=k:=by rw [F9];omega
 have t2:((l.drop k).take (l.length-(k+1))).length=l.length-(k+1):=by rw [F9,Ge];omega
 have t3:(l.drop (k+1)).length=l.length-(k+1):=Ge;have t4:(l.take (k+1)).length=k+1:=by rw [F9];omega
 have t5:(l.drop (l.length-1)).length=1:=by rw [Ge];omega
 have te:(l.take k++l.drop (k+1)).length=l.length-1:=by rw [D3,t1,t3];omega
 have c1:pre++Ix De.c l++Cg=(pre++Ix De.c (l.take k))++Ix De.c ((l.drop k).take (l.length-(k+1)))++(Ix De.c (l.drop (l.length-1))++Cg):=by
  conv=>lhs;rw [hcut,hlast,Js,Js]
  simp only [Cr]
 have c2:pre++Ix De.c l++Cg=(pre++Ix De.c (l.take (k+1)))++Ix De.c (l.drop (k+1))++Cg:=by
  conv=>lhs;rw [hcut2,Js]
  simp only [Cr]
 refine Go.Sx.Gu A0 false ?_;conv=>whnf
 rcases Nat.lt_or_ge (k+1) cap with hlc|hlc
 ·refine J3 rfl (E5 0 rfl (E5 1 rfl (E5 3 rfl (E5 4 rfl ?_))))
  refine Lt (s':=?_) 2 rfl Am ?_ ?_;rotate_left;refine Go.Sx.Gu A0 false ?_;conv=>whnf
  refine Lk A0 rfl ⟨by omega,by omega,by omega,(fun h=>by cases h),by omega⟩ (off * 3) k cap Ey Ey Ey (Go.Sx.Gu A0 false ?_);conv=>whnf
  exact C2
  refine Lt (s':=?_) 5 rfl Am ?_ ?_;rotate_left;refine Go.Sx.Gu A0 false ?_;conv=>whnf
  refine Lk A0 rfl ⟨by omega,by omega,by omega,fun _=>by omega,by omega⟩ (off * 3+(k+1) * 3) (l.length-(k+1)) (cap-(k+1)) Ey A7 A7 (Go.Sx.Gu A0 false ?_);conv=>whnf
  exact C2
  refine Nu [6,7] [] Am ?_;refine Lg (s':=?_) rfl Dt ?_ ?_;rotate_left;refine Go.Sx.Gu A0 false ?_;conv=>whnf
  refine D1i (kb:=1) (kb2:=1) A0 rfl rfl rfl rfl rfl rfl rfl rfl rfl rfl rfl rfl rfl A7 (pre++Ix De.c (l.take k)) (Ix De.c ((l.drop k).take (l.length-(k+1)))) (Ix De.c (l.drop (l.length-1))++Cg) (pre++Ix De.c (l.take (k+1))) (Ix De.c (l.drop (k+1))) Cg (by exact c1) (by rw [D3,A88,t1,p1]) (by rw [A88,A88,t2,t3]) (by exact c2) (by rw [D3,A88,t4,p1]) (by rw [A88,t3]) (by exact C8t De.c _) (Go.Sx.Gu A0 false ?_);conv=>whnf
  exact C2
  refine Lg (s':=?_) rfl Dt ?_ ?_;rotate_left;refine Go.Sx.Gu A0 false ?_;conv=>whnf
  refine B4 ?_;exact C2
  refine Lr A0 Am Dt (GW.out (Go.Sx.Gu A0 false ?_));conv=>whnf
  refine Lk A0 rfl ⟨by omega,by omega,by omega,(fun h=>by cases h),by omega⟩ (off * 3+(l.length-1) * 3) 1 (cap-(l.length-1)) (by rw [show k+(l.length-(k+1))=l.length-1 by omega];simp) A7 A7 (Go.Sx.Gu A0 false ?_)
  conv=>whnf
  refine B80 (kb:=1) A0 rfl rfl rfl rfl rfl rfl rfl rfl A7 (pre++Ix De.c (l.take k)++Ix De.c (l.drop (k+1))) (Ix De.c (l.drop (l.length-1))) Cg (by simp only [Cr]) (by rw [D3,D3,A88,A88,p1,t1,t3];omega) (by rw [A88,t5]) (Go.Sx.Gu A0 false ?_);conv=>whnf
  refine B62 Tryz.prog 6 1 off 3 De.c (l.take k++l.drop (k+1)) pre (List.replicate (1 * 3) .any++Cg) rfl (by rw [Js];simp only [Cr]) (by exact p1) (fun _=>rfl) (A6y _ _) (by exact p3) (by exact ⟨by rw [te];omega,by rw [te,D3,Pl];omega⟩) rfl rfl rfl (by rw [te];omega) ?_;rw [←A6s];exact V9 A0 () trivial rfl rfl J0
 have e1:l.length=cap:=by omega
 have e2:k+1=l.length:=by omega
 have d1:l.drop (k+1)=[]:=List.drop_eq_nil_of_le A7;have d2:(l.drop k).length=1:=by rw [Ge];omega
 have c3:pre++Ix De.c l++Cg=(pre++Ix De.c (l.take k))++[]++(Ix De.c (l.drop k)++Cg):=by
  conv=>lhs;rw [hcut,Js]
  simp only [Cr,Uu,I4]
 refine J3 rfl (E5 0 rfl (E5 1 rfl (E5 3 rfl (E5 4 rfl ?_))));refine Lt (s':=?_) 2 rfl Am ?_ ?_;rotate_left;refine Go.Sx.Gu A0 false ?_;conv=>whnf
 refine Lk A0 rfl ⟨by omega,by omega,by omega,(fun h=>by cases h),by omega⟩ (off * 3) k cap Ey Ey Ey (Go.Sx.Gu A0 false ?_);conv=>whnf
 exact C2
 refine Lt (s':=?_) 5 rfl Am ?_ ?_;rotate_left;refine Go.Sx.Gu A0 false ?_;conv=>whnf
 refine D2m A0 rfl rfl rfl rfl rfl rfl (l:=(k:Int)+1) rfl ⟨by omega,by omega,by omega⟩ (Go.Sx.Gu A0 false ?_);conv=>whnf
 exact C2
 refine Nu [6,7] [] Am ?_;refine Lg (s':=?_) rfl Dt ?_ ?_;rotate_left;refine Go.Sx.Gu A0 false ?_;conv=>whnf
 refine D1i (kb:=1) (kb2:=1) A0 rfl rfl rfl rfl rfl rfl rfl rfl rfl rfl rfl rfl rfl A7 (pre++Ix De.c (l.take k)) [] (Ix De.c (l.drop k)++Cg) pre [] (Ix De.c l++Cg) (by exact c3) (by rw [D3,A88,t1,p1]) rfl (by simp only [I4,Cr]) (by exact p1) Ey (fun _ h=>by cases h) (Go.Sx.Gu A0 false ?_);conv=>whnf
 exact C2
 refine Lg (s':=?_) rfl Dt ?_ ?_;rotate_left;refine Go.Sx.Gu A0 false ?_;conv=>whnf
 refine B4 ?_;exact C2
 refine Lr A0 Am Dt (GW.out (Go.Sx.Gu A0 false ?_));conv=>whnf
 refine Lk A0 rfl ⟨by omega,by omega,by omega,(fun h=>by cases h),by omega⟩ (off * 3+k * 3) 1 (cap-k) Ey A7 A7 (Go.Sx.Gu A0 false ?_);conv=>whnf
 refine B80 (kb:=1) A0 rfl rfl rfl rfl rfl rfl rfl rfl A7 (pre++Ix De.c (l.take k)) (Ix De.c (l.drop k)) Cg (by simp only [Cr,Uu,I4]) (by rw [D3,A88,p1,t1]) (by rw [A88,d2]) (Go.Sx.Gu A0 false ?_);conv=>whnf
 refine B62 Tryz.prog 6 1 off 3 De.c (l.take k) pre (List.replicate (1 * 3) .any++Cg) rfl (by simp only [Cr]) (by exact p1) (fun _=>rfl) (A6y _ _) (by exact p3) (by exact ⟨by rw [t1];omega,by rw [t1,D3,Pl];omega⟩) rfl rfl rfl (by rw [t1];rfl) ?_;rw [show l.eraseIdx k=l.take k by rw [A6s,d1,I4]]
 exact V9 A0 () trivial rfl rfl J0
end Go.Proofs.YtmhcebdkjgkmlaaGreatDoor
