/- Part 41 of the proof that each of the laws FnScriptsBack returns true for every input. No conditions. -/
import Derived.Test.YtmhcebdkjgkmlaaGreatDoorR37

set_option linter.unusedSimpArgs false
set_option linter.unusedVariables false
set_option maxRecDepth 100000
namespace Go.Proofs.YtmhcebdkjgkmlaaGreatDoor
open Go.Sx
theorem C56 {c:A3}{w:Int}(h:B1 c)(h2:(D4 c w).2=true)(h3:Az c w≠w):Av (D4 c w).1=decide (Kb (B2f c w)):=by
 rw [Vu h,Ah ⟨h2,h3⟩]
theorem C2i {c:A3}{w:Int}(h:B1 c)(h3:Az c w=w):Av (D4 c w).1=true:=by
 rw [Vu h,Ab (fun p=>p.2 h3)]
set_option maxHeartbeats 8000000 in
theorem C65 (x:A3)(w:Int)(h:x.w≤8000000)(og:Js .i64 x.az.aq):MtR (fun _=>True) 186 [] (rc x) [.one (vi w)] (fun _:Unit=>True) (fun _=>rc (D4 x w).1) (fun _=>[.one (vb (D4 x w).2)]):=by
 have h:x.w≤16000000:=by omega
 refine zeP Tryz.func186 fun B b hH hp=>?_;refine Ix (B8l x w h) hH hp fun r hr=>?_;refine C2 (fun h1=>?_) fun h1=>?_
 ·have h1:¬ I3 x w:=Cy (by simpa using h1)
  refine Ar ?_;rw [Rn (fun p=>h1 p.1)];exact Iy () trivial
 have h1:I3 x w:=Bp (show decide (I3 x w)=true by simpa using h1)
 have hC:=h1.1;have hb:=h1.2;have hk:w.toNat<x.aq.length:=by omega
 have hw:=A3.worker_le h hk;have hWP:=hC.2.1 _ (Am (d:=default) hk);have hlw:=Og (x.aq.getD w.toNat default);refine Ar ?_;refine Ma A0 rfl (jn:=w.toNat) rfl rfl (fun v=>go A0 false ?_);conv=>whnf
 refine Ar ?_;refine Mf (fun h2=>?_) fun h2=>?_
 ·refine Ar ?_
  rw [Rn (fun p=>by have:=p.2;simp only [A8] at this;omega)];refine Ge Tryz.prog 7 (w.toNat) [(1,11)] (Ai x.aq) hk rfl S0 rfl (Cv rfl) ?_;exact Iy () trivial
 have h2':0<(x.aq.getD w.toNat default).bq.length:=by omega
 have h2:0<(A8 x w).bq.length:=h2';have hM:I3 x w∧0<(A8 x w).bq.length:=⟨h1,h2⟩;have hR:H8 (B2 x w)∧(B2 x w).op<x.az.ay.length:=hWP.1.2.1 _ (Am (d:=default) h2);have hgw:=hC.1.1.2.1;have how:=B49 (k:=(B2 x w).key) (n:=x.az.aq) hR.1.2.2.2.1.1 hgw.1;have hwl:=hC.1.2.1;have hcs:Av x=true:=D7 hC;refine Ar ?_;refine N3 A0 rfl (Cw _ _ _) rfl (Ag ?_);refine He 35 11 rfl (F1 ?_);refine Rp 7 (w.toNat) [(1,11)] (Ai x.aq) hk rfl rfl S0 rfl (Cv rfl) (I7 ?_);conv=>whnf
 have hlk9:=hlw.1
 first|(refine Ae 4 rfl [0,1,2,3,4,5,6,7,8,9] Ak (Ag ?_))|(refine Ae 7 rfl [0,1,2,3,4,5,6,7,8,9,10,11,12,13,14,15] Ak (Ag ?_))|(refine Ae 10 rfl [0,1,2,3,4,5,6,7,8] Ak (Ag ?_))|(refine Ae 12 rfl [0,1,2,3,4,5,6,7,8,9,10,11,12,13,14,15,16,17,18,19,20] Ak (Ag ?_))|(refine Ae 13 rfl [0,1,2,3,4,5,7,8,9,10,11,12,13,14,15,16,6,17,18,19,20] Ak (Ag ?_))
 refine Fh (A3m (B2 x w).key x.az.aq A7) ?_;refine Xi (fun h3=>?_) fun h3=>?_
 ·have h3:Az x w≠w:=h3
  have hmt:0≤Az x w∧Az x w<x.az.aq:=how;have hln:=Q0 hC (f:=w) (t:=Az x w) A7 hmt;have hlk:(Ap x w (Az x w)).toNat<x.ak.length:=by omega
  have hll:=A3.link_le h hlk;have hlp:J4 x.az.aq w (Ej (B2 x w).key x.az.aq)=Ap x w (Az x w):=S6 hgw A7 hmt;have hs4:(A8 x w).ai.length=4:=hWP.2.1.1;have hE:=hR.1.2.1;have hsum:Kb ((A8 x w).ai.getD (B2 x w).af.am.toNat default):=hWP.2.2.2.1 _ (Am (by show (B2 x w).af.am.toNat<(A8 x w).ai.length;omega))
  refine Fh (Sc x.az w (Ej (B2 x w).key x.az.aq) og) ?_;rw [hlp];refine Jd rfl (E4 0 rfl (E4 1 rfl (E4 2 rfl (E4 3 rfl (E4 5 rfl ?_)))));refine Pb 4 ?_;refine Pb 6 ?_;refine Vw (α:=Nat→Value) (s':=?_) 7 rfl Ak ?_ ?_;rotate_left;refine Ag ?_;refine A3a A0 rfl hlk rfl (fun u=>go A0 false ?_);conv=>whnf
  exact A2t u
  intro u;refine Pb 8 ?_;refine zt2 9 13 ?_ ?_
  focus
   refine Nm (A7p (Bd x (Ap x w (Az x w))) (B2 x w) (by show (x.ak.getD _ default).w≤_;omega)) rfl (Ag ?_)
   refine Ei (E4 10 rfl ?_);refine zoF 11 ?_;refine zoF 12 ?_;refine splitB [13] Ak ⟨?_,trivial⟩;refine F1 ?_;refine Ei ?_
  rotate_left 1
  focus
   refine B6 ?_;refine Ei ?_;refine splitB [9] Ak ⟨?_,trivial⟩;refine Ag ?_;refine Nm (A7p (Bd x (Ap x w (Az x w))) (B2 x w) (by show (x.ak.getD _ default).w≤_;omega)) rfl (Ag ?_)
   refine Ei (E4 10 rfl ?_);refine zoF 11 ?_;refine zoF 12 ?_
  all_goals
   refine splitB [14] Ak ⟨?_,trivial⟩;refine F1 ?_;refine Ei (E4 15 rfl ?_);refine A2r Ak (Ag ?_)
  all_goals
   refine C2 (fun h4=>?_) fun h4=>?_
   ·have h4:(Da (Bd x (Ap x w (Az x w))) (B2 x w)).2=false:=by simpa using h4
    refine Ar ?_;rw [Y0 hM h3 h4];refine Ge Tryz.prog 8 ((Ap x w (Az x w)).toNat) [(1,13)] (Bo x.ak) hlk rfl S0 rfl (Cv rfl) ?_;exact Iy () trivial
   have h4:(Da (Bd x (Ap x w (Az x w))) (B2 x w)).2=true:=by simpa using h4
   have hyes:=Y1 hM h3 h4;have hfl:=C56 hC (show (D4 x w).2=true by rw [hyes]) h3
   refine Ar ?_
   first|(refine Ae 4 rfl [0,1,2,3,4,5,6,7,8,9] Ak (Ag ?_))|(refine Ae 7 rfl [0,1,2,3,4,5,6,7,8,9,10,11,12,13,14,15] Ak (Ag ?_))|(refine Ae 10 rfl [0,1,2,3,4,5,6,7,8] Ak (Ag ?_))|(refine Ae 12 rfl [0,1,2,3,4,5,6,7,8,9,10,11,12,13,14,15,16,17,18,19,20] Ak (Ag ?_))|(refine Ae 13 rfl [0,1,2,3,4,5,7,8,9,10,11,12,13,14,15,16,6,17,18,19,20] Ak (Ag ?_))
   refine B6 ?_;refine Bi (j:=(Ap x w (Az x w))) A0 rfl (Bo (Ds x (Ap x w (Az x w)) (Da (Bd x (Ap x w (Az x w))) (B2 x w)).1).ak) (Ht hlk rfl) ?_;refine Ag ?_;refine Ix (C0e (Ds x (Ap x w (Az x w)) (Da (Bd x (Ap x w (Az x w))) (B2 x w)).1) (Av x) w (B2 x w).af.am 1 hb.1 hk hE.1 (by show (B2 x w).af.am.toNat<(A8 x w).ai.length;omega) hsum Bk) hH hp fun r2 hr2=>?_
   have hk9:w.toNat<(Bf (Ds x (Ap x w (Az x w)) (Da (Bd x (Ap x w (Az x w))) (B2 x w)).1) w (J0 (A8 (Ds x (Ap x w (Az x w)) (Da (Bd x (Ap x w (Az x w))) (B2 x w)).1) w) (B2 x w).af.am 1)).aq.length:=by show w.toNat<(x.aq.set _ _).length;rw [K1];exact hk
   have hg9:(Bf (Ds x (Ap x w (Az x w)) (Da (Bd x (Ap x w (Az x w))) (B2 x w)).1) w (J0 (A8 (Ds x (Ap x w (Az x w)) (Da (Bd x (Ap x w (Az x w))) (B2 x w)).1) w) (B2 x w).af.am 1)).aq.getD w.toNat default=J0 (A8 (Ds x (Ap x w (Az x w)) (Da (Bd x (Ap x w (Az x w))) (B2 x w)).1) w) (B2 x w).af.am 1:=A4a hk;have hl9:((Bf (Ds x (Ap x w (Az x w)) (Da (Bd x (Ap x w (Az x w))) (B2 x w)).1) w (J0 (A8 (Ds x (Ap x w (Az x w)) (Da (Bd x (Ap x w (Az x w))) (B2 x w)).1) w) (B2 x w).af.am 1)).aq.getD w.toNat default).bq.length=(x.aq.getD w.toNat default).bq.length:=by rw [hg9];rfl
   have hl8:0<((Bf (Ds x (Ap x w (Az x w)) (Da (Bd x (Ap x w (Az x w))) (B2 x w)).1) w (J0 (A8 (Ds x (Ap x w (Az x w)) (Da (Bd x (Ap x w (Az x w))) (B2 x w)).1) w) (B2 x w).af.am 1)).aq.getD w.toNat default).bq.length:=by omega
   refine Yt 0 3 17 rfl rfl (fun v8=>?_);refine A6h 0 3 rfl rfl (fun ho_v8=>?_);refine Jd rfl (E4 0 rfl (E4 1 rfl (E4 2 rfl (E4 3 rfl (E4 5 rfl (E4 7 rfl (E4 8 rfl (E4 9 rfl (E4 10 rfl (E4 12 rfl ?_))))))))));refine Lw (s':=?_) 11 rfl Ak ?_ ?_;rotate_left;refine Ag ?_;refine He 118 17 rfl (F1 ?_);exact C8
   refine Pb 13 ?_;refine E4 14 rfl ?_;refine Vw (α:=Value) (s':=?_) 15 rfl Ak ?_ ?_;rotate_left;refine Ag ?_;refine Ma A0 rfl (jn:=w.toNat) rfl rfl (fun v9=>go A0 false ?_);conv=>whnf
   exact A2t v9
   intro v9;refine Lw (s':=?_) 16 rfl Ak ?_ ?_;rotate_left;refine Ag ?_;refine B24 A0 rfl (⟨by omega,by omega,by omega⟩) (Aa (((Bf (Ds x (Ap x w (Az x w)) (Da (Bd x (Ap x w (Az x w))) (B2 x w)).1) w (J0 (A8 (Ds x (Ap x w (Az x w)) (Da (Bd x (Ap x w (Az x w))) (B2 x w)).1) w) (B2 x w).af.am 1)).aq.getD w.toNat default).bq.drop 1)) (Im (k:=1) hl8) (Ag ?_);exact C8
   refine Np [17,18,19,20] [⟨4,111,.rd v8⟩,⟨6,113,.emp 5⟩] Ak ?_;refine La (s':=?_) rfl Dt ?_ ?_;rotate_left;refine Ag ?_;refine Bg A0 rfl (Aa (((Bf (Ds x (Ap x w (Az x w)) (Da (Bd x (Ap x w (Az x w))) (B2 x w)).1) w (J0 (A8 (Ds x (Ap x w (Az x w)) (Da (Bd x (Ap x w (Az x w))) (B2 x w)).1) w) (B2 x w).af.am 1)).aq.getD w.toNat default).bq.drop 1)) (Bw) (fun _=>J1 _) (by (rw [Gm];omega)) (Ag ?_);exact C8
   refine La (s':=?_) rfl Dt ?_ ?_;rotate_left;refine Ag ?_;refine He 111 17 rfl (F1 ?_);exact C8
   refine Mt rfl Dt ?_;refine La (s':=?_) rfl Dt ?_ ?_;rotate_left;refine Ag ?_;refine Bi (j:=w) A0 rfl (Ai (Bf (Bf (Ds x (Ap x w (Az x w)) (Da (Bd x (Ap x w (Az x w))) (B2 x w)).1) w (J0 (A8 (Ds x (Ap x w (Az x w)) (Da (Bd x (Ap x w (Az x w))) (B2 x w)).1) w) (B2 x w).af.am 1)) w (El (J0 (A8 (Ds x (Ap x w (Az x w)) (Da (Bd x (Ap x w (Az x w))) (B2 x w)).1) w) (B2 x w).af.am 1))).aq) (Ht hk9 (by rw [hg9];rfl)) (Ag ?_);exact C8
   refine Lt A0 Ak Dt (GW.out (I7 ?_));conv=>whnf
   refine C21 Tryz.prog (fun _ g=>Yr 0 3 17 rfl rfl rfl g) ?_;rw [Q2]
   have hz:rc (D4 x w).1=rcb (Bf (Ds x (Ap x w (Az x w)) (Da (Bd x (Ap x w (Az x w))) (B2 x w)).1) w (El (J0 (A8 (Ds x (Ap x w (Az x w)) (Da (Bd x (Ap x w (Az x w))) (B2 x w)).1) w) (B2 x w).af.am 1))) (Av x&&F0 ((A8 (Ds x (Ap x w (Az x w)) (Da (Bd x (Ap x w (Az x w))) (B2 x w)).1) w).ai.getD (B2 x w).af.am.toNat default+1) (-1000000) 1000000):=by
    show rcb (D4 x w).1 (Av (D4 x w).1)=_
    rw [hfl,hyes,hcs,Ux,B6c,A0u (w:=El (A8 x w)) ⟨hE.1,by show (B2 x w).af.am<(A8 x w).ai.length;omega⟩]
    rfl
   rw [hz,hyes];exact Iy () trivial
 have h3:Az x w=w:=h3;refine Yt 0 3 7 rfl rfl (fun v2=>?_);refine A6h 0 3 rfl rfl (fun ho_v2=>?_);refine Jd rfl (E4 0 rfl (E4 1 rfl (E4 2 rfl (E4 3 rfl (E4 5 rfl (E4 6 rfl (E4 7 rfl (E4 8 rfl (E4 9 rfl (E4 11 rfl ?_))))))))));refine Lw (s':=?_) 10 rfl Ak ?_ ?_;rotate_left;refine Ag ?_;refine He 97 7 rfl (F1 ?_);exact C8
 refine Pb 12 ?_;refine E4 13 rfl ?_;refine Vw (α:=Value) (s':=?_) 14 rfl Ak ?_ ?_;rotate_left;refine Ag ?_;refine Ma A0 rfl (jn:=w.toNat) rfl rfl (fun v3=>go A0 false ?_);conv=>whnf
 exact A2t v3
 intro v3;refine Pb 15 ?_;refine Np [16,17,18,19,20] [⟨4,91,.rd v2⟩] Ak ?_;refine Mt rfl Dt ?_;refine La (s':=?_) rfl Dt ?_ ?_;rotate_left;refine Ag ?_;refine Bg A0 rfl (Aa ((x.aq.getD w.toNat default).al++[B2 x w])) (An rfl) Ij A7 (Ag ?_);exact C8
 refine La (s':=?_) rfl Dt ?_ ?_;rotate_left;refine Ag ?_;refine He 91 7 rfl (F1 ?_);exact C8
 refine Mt rfl Dt ?_;refine La (s':=?_) rfl Dt ?_ ?_;rotate_left;refine Ag ?_;refine Bi (j:=w) A0 rfl (Ai (Bf x w (kept (A8 x w) (B2 x w))).aq) (Ht hk rfl) (Ag ?_);exact C8
 refine Lt A0 Ak Dt (GW.out (I7 ?_));conv=>whnf
 refine Yr 0 3 7 rfl rfl rfl ?_;have hk9:w.toNat<(Bf x w (kept (A8 x w) (B2 x w))).aq.length:=by show w.toNat<(x.aq.set _ _).length;rw [K1];exact hk
 have hg9:(Bf x w (kept (A8 x w) (B2 x w))).aq.getD w.toNat default=kept (A8 x w) (B2 x w):=A4a hk;have hl9:((Bf x w (kept (A8 x w) (B2 x w))).aq.getD w.toNat default).bq.length=(x.aq.getD w.toNat default).bq.length:=by rw [hg9];rfl
 have hl8:0<((Bf x w (kept (A8 x w) (B2 x w))).aq.getD w.toNat default).bq.length:=by omega
 refine Yt 0 3 7 rfl rfl (fun v8=>?_);refine A6h 0 3 rfl rfl (fun ho_v8=>?_);refine Jd rfl (E4 0 rfl (E4 1 rfl (E4 2 rfl (E4 3 rfl (E4 5 rfl (E4 7 rfl (E4 8 rfl (E4 9 rfl (E4 10 rfl (E4 12 rfl ?_))))))))));refine Lw (s':=?_) 11 rfl Ak ?_ ?_;rotate_left;refine Ag ?_;refine He 118 7 rfl (F1 ?_);exact C8
 refine Pb 13 ?_;refine E4 14 rfl ?_;refine Vw (α:=Value) (s':=?_) 15 rfl Ak ?_ ?_;rotate_left;refine Ag ?_;refine Ma A0 rfl (jn:=w.toNat) rfl rfl (fun v9=>go A0 false ?_);conv=>whnf
 exact A2t v9
 intro v9;refine Lw (s':=?_) 16 rfl Ak ?_ ?_;rotate_left;refine Ag ?_;refine B24 A0 rfl (⟨by omega,by omega,by omega⟩) (Aa (((Bf x w (kept (A8 x w) (B2 x w))).aq.getD w.toNat default).bq.drop 1)) (Im (k:=1) hl8) (Ag ?_);exact C8
 refine Np [17,18,19,20] [⟨4,111,.rd v8⟩,⟨6,113,.emp 5⟩] Ak ?_;refine La (s':=?_) rfl Dt ?_ ?_;rotate_left;refine Ag ?_;refine Bg A0 rfl (Aa (((Bf x w (kept (A8 x w) (B2 x w))).aq.getD w.toNat default).bq.drop 1)) (Bw) (fun _=>J1 _) (by (rw [Gm];omega)) (Ag ?_);exact C8
 refine La (s':=?_) rfl Dt ?_ ?_;rotate_left;refine Ag ?_;refine He 111 7 rfl (F1 ?_);exact C8
 refine Mt rfl Dt ?_;refine La (s':=?_) rfl Dt ?_ ?_;rotate_left;refine Ag ?_;refine Bi (j:=w) A0 rfl (Ai (Bf (Bf x w (kept (A8 x w) (B2 x w))) w (El (kept (A8 x w) (B2 x w)))).aq) (Ht hk9 (by rw [hg9];rfl)) (Ag ?_);exact C8
 refine Lt A0 Ak Dt (GW.out (I7 ?_));conv=>whnf
 refine C21 Tryz.prog (fun _ g=>Yr 0 3 7 rfl rfl rfl g) ?_;rw [Q2];have hyes:=A0r hM h3
 have hz:rc (D4 x w).1=rcb (Bf x w (El (kept (A8 x w) (B2 x w)))) (Av x):=by
  show rcb (D4 x w).1 (Av (D4 x w).1)=_
  rw [C2i hC h3,hyes,hcs];rfl
 rw [hz,hyes];exact Iy () trivial
end Go.Proofs.YtmhcebdkjgkmlaaGreatDoor
