/- Part 22 of the proof that each of the laws FnSpread returns true for every input. No conditions. -/
import Derived.Test.YtdendlkeiaccpaaGreatQ21
import Derived.Test.YtdendlkeiaccpaaGreatQ5
import Derived.Test.YtdendlkeiaccpaaGreatQ18
import Derived.Test.YtdendlkeiaccpaaGreatQ11
import Derived.Test.YtdendlkeiaccpaaGreatQ19
import Derived.Test.YtdendlkeiaccpaaGreatQ15
import Derived.Test.YtdendlkeiaccpaaGreatQ17

set_option linter.unusedSimpArgs false
set_option linter.unusedVariables false
set_option maxRecDepth 100000
namespace Go.Proofs.YtdendlkeiaccpaaGreat
open Go.Sx
theorem B83 {c:A3}{w:Int}(h:B7 c)(h2:(C7 c w).2=true)(h3:B8 c w≠w):Bf (C7 c w).1=decide (Hf (Yx c w)):=by
 rw [Ri h,if_pos ⟨h2,h3⟩]
theorem B5h {c:A3}{w:Int}(h:B7 c)(h3:B8 c w=w):Bf (C7 c w).1=true:=by
 rw [Ri h,if_neg (fun p=>p.2 h3)]
set_option maxHeartbeats 8000000 in
theorem B99 (x:A3)(w:Int)(h:x.w≤8000000)(og:Gk .i64 x.graph.workers):E3 Tryz.prog (fun _=>True) 161 [] (rc x) [.one (vi w)] (fun _:Unit=>True) (fun _=>rc (C7 x w).1) (fun _=>[.one (vb (C7 x w).2)]):=by
 have h:x.w≤16000000:=by omega
 refine Em A0 false Tryz.func161 rfl B5 fun B b hH hp=>?_;conv=>whnf
 refine Ay (B13 x w h) hH hp rfl B0 rfl rfl (fun r hr=>go A0 false ?_);conv=>whnf
 refine ⟨fun h1=>?_,fun h1=>?_⟩<;>conv=>whnf
 ·have h1:¬ Gm x w:=of_decide_eq_false (by simpa using h1)
  repeat refine B2 ?_
  rw [O0 (fun p=>h1 p.1)];exact C3 A0 () trivial rfl rfl rfl rfl B0
 have h1:Gm x w:=of_decide_eq_true (show decide (Gm x w)=true by simpa using h1)
 have hC:=h1.1;have hb:=h1.2;have hk:w.toNat<x.workers.length:=by omega
 have hw:=A3.worker_le h hk;have hWP:=hC.2.1 _ (At (d:=default) hk);have hlw:=Lo (x.workers.getD w.toNat default)
 repeat refine B2 ?_
 refine Jq A0 rfl rfl rfl rfl rfl rfl (jn:=w.toNat) rfl rfl rfl (fun v=>go A0 false ?_);conv=>whnf
 repeat refine B2 ?_
 refine ⟨fun h2=>have h2:=eq_of_beq h2;?_,fun h2=>have h2:=beq_eq_false_iff_ne.1 h2;?_⟩<;>conv=>whnf
 ·repeat refine B2 ?_
  rw [O0 (fun p=>by have:=p.2;simp only [A8] at this;omega)];refine Fp Tryz.prog 7 (w.toNat) [(1,11)] (Ar x.workers) hk rfl rfl H3 rfl (D8 rfl) ?_;exact C3 A0 () trivial rfl rfl rfl rfl B0
 have h2':0<(x.workers.getD w.toNat default).staged.length:=by omega
 have h2:0<(A8 x w).staged.length:=h2';have hM:Gm x w∧0<(A8 x w).staged.length:=⟨h1,h2⟩;have hR:H2 (B1 x w)∧(B1 x w).op<x.graph.nodes.length:=hWP.1.2.1 _ (At (d:=default) h2);have hgw:=hC.1.1.2.1;have how:=A83 (k:=(B1 x w).key) (n:=x.graph.workers) hR.1.2.2.2.1.1 hgw.1;have hwl:=hC.1.2.1;have hcs:Bf x=true:=decide_eq_true hC
 repeat refine B2 ?_
 refine Kk A0 rfl rfl rfl rfl rfl rfl (jn:=w.toNat) rfl (Dg _ _ _) rfl (A7 ?_);refine Gd 35 11 rfl rfl (A7 ?_);(repeat refine Ap ?_);refine Mf 7 (w.toNat) [(1,11)] (Ar x.workers) hk rfl rfl H3 rfl (D8 rfl) (G3 ?_);conv=>whnf
 have hlk9:=hlw.1
 first|(refine Ax 4 rfl [0,1,2,3,4,5,6,7,8,9] A6 (A7 ?_))|(refine Ax 7 rfl [0,1,2,3,4,5,6,7,8,9,10,11,12,13,14,15] A6 (A7 ?_))|(refine Ax 10 rfl [0,1,2,3,4,5,6,7,8] A6 (A7 ?_))|(refine Ax 12 rfl [0,1,2,3,4,5,6,7,8,9,10,11,12,13,14,15,16,17,18,19,20] A6 (A7 ?_))|(refine Ax 13 rfl [0,1,2,3,4,5,7,8,9,10,11,12,13,14,15,16,6,17,18,19,20] A6 (A7 ?_))
 refine As (O2 (B1 x w).key x.graph.workers Ad) rfl (A7 ?_);refine ⟨fun h3=>have h3:=bne_iff_ne.1 h3;?_,fun h3=>have h3:=bne_eq_false_iff_eq.1 h3;?_⟩<;>conv=>whnf
 ·have h3:B8 x w≠w:=h3
  have hmt:0≤B8 x w∧B8 x w<x.graph.workers:=how;have hln:=Mn hC (f:=w) (t:=B8 x w) Ad hmt;have hlk:(Ao x w (B8 x w)).toNat<x.links.length:=by omega
  have hll:=A3.link_le h hlk;have hlp:Hn x.graph.workers w (Bn (B1 x w).key x.graph.workers)=Ao x w (B8 x w):=O9 hgw Ad hmt;have hs4:(A8 x w).sums.length=4:=hWP.2.1.1;have hE:=hR.1.2.1;have hsum:Hf ((A8 x w).sums.getD (B1 x w).stamp.epoch.toNat default):=hWP.2.2.2.1 _ (At (by show (B1 x w).stamp.epoch.toNat<(A8 x w).sums.length;omega))
  refine As (Od x.graph w (Bn (B1 x w).key x.graph.workers) og) rfl (A7 ?_);rw [hlp];refine H0 rfl ?_;refine Bp A0 false 0 rfl rfl A6 rfl (A4 Br) ?_;refine Bp A0 false 1 rfl rfl A6 rfl (A4 Br) ?_;refine Bp A0 false 2 rfl rfl A6 rfl (A4 Br) ?_;refine Bp A0 false 3 rfl rfl A6 rfl (A4 Br) ?_;refine Bp A0 false 5 rfl rfl A6 rfl (A4 Br) ?_;refine Cl (s':=?_) 4 rfl A6 ?_ ?_;rotate_left;refine A7 ?_;(repeat refine Ap ?_);exact B6
  refine Cl (s':=?_) 6 rfl A6 ?_ ?_;rotate_left;refine A7 ?_;(repeat refine Ap ?_);exact B6
  refine Rl (α:=Nat→Value) (s':=?_) 7 rfl A6 ?_ ?_;rotate_left;refine A7 ?_;refine T0 A0 rfl rfl rfl rfl rfl (jn:=(Ao x w (B8 x w)).toNat) rfl (r:=Ca.c ((x.links).getD ((Ao x w (B8 x w)).toNat) default)) rfl hlk rfl rfl (fun u=>go A0 false ?_);conv=>whnf
  exact Xp u
  intro u;refine Cl (s':=?_) 8 rfl A6 ?_ ?_;rotate_left;refine A7 ?_;(repeat refine Ap ?_);exact B6
  refine Dp [9,13] A6 ⟨?_,?_,trivial⟩
  focus
   refine A7 ?_;refine Bd (Ub (Ba x (Ao x w (B8 x w))) (B1 x w) (by show (x.links.getD _ default).w≤_;omega)) rfl (A7 ?_)
   refine Dq ?_;refine Bp A0 false 10 rfl rfl A6 rfl (A4 Br) ?_;refine Kx (s':=?_) 11 rfl A6 ?_ ?_;rotate_left;refine A7 ?_;(repeat refine Ap ?_);exact B6
   refine Kx (s':=?_) 12 rfl A6 ?_ ?_;rotate_left;refine A7 ?_;(repeat refine Ap ?_);exact B6
   refine Dp [13] A6 ⟨?_,trivial⟩;refine A7 ?_;(repeat refine Ap ?_);refine Dq ?_
  rotate_left 1
  focus
   refine A7 ?_;(repeat refine Ap ?_);refine Dq ?_;refine Dp [9] A6 ⟨?_,trivial⟩;refine A7 ?_;refine Bd (Ub (Ba x (Ao x w (B8 x w))) (B1 x w) (by show (x.links.getD _ default).w≤_;omega)) rfl (A7 ?_)
   refine Dq ?_;refine Bp A0 false 10 rfl rfl A6 rfl (A4 Br) ?_;refine Kx (s':=?_) 11 rfl A6 ?_ ?_;rotate_left;refine A7 ?_;(repeat refine Ap ?_);exact B6
   refine Kx (s':=?_) 12 rfl A6 ?_ ?_;rotate_left;refine A7 ?_;(repeat refine Ap ?_);exact B6
  all_goals
   refine Dp [14] A6 ⟨?_,trivial⟩;refine A7 ?_;(repeat refine Ap ?_);refine Dq ?_;refine Bp A0 false 15 rfl rfl A6 rfl (A4 Br) ?_;refine Qk A6 (A7 ?_)
  all_goals
   refine ⟨fun h4=>?_,fun h4=>?_⟩<;>conv=>whnf
   ·have h4:(Cf (Ba x (Ao x w (B8 x w))) (B1 x w)).2=false:=by simpa using h4
    repeat refine B2 ?_
    rw [T4 hM h3 h4];refine Fp Tryz.prog 8 ((Ao x w (B8 x w)).toNat) [(1,13)] (C4 x.links) hlk rfl rfl H3 rfl (D8 rfl) ?_;exact C3 A0 () trivial rfl rfl rfl rfl B0
   have h4:(Cf (Ba x (Ao x w (B8 x w))) (B1 x w)).2=true:=by simpa using h4
   have hyes:=T5 hM h3 h4;have hfl:=B83 hC (show (C7 x w).2=true by rw [hyes]) h3
   repeat refine B2 ?_
   first|(refine Ax 4 rfl [0,1,2,3,4,5,6,7,8,9] A6 (A7 ?_))|(refine Ax 7 rfl [0,1,2,3,4,5,6,7,8,9,10,11,12,13,14,15] A6 (A7 ?_))|(refine Ax 10 rfl [0,1,2,3,4,5,6,7,8] A6 (A7 ?_))|(refine Ax 12 rfl [0,1,2,3,4,5,6,7,8,9,10,11,12,13,14,15,16,17,18,19,20] A6 (A7 ?_))|(refine Ax 13 rfl [0,1,2,3,4,5,7,8,9,10,11,12,13,14,15,16,6,17,18,19,20] A6 (A7 ?_))
   (repeat refine Ap ?_);refine Bv (j:=(Ao x w (B8 x w))) A0 rfl rfl rfl rfl rfl rfl rfl rfl (C4 (Bi x (Ao x w (B8 x w)) (Cf (Ba x (Ao x w (B8 x w))) (B1 x w)).1).links) (G6 hlk rfl) ?_;refine A7 ?_;refine Ay (B31 (Bi x (Ao x w (B8 x w)) (Cf (Ba x (Ao x w (B8 x w))) (B1 x w)).1) (Bf x) w (B1 x w).stamp.epoch 1 hb.1 hk hE.1 (by show (B1 x w).stamp.epoch.toNat<(A8 x w).sums.length;omega) hsum B5) hH hp rfl B0 rfl rfl (fun r2 hr2=>go A0 false ?_)
   conv=>whnf
   have hk9:w.toNat<(Av (Bi x (Ao x w (B8 x w)) (Cf (Ba x (Ao x w (B8 x w))) (B1 x w)).1) w (Fk (A8 (Bi x (Ao x w (B8 x w)) (Cf (Ba x (Ao x w (B8 x w))) (B1 x w)).1) w) (B1 x w).stamp.epoch 1)).workers.length:=by show w.toNat<(x.workers.set _ _).length;rw [List.length_set];exact hk
   have hg9:(Av (Bi x (Ao x w (B8 x w)) (Cf (Ba x (Ao x w (B8 x w))) (B1 x w)).1) w (Fk (A8 (Bi x (Ao x w (B8 x w)) (Cf (Ba x (Ao x w (B8 x w))) (B1 x w)).1) w) (B1 x w).stamp.epoch 1)).workers.getD w.toNat default=Fk (A8 (Bi x (Ao x w (B8 x w)) (Cf (Ba x (Ao x w (B8 x w))) (B1 x w)).1) w) (B1 x w).stamp.epoch 1:=Z2 hk;have hl9:((Av (Bi x (Ao x w (B8 x w)) (Cf (Ba x (Ao x w (B8 x w))) (B1 x w)).1) w (Fk (A8 (Bi x (Ao x w (B8 x w)) (Cf (Ba x (Ao x w (B8 x w))) (B1 x w)).1) w) (B1 x w).stamp.epoch 1)).workers.getD w.toNat default).staged.length=(x.workers.getD w.toNat default).staged.length:=by rw [hg9];rfl
   have hl8:0<((Av (Bi x (Ao x w (B8 x w)) (Cf (Ba x (Ao x w (B8 x w))) (B1 x w)).1) w (Fk (A8 (Bi x (Ao x w (B8 x w)) (Cf (Ba x (Ao x w (B8 x w))) (B1 x w)).1) w) (B1 x w).stamp.epoch 1)).workers.getD w.toNat default).staged.length:=by omega
   refine Ty 0 3 17 rfl rfl (fun v8=>?_);refine A1l 0 3 rfl rfl (fun ho_v8=>?_);refine H0 rfl ?_;refine Bp A0 false 0 rfl rfl A6 rfl (A4 Br) ?_;refine Bp A0 false 1 rfl rfl A6 rfl (A4 Br) ?_;refine Bp A0 false 2 rfl rfl A6 rfl (A4 Br) ?_;refine Bp A0 false 3 rfl rfl A6 rfl (A4 Br) ?_;refine Bp A0 false 5 rfl rfl A6 rfl (A4 Br) ?_;refine Bp A0 false 7 rfl rfl A6 rfl (A4 Br) ?_;refine Bp A0 false 8 rfl rfl A6 rfl (A4 Br) ?_;refine Bp A0 false 9 rfl rfl A6 rfl (A4 Br) ?_;refine Bp A0 false 10 rfl rfl A6 rfl (A4 Br) ?_;refine Bp A0 false 12 rfl rfl A6 rfl (A4 Br) ?_;refine Cl (s':=?_) 11 rfl A6 ?_ ?_;rotate_left;refine A7 ?_;refine Gd 118 17 rfl rfl (A7 ?_);(repeat refine Ap ?_);exact B6
   refine Cl (s':=?_) 13 rfl A6 ?_ ?_;rotate_left;refine A7 ?_;(repeat refine Ap ?_);exact B6
   refine Bp A0 false 14 rfl rfl A6 rfl (A4 Br) ?_;refine Rl (α:=Value) (s':=?_) 15 rfl A6 ?_ ?_;rotate_left;refine A7 ?_;refine Jq A0 rfl rfl rfl rfl rfl rfl (jn:=w.toNat) rfl rfl rfl (fun v9=>go A0 false ?_);conv=>whnf
   exact Xp v9
   intro v9;refine Cl (s':=?_) 16 rfl A6 ?_ ?_;rotate_left;refine A7 ?_;refine Xh A0 rfl rfl rfl rfl rfl rfl rfl rfl (l:=1) rfl rfl (⟨by omega,by omega,by omega⟩) (Af (((Av (Bi x (Ao x w (B8 x w)) (Cf (Ba x (Ao x w (B8 x w))) (B1 x w)).1) w (Fk (A8 (Bi x (Ao x w (B8 x w)) (Cf (Ba x (Ao x w (B8 x w))) (B1 x w)).1) w) (B1 x w).stamp.epoch 1)).workers.getD w.toNat default).staged.drop 1)) (Fq (k:=1) hl8) (A7 ?_);exact B6
   refine Kz [17,18,19,20] [⟨4,111,.rd v8⟩,⟨6,113,.emp 5⟩] A6 ?_;refine Bl (s':=?_) A0 rfl A6 E8 ?_ ?_;rotate_left;refine A7 ?_;refine Bj A0 rfl rfl rfl rfl rfl rfl rfl rfl rfl rfl rfl (Af (((Av (Bi x (Ao x w (B8 x w)) (Cf (Ba x (Ao x w (B8 x w))) (B1 x w)).1) w (Fk (A8 (Bi x (Ao x w (B8 x w)) (Cf (Ba x (Ao x w (B8 x w))) (B1 x w)).1) w) (B1 x w).stamp.epoch 1)).workers.getD w.toNat default).staged.drop 1)) (C9) (fun _=>G5 _) (by (rw [List.length_drop];omega)) (A7 ?_);exact B6
   refine Bl (s':=?_) A0 rfl A6 E8 ?_ ?_;rotate_left;refine A7 ?_;refine Gd 111 17 rfl rfl (A7 ?_);(repeat refine Ap ?_);exact B6
   refine Bl (s':=?_) A0 rfl A6 E8 ?_ ?_;rotate_left;refine A7 ?_;(repeat refine Ap ?_);exact B6
   refine Bl (s':=?_) A0 rfl A6 E8 ?_ ?_;rotate_left;refine A7 ?_;refine Bv (j:=w) A0 rfl rfl rfl rfl rfl rfl rfl rfl (Ar (Av (Av (Bi x (Ao x w (B8 x w)) (Cf (Ba x (Ao x w (B8 x w))) (B1 x w)).1) w (Fk (A8 (Bi x (Ao x w (B8 x w)) (Cf (Ba x (Ao x w (B8 x w))) (B1 x w)).1) w) (B1 x w).stamp.epoch 1)) w (Cd (Fk (A8 (Bi x (Ao x w (B8 x w)) (Cf (Ba x (Ao x w (B8 x w))) (B1 x w)).1) w) (B1 x w).stamp.epoch 1))).workers) (G6 hk9 (by rw [hg9];rfl)) (A7 ?_);exact B6
   refine Jf A0 A6 E8 (GW.out (G3 ?_));conv=>whnf
   refine B52 Tryz.prog (fun _ g=>Tv 0 3 17 rfl rfl rfl g) ?_;rw [Mp]
   have hz:rc (C7 x w).1=X6 (Av (Bi x (Ao x w (B8 x w)) (Cf (Ba x (Ao x w (B8 x w))) (B1 x w)).1) w (Cd (Fk (A8 (Bi x (Ao x w (B8 x w)) (Cf (Ba x (Ao x w (B8 x w))) (B1 x w)).1) w) (B1 x w).stamp.epoch 1))) (Bf x&&E6 ((A8 (Bi x (Ao x w (B8 x w)) (Cf (Ba x (Ao x w (B8 x w))) (B1 x w)).1) w).sums.getD (B1 x w).stamp.epoch.toNat default+1) (-1000000) 1000000):=by
    show X6 (C7 x w).1 (Bf (C7 x w).1)=_
    rw [hfl,hyes,hcs,Bool.true_and,A95,Vt (w:=Cd (A8 x w)) ⟨hE.1,by show (B1 x w).stamp.epoch<(A8 x w).sums.length;omega⟩]
    rfl
   rw [hz,hyes];exact C3 A0 () trivial rfl rfl rfl rfl B0
 have h3:B8 x w=w:=h3;refine Ty 0 3 7 rfl rfl (fun v2=>?_);refine A1l 0 3 rfl rfl (fun ho_v2=>?_);refine H0 rfl ?_;refine Bp A0 false 0 rfl rfl A6 rfl (A4 Br) ?_;refine Bp A0 false 1 rfl rfl A6 rfl (A4 Br) ?_;refine Bp A0 false 2 rfl rfl A6 rfl (A4 Br) ?_;refine Bp A0 false 3 rfl rfl A6 rfl (A4 Br) ?_;refine Bp A0 false 5 rfl rfl A6 rfl (A4 Br) ?_;refine Bp A0 false 6 rfl rfl A6 rfl (A4 Br) ?_;refine Bp A0 false 7 rfl rfl A6 rfl (A4 Br) ?_;refine Bp A0 false 8 rfl rfl A6 rfl (A4 Br) ?_;refine Bp A0 false 9 rfl rfl A6 rfl (A4 Br) ?_;refine Bp A0 false 11 rfl rfl A6 rfl (A4 Br) ?_;refine Cl (s':=?_) 10 rfl A6 ?_ ?_;rotate_left;refine A7 ?_;refine Gd 97 7 rfl rfl (A7 ?_);(repeat refine Ap ?_);exact B6
 refine Cl (s':=?_) 12 rfl A6 ?_ ?_;rotate_left;refine A7 ?_;(repeat refine Ap ?_);exact B6
 refine Bp A0 false 13 rfl rfl A6 rfl (A4 Br) ?_;refine Rl (α:=Value) (s':=?_) 14 rfl A6 ?_ ?_;rotate_left;refine A7 ?_;refine Jq A0 rfl rfl rfl rfl rfl rfl (jn:=w.toNat) rfl rfl rfl (fun v3=>go A0 false ?_);conv=>whnf
 exact Xp v3
 intro v3;refine Cl (s':=?_) 15 rfl A6 ?_ ?_;rotate_left;refine A7 ?_;(repeat refine Ap ?_);exact B6
 refine Kz [16,17,18,19,20] [⟨4,91,.rd v2⟩] A6 ?_;refine Bl (s':=?_) A0 rfl A6 E8 ?_ ?_;rotate_left;refine A7 ?_;(repeat refine Ap ?_);exact B6
 refine Bl (s':=?_) A0 rfl A6 E8 ?_ ?_;rotate_left;refine A7 ?_;refine Bj A0 rfl rfl rfl rfl rfl rfl rfl rfl rfl rfl rfl (Af ((x.workers.getD w.toNat default).queue++[B1 x w])) (An rfl) C6 Ad (A7 ?_);exact B6
 refine Bl (s':=?_) A0 rfl A6 E8 ?_ ?_;rotate_left;refine A7 ?_;refine Gd 91 7 rfl rfl (A7 ?_);(repeat refine Ap ?_);exact B6
 refine Bl (s':=?_) A0 rfl A6 E8 ?_ ?_;rotate_left;refine A7 ?_;(repeat refine Ap ?_);exact B6
 refine Bl (s':=?_) A0 rfl A6 E8 ?_ ?_;rotate_left;refine A7 ?_;refine Bv (j:=w) A0 rfl rfl rfl rfl rfl rfl rfl rfl (Ar (Av x w (kept (A8 x w) (B1 x w))).workers) (G6 hk rfl) (A7 ?_);exact B6
 refine Jf A0 A6 E8 (GW.out (G3 ?_));conv=>whnf
 refine Tv 0 3 7 rfl rfl rfl ?_;have hk9:w.toNat<(Av x w (kept (A8 x w) (B1 x w))).workers.length:=by show w.toNat<(x.workers.set _ _).length;rw [List.length_set];exact hk
 have hg9:(Av x w (kept (A8 x w) (B1 x w))).workers.getD w.toNat default=kept (A8 x w) (B1 x w):=Z2 hk;have hl9:((Av x w (kept (A8 x w) (B1 x w))).workers.getD w.toNat default).staged.length=(x.workers.getD w.toNat default).staged.length:=by rw [hg9];rfl
 have hl8:0<((Av x w (kept (A8 x w) (B1 x w))).workers.getD w.toNat default).staged.length:=by omega
 refine Ty 0 3 7 rfl rfl (fun v8=>?_);refine A1l 0 3 rfl rfl (fun ho_v8=>?_);refine H0 rfl ?_;refine Bp A0 false 0 rfl rfl A6 rfl (A4 Br) ?_;refine Bp A0 false 1 rfl rfl A6 rfl (A4 Br) ?_;refine Bp A0 false 2 rfl rfl A6 rfl (A4 Br) ?_;refine Bp A0 false 3 rfl rfl A6 rfl (A4 Br) ?_;refine Bp A0 false 5 rfl rfl A6 rfl (A4 Br) ?_;refine Bp A0 false 7 rfl rfl A6 rfl (A4 Br) ?_;refine Bp A0 false 8 rfl rfl A6 rfl (A4 Br) ?_;refine Bp A0 false 9 rfl rfl A6 rfl (A4 Br) ?_;refine Bp A0 false 10 rfl rfl A6 rfl (A4 Br) ?_;refine Bp A0 false 12 rfl rfl A6 rfl (A4 Br) ?_;refine Cl (s':=?_) 11 rfl A6 ?_ ?_;rotate_left;refine A7 ?_;refine Gd 118 7 rfl rfl (A7 ?_);(repeat refine Ap ?_);exact B6
 refine Cl (s':=?_) 13 rfl A6 ?_ ?_;rotate_left;refine A7 ?_;(repeat refine Ap ?_);exact B6
 refine Bp A0 false 14 rfl rfl A6 rfl (A4 Br) ?_;refine Rl (α:=Value) (s':=?_) 15 rfl A6 ?_ ?_;rotate_left;refine A7 ?_;refine Jq A0 rfl rfl rfl rfl rfl rfl (jn:=w.toNat) rfl rfl rfl (fun v9=>go A0 false ?_);conv=>whnf
 exact Xp v9
 intro v9;refine Cl (s':=?_) 16 rfl A6 ?_ ?_;rotate_left;refine A7 ?_;refine Xh A0 rfl rfl rfl rfl rfl rfl rfl rfl (l:=1) rfl rfl (⟨by omega,by omega,by omega⟩) (Af (((Av x w (kept (A8 x w) (B1 x w))).workers.getD w.toNat default).staged.drop 1)) (Fq (k:=1) hl8) (A7 ?_);exact B6
 refine Kz [17,18,19,20] [⟨4,111,.rd v8⟩,⟨6,113,.emp 5⟩] A6 ?_;refine Bl (s':=?_) A0 rfl A6 E8 ?_ ?_;rotate_left;refine A7 ?_;refine Bj A0 rfl rfl rfl rfl rfl rfl rfl rfl rfl rfl rfl (Af (((Av x w (kept (A8 x w) (B1 x w))).workers.getD w.toNat default).staged.drop 1)) (C9) (fun _=>G5 _) (by (rw [List.length_drop];omega)) (A7 ?_);exact B6
 refine Bl (s':=?_) A0 rfl A6 E8 ?_ ?_;rotate_left;refine A7 ?_;refine Gd 111 7 rfl rfl (A7 ?_);(repeat refine Ap ?_);exact B6
 refine Bl (s':=?_) A0 rfl A6 E8 ?_ ?_;rotate_left;refine A7 ?_;(repeat refine Ap ?_);exact B6
 refine Bl (s':=?_) A0 rfl A6 E8 ?_ ?_;rotate_left;refine A7 ?_;refine Bv (j:=w) A0 rfl rfl rfl rfl rfl rfl rfl rfl (Ar (Av (Av x w (kept (A8 x w) (B1 x w))) w (Cd (kept (A8 x w) (B1 x w)))).workers) (G6 hk9 (by rw [hg9];rfl)) (A7 ?_);exact B6
 refine Jf A0 A6 E8 (GW.out (G3 ?_));conv=>whnf
 refine B52 Tryz.prog (fun _ g=>Tv 0 3 7 rfl rfl rfl g) ?_;rw [Mp];have hyes:=Vk hM h3
 have hz:rc (C7 x w).1=X6 (Av x w (Cd (kept (A8 x w) (B1 x w)))) (Bf x):=by
  show X6 (C7 x w).1 (Bf (C7 x w).1)=_
  rw [B5h hC h3,hyes,hcs];rfl
 rw [hz,hyes];exact C3 A0 () trivial rfl rfl rfl rfl B0
theorem A2d (l:List Di)(k:Nat):Ug (l.take k).length (l.drop (k+1)).length 3 (fun i=>Di.c ((l.take k).getD i default)) (fun i=>Di.c ((l.drop (k+1)).getD i default)) (Cc (l.take k++l.drop (k+1))):=Vv 3 Di.c _ _
theorem B1k {c:A3}{w:Int}{k:Nat}(hk:k<c.news.length)(hb:∀i,i<k→Hk w (c.news.getD i default)=false)(h:Hk w (c.news.getD k default)=true):Gf c w=k∧c.news.any (Hk w)=true:=⟨Pm _ _ k hk hb h,Lu hk h⟩
theorem B5k {c:A3}{w:Int}(hb:∀i,i<c.news.length→Hk w (c.news.getD i default)=false):c.news.any (Hk w)=false:=by
 rw [List.any_eq_false];intro y hy;obtain ⟨i,hi,rfl⟩:=List.getElem_of_mem hy
 have:=hb i hi
 rw [show c.news.getD i default=c.news[i] by simp [List.getD,hi]] at this
 simpa using this
set_option maxHeartbeats 8000000 in
theorem B96 (x:A3)(w:Int)(h:x.w≤16000000):E3 Tryz.prog (fun _=>True) 165 [] (rc x) [.one (vi w)] (fun _:Unit=>True) (fun _=>X6 (Dj x w).1 (Bf x)) (fun _=>[.one (vb (Dj x w).2)]):=by
 have hnl:=A3.news_le h;refine Em A0 false Tryz.func165 rfl B5 fun B b hH hp=>?_;conv=>whnf
 refine Bk A0 false [6] (fun k:Nat=>[(5,.c (vi k))]) (fun k=>[⟨0,[.own 1,.c (vi x.graph.workers),.c (vi x.graph.cap),.own 2,.own 3,.own 4,.own 5,.c (vb (Bf x))]⟩]) (fun k=>[⟨1,Bg x.graph.nodes⟩,⟨2,Ar x.workers⟩,⟨3,C4 x.links⟩,⟨4,Bm x.tokens⟩,⟨5,Cc x.news⟩])
  (fun k=>k≤x.news.length∧∀i,i<k→Hk w (x.news.getD i default)=false) (fun k=>x.news.length-k) 0 ⟨Nat.zero_le _,by first|rfl|assumption|simp⟩ ⟨F0,trivial⟩ C2 ⟨Dm,Dm,Dm,Dm,Dm,trivial⟩ C1 A6 (fun k hk=>?_)
 obtain ⟨hk,he⟩:=hk;conv=>whnf
 conv=>whnf
 refine Eo (fun h1=>?_) fun h1=>?_<;>conv=>whnf
 ·have h1:k<x.news.length:=by omega
  repeat refine B2 ?_
  refine ⟨fun hok=>?_,fun hok=>?_⟩<;>conv=>whnf
  ·have hC:B7 x:=of_decide_eq_true (show Bf x=true from hok)
   repeat refine B2 ?_
   refine ⟨fun h2=>have h2:=bne_iff_ne.1 h2;?_,fun h2=>have h2:=bne_eq_false_iff_eq.1 h2;?_⟩<;>conv=>whnf
   ·rw [Int.toNat_natCast] at h2
    have h2':Hk w (x.news.getD k default)=false:=by simpa [Hk] using h2
    (repeat refine Ap ?_);refine Az [] (k+1) ⟨by omega,fun i hi=>(Nat.lt_succ_iff_lt_or_eq.1 hi).elim (fun h4=>he i h4) (fun h4=>by subst h4;exact h2')⟩ Ad ⟨rfl,trivial⟩ ⟨rfl,rfl,rfl,rfl,rfl,trivial⟩ C2 A6 C1 A6
   rw [Int.toNat_natCast] at h2;have h2':Hk w (x.news.getD k default)=true:=by simpa [Hk] using h2
   obtain ⟨hat,hA⟩:=B1k h1 he h2';have hH:B7 x∧x.news.any (Hk w)=true:=⟨hC,hA⟩;have hno:Eg x w=x.news.getD k default:=by unfold Eg;rw [hat]
   have hwn:=hC.2.2.2.2 _ (At (d:=default) h1);have hwl:=hC.1.2.1
   have hwb:0≤w∧w<x.workers.length:=by
    have:=hwn.1
    omega
   have hj:w.toNat<x.workers.length:=by omega
   have hww:=A3.worker_le h hj;have hdl:(x.workers.getD w.toNat default).dones.length≤(x.workers.getD w.toNat default).w:=by simp only [Ab.w];omega
   have htk:=List.length_take_le k x.news;refine B78 0 6 5 rfl rfl rfl ?_
   have hh:Jd x w=⟨x.graph,x.workers,x.links,x.tokens,x.news.take k++x.news.drop (k+1)⟩:=by
    unfold Jd;rw [hat,A0g]
   refine H0 rfl ?_;refine Bp A0 false 0 rfl rfl A6 rfl (A4 Br) ?_;refine Bp A0 false 2 rfl rfl A6 rfl (A4 Br) ?_;refine Bp A0 false 3 rfl rfl A6 rfl (A4 Br) ?_;refine Bp A0 false 4 rfl rfl A6 rfl (A4 Br) ?_;refine Bp A0 false 5 rfl rfl A6 rfl (A4 Br) ?_;refine Bp A0 false 7 rfl rfl A6 rfl (A4 Br) ?_;refine Bp A0 false 10 rfl rfl A6 rfl (A4 Br) ?_;refine Bp A0 false 11 rfl rfl A6 rfl (A4 Br) ?_;refine Bp A0 false 12 rfl rfl A6 rfl (A4 Br) ?_;refine Bp A0 false 13 rfl rfl A6 rfl (A4 Br) ?_;refine Bp A0 false 15 rfl rfl A6 rfl (A4 Br) ?_;refine Bp A0 false 16 rfl rfl A6 rfl (A4 Br) ?_;refine Cl (s':=?_) 6 rfl A6 ?_ ?_;rotate_left;refine A7 ?_;(repeat refine Ap ?_);exact B6
   refine Cl (s':=?_) 8 rfl A6 ?_ ?_;rotate_left;refine A7 ?_;refine Q7 A0 rfl rfl rfl rfl rfl rfl rfl (l:=0) (h:=(k:Int)) rfl rfl ⟨by omega,by omega,by omega⟩ (Cc (x.news.take k)) (Xi Ad) (A7 ?_);exact B6
   refine Kz [9,14,17,18,19,20,21,22] [⟨1,36,.emp 3⟩] A6 ?_;refine Kr (s1:=?_) (s2:=?_) A0 [9,14,17,18,19,20,21,22] 9 14 [14,17,18,19,20,21,22] [9,17,18,19,20,21,22] rfl rfl A6 E8 B5 B5 ?_ ?_ ?_ ?_;rotate_left 2;refine A7 ?_;refine Bj A0 rfl rfl rfl rfl rfl rfl rfl rfl rfl rfl rfl (Cc (x.news.take k)) (C9) (fun _=>G4 _) Ad (A7 ?_);exact B6
   refine Bl (s':=?_) A0 rfl A6 E8 ?_ ?_;rotate_left;refine A7 ?_;(repeat refine Ap ?_);exact B6
   refine Bl (s':=?_) A0 rfl A6 E8 ?_ ?_;rotate_left;refine A7 ?_;refine Q7 A0 rfl rfl rfl rfl rfl rfl rfl (l:=(k:Int)+1) (h:=(x.news.length:Int)) rfl rfl ⟨by omega,by omega,by omega⟩ (Cc (x.news.drop (k+1))) (Fq (k:=k+1) h1) (A7 ?_);exact B6
   refine Bl (s':=?_) A0 rfl A6 E8 ?_ ?_;rotate_left;refine A7 ?_;refine Bj A0 rfl rfl rfl rfl rfl rfl rfl rfl rfl rfl rfl (Cc (x.news.take k++x.news.drop (k+1))) (A2d x.news k) (fun _=>G4 _) (by (rw [List.length_take,List.length_drop];omega)) (A7 ?_);exact B6
   refine Bl (s':=?_) A0 rfl A6 E8 ?_ ?_;rotate_left;refine A7 ?_;(repeat refine Ap ?_);exact B6
   refine Bl (s':=?_) A0 rfl A6 E8 ?_ ?_;rotate_left;refine A7 ?_;(repeat refine Ap ?_);exact B6
   refine Bl (s':=?_) A0 rfl A6 E8 ?_ ?_;rotate_left;refine A7 ?_;(repeat refine Ap ?_);exact B6
   refine Bl (s':=?_) A0 rfl A6 E8 ?_ ?_;rotate_left;refine A7 ?_;(repeat refine Ap ?_);exact B6
   refine Jf A0 A6 E8 (GW.out (G3 ?_));conv=>whnf
   rotate_left 1;refine A7 ?_;(repeat refine Ap ?_);exact B6
   refine Kr (s1:=?_) (s2:=?_) A0 [9,17,18,19,20,21,22] 9 17 [17,18,19,20,21,22] [9,18,19,20,21,22] rfl rfl A6 E8 B5 B5 ?_ ?_ ?_ ?_;rotate_left 2;refine A7 ?_;refine Bj A0 rfl rfl rfl rfl rfl rfl rfl rfl rfl rfl rfl (Cc (x.news.take k)) (C9) (fun _=>G4 _) Ad (A7 ?_);exact B6
   refine Bl (s':=?_) A0 rfl A6 E8 ?_ ?_;rotate_left;refine A7 ?_;refine Q7 A0 rfl rfl rfl rfl rfl rfl rfl (l:=(k:Int)+1) (h:=(x.news.length:Int)) rfl rfl ⟨by omega,by omega,by omega⟩ (Cc (x.news.drop (k+1))) (Fq (k:=k+1) h1) (A7 ?_);exact B6
   refine Bl (s':=?_) A0 rfl A6 E8 ?_ ?_;rotate_left;refine A7 ?_;refine Bj A0 rfl rfl rfl rfl rfl rfl rfl rfl rfl rfl rfl (Cc (x.news.take k++x.news.drop (k+1))) (A2d x.news k) (fun _=>G4 _) (by (rw [List.length_take,List.length_drop];omega)) (A7 ?_);exact B6
   refine Bl (s':=?_) A0 rfl A6 E8 ?_ ?_;rotate_left;refine A7 ?_;(repeat refine Ap ?_);exact B6
   refine Bl (s':=?_) A0 rfl A6 E8 ?_ ?_;rotate_left;refine A7 ?_;(repeat refine Ap ?_);exact B6
   refine Bl (s':=?_) A0 rfl A6 E8 ?_ ?_;rotate_left;refine A7 ?_;(repeat refine Ap ?_);exact B6
   refine Bl (s':=?_) A0 rfl A6 E8 ?_ ?_;rotate_left;refine A7 ?_;(repeat refine Ap ?_);exact B6
   refine Jf A0 A6 E8 (GW.out (G3 ?_));conv=>whnf
   rotate_left 1;refine A7 ?_;refine Q7 A0 rfl rfl rfl rfl rfl rfl rfl (l:=(k:Int)+1) (h:=(x.news.length:Int)) rfl rfl ⟨by omega,by omega,by omega⟩ (Cc (x.news.drop (k+1))) (Fq (k:=k+1) h1) (A7 ?_);exact B6
   refine Bl (s':=?_) A0 rfl A6 E8 ?_ ?_;rotate_left;refine A7 ?_;refine Bj A0 rfl rfl rfl rfl rfl rfl rfl rfl rfl rfl rfl (Cc (x.news.take k)) (C9) (fun _=>G4 _) Ad (A7 ?_);exact B6
   refine Bl (s':=?_) A0 rfl A6 E8 ?_ ?_;rotate_left;refine A7 ?_;refine Bj A0 rfl rfl rfl rfl rfl rfl rfl rfl rfl rfl rfl (Cc (x.news.take k++x.news.drop (k+1))) (A2d x.news k) (fun _=>G4 _) (by (rw [List.length_take,List.length_drop];omega)) (A7 ?_);exact B6
   refine Bl (s':=?_) A0 rfl A6 E8 ?_ ?_;rotate_left;refine A7 ?_;(repeat refine Ap ?_);exact B6
   refine Bl (s':=?_) A0 rfl A6 E8 ?_ ?_;rotate_left;refine A7 ?_;(repeat refine Ap ?_);exact B6
   refine Bl (s':=?_) A0 rfl A6 E8 ?_ ?_;rotate_left;refine A7 ?_;(repeat refine Ap ?_);exact B6
   refine Bl (s':=?_) A0 rfl A6 E8 ?_ ?_;rotate_left;refine A7 ?_;(repeat refine Ap ?_);exact B6
   refine Jf A0 A6 E8 (GW.out (G3 ?_));conv=>whnf
   all_goals
    first|(refine Ax 6 rfl [0,2,3,4,5,6,7,8,10,11,12,13,14,15,16,17,1,9,18,19,20,21,22] A6 (A7 ?_))|(refine Ax 7 rfl [0,1,2,3,4,5,6,7,8,9,10,11] A6 (A7 ?_))|(refine Ax 8 rfl [0,1,2,3,4,5,6,7,8,9,10,11,12,13,14,15,16,17,18,19,20,21,22,23,24] A6 (A7 ?_))
    (repeat refine Ap ?_);refine T0 A0 rfl rfl rfl rfl rfl (jn:=w.toNat) rfl (r:=Ab.c ((x.workers).getD (w.toNat) default)) rfl hj rfl rfl (fun u=>go A0 false ?_);conv=>whnf
    refine As (A2h (x.workers.getD w.toNat default) (x.news.getD k default).epoch Ad) rfl (A7 ?_);refine ⟨fun hd=>?_,fun hd=>?_⟩<;>conv=>whnf
    ·have hd:Cv (A8 x w) (Eg x w).epoch=false:=by rw [hno];exact (Bool.not_eq_true' _).mp hd
     refine Mf 2 (w.toNat) [(0,10),(1,11),(2,12),(3,13),(4,14),(5,15),(6,16),(7,17)] (Ar x.workers) hj rfl rfl H3 rfl (D8 rfl) (G3 ?_);conv=>whnf
     refine Ty 0 3 2 rfl rfl (fun v2=>?_);refine A1l 0 3 rfl rfl (fun ho_v2=>?_);refine H0 rfl ?_;refine Bp A0 false 0 rfl rfl A6 rfl (A4 Br) ?_;refine Bp A0 false 1 rfl rfl A6 rfl (A4 Br) ?_;refine Bp A0 false 2 rfl rfl A6 rfl (A4 Br) ?_;refine Bp A0 false 3 rfl rfl A6 rfl (A4 Br) ?_;refine Bp A0 false 5 rfl rfl A6 rfl (A4 Br) ?_;refine Bp A0 false 6 rfl rfl A6 rfl (A4 Br) ?_;refine Bp A0 false 7 rfl rfl A6 rfl (A4 Br) ?_;refine Bp A0 false 8 rfl rfl A6 rfl (A4 Br) ?_;refine Bp A0 false 9 rfl rfl A6 rfl (A4 Br) ?_;refine Bp A0 false 11 rfl rfl A6 rfl (A4 Br) ?_;refine Bp A0 false 15 rfl rfl A6 rfl (A4 Br) ?_;refine Bp A0 false 17 rfl rfl A6 rfl (A4 Br) ?_;refine Cl (s':=?_) 10 rfl A6 ?_ ?_;rotate_left;refine A7 ?_;refine Gd 79 2 rfl rfl (A7 ?_);(repeat refine Ap ?_);exact B6
     refine Cl (s':=?_) 12 rfl A6 ?_ ?_;rotate_left;refine A7 ?_;(repeat refine Ap ?_);exact B6
     refine Bp A0 false 13 rfl rfl A6 rfl (A4 Br) ?_;refine Rl (α:=Value) (s':=?_) 14 rfl A6 ?_ ?_;rotate_left;refine A7 ?_;refine Jq A0 rfl rfl rfl rfl rfl rfl (jn:=w.toNat) rfl rfl rfl (fun v3=>go A0 false ?_);conv=>whnf
     exact Xp v3
     intro v3;refine Cl (s':=?_) 16 rfl A6 ?_ ?_;rotate_left;refine A7 ?_;(repeat refine Ap ?_);exact B6
     refine Cl (s':=?_) 18 rfl A6 ?_ ?_;rotate_left;refine A7 ?_;(repeat refine Ap ?_);exact B6
     refine Cl (s':=?_) 19 rfl A6 ?_ ?_;rotate_left;refine A7 ?_;(repeat refine Ap ?_);exact B6
     refine Kz [20,21,22,23,24] [⟨4,73,.rd v2⟩] A6 ?_;refine Bl (s':=?_) A0 rfl A6 E8 ?_ ?_;rotate_left;refine A7 ?_;(repeat refine Ap ?_);exact B6
     refine Bl (s':=?_) A0 rfl A6 E8 ?_ ?_;rotate_left;refine A7 ?_;refine Bj A0 rfl rfl rfl rfl rfl rfl rfl rfl rfl rfl rfl (G1 ((x.workers.getD w.toNat default).dones++[⟨(x.news.getD k default).epoch,(x.news.getD k default).capped⟩])) (An rfl) C6 Ad (A7 ?_);exact B6
     refine Bl (s':=?_) A0 rfl A6 E8 ?_ ?_;rotate_left;refine A7 ?_;refine Gd 73 2 rfl rfl (A7 ?_);(repeat refine Ap ?_);exact B6
     refine Bl (s':=?_) A0 rfl A6 E8 ?_ ?_;rotate_left;refine A7 ?_;(repeat refine Ap ?_);exact B6
     refine Bl (s':=?_) A0 rfl A6 E8 ?_ ?_;rotate_left;refine A7 ?_;refine Bv (j:=w) A0 rfl rfl rfl rfl rfl rfl rfl rfl (Ar (x.workers.set w.toNat (Ef (A8 x w) ⟨(x.news.getD k default).epoch,(x.news.getD k default).capped⟩))) (G6 hj rfl) (A7 ?_);exact B6
     refine Jf A0 A6 E8 (GW.out (G3 ?_));conv=>whnf
     refine B52 Tryz.prog (fun _ g=>Tv 0 3 2 rfl rfl rfl g) ?_;rw [A79 hH hd,hno,hh];exact C3 A0 () trivial rfl rfl rfl rfl B0
    have hd:Cv (A8 x w) (Eg x w).epoch=true:=by rw [hno];exact (Bool.not_eq_false' _).mp hd
    refine Fp Tryz.prog 2 (w.toNat) [(0,10),(1,11),(2,12),(3,13),(4,14),(5,15),(6,16),(7,17)] (Ar x.workers) hj rfl rfl H3 rfl (D8 rfl) ?_;rw [A8a hH hd,hh];exact C3 A0 () trivial rfl rfl rfl rfl B0
  have hC:¬ B7 x:=of_decide_eq_false (show Bf x=false from hok)
  repeat refine B2 ?_
  rw [Yu (fun p=>hC p.1)];exact C3 A0 () trivial rfl rfl rfl rfl B0
 obtain rfl:k=x.news.length:=by omega
 repeat refine B2 ?_
 rw [Yu (fun p=>by have q:=p.2;rw [B5k he] at q;cases q)];exact C3 A0 () trivial rfl rfl rfl rfl B0
theorem Yq (c:A3)(e:Int):(Ci c e).1.graph=c.graph:=by
 unfold Ci
 dsimp only
 repeat' split
 all_goals first
  |rfl
  |(unfold Gw;split<;>rfl)
theorem B2f (c:A3)(p:D7):(Aq c p).1.graph=c.graph:=by
 unfold Aq
 split
 ·unfold Dk;split<;>rfl
 split
 ·unfold D9;split<;>rfl
 split
 ·unfold C7;repeat' split
  all_goals rfl
 split
 ·unfold Ct;split<;>rfl
 split
 ·unfold D4;split<;>rfl
 split
 ·exact Yq c p.a
 split
 ·unfold Dj;repeat' split
  all_goals rfl
 rfl
theorem A9k (l:List D7):∀s:A3×List Bool,(l.foldl G8 s).1.graph=s.1.graph:=by
 induction l with
 |nil=>intro s;rfl
 |cons p r ih=>intro s;exact (ih (G8 s p)).trans (B2f s.1 p)
theorem U6 (c:A3)(l:List D7):(Bb c l).1.graph=c.graph:=A9k l (c,[])
theorem A34 (c:A3)(k:Nat):(frN c k).graph=c.graph:=by
 induction k with
 |zero=>rfl
 |succ k ih=>exact (U6 (frN c k) _).trans ih
theorem B9m {c d:A3}(h:d.graph=c.graph):H1 d=H1 c:=by
 unfold H1;rw [h]
def cnt (c:A3) (l:List D7):Nat:=((Bb c l).2.filter id).length
theorem Xg {c:A3}{p:D7}(h3:p.kind≠3)(h4:p.kind≠4):Bf (Aq c p).1=Bf c:=by
 by_cases hc:B7 c
 ·rw [Rz hc,if_neg h3,if_neg h4]
  exact (decide_eq_true hc).symm
 rw [Sf hc]
set_option maxHeartbeats 4000000 in
theorem A9w (x:A3)(p:D7)(h:x.w≤8000000)(og:Gk .i64 x.graph.workers):E3 Tryz.prog (fun _=>True) 127 [] (rc x) [.agg p.c] (fun _:Unit=>True) (fun _=>rc (Aq x p).1) (fun _=>[.one (vb (Aq x p).2)]):=by
 refine Em A0 false Tryz.func127 rfl B5 fun B b hH hp=>?_;conv=>whnf
 refine ⟨fun k1=>have k1:=eq_of_beq k1;?_,fun k1=>have k1:=beq_eq_false_iff_ne.1 k1;?_⟩<;>conv=>whnf
 ·have hfl:=Xg (c:=x) (p:=p) Ad Ad
  refine Ay (C0b x p.a Ad) hH hp rfl B0 rfl rfl (fun r hr=>go A0 false ?_);conv=>whnf
  have hz:rc (Aq x p).1=X6 (Dk x p.a).1 (Bf x):=by
   have e:Aq x p=Dk x p.a:=by unfold Aq;rw [if_pos k1]
   show X6 (Aq x p).1 (Bf (Aq x p).1)=_
   rw [hfl,e]
  have hv:(Aq x p).2=(Dk x p.a).2:=by unfold Aq;rw [if_pos k1]
  rw [hz,hv];exact C3 A0 () trivial rfl rfl rfl rfl B0
 refine ⟨fun k2=>have k2:=eq_of_beq k2;?_,fun k2=>have k2:=beq_eq_false_iff_ne.1 k2;?_⟩<;>conv=>whnf
 ·have hfl:=Xg (c:=x) (p:=p) Ad Ad
  refine Ay (B56 x p.a Ad) hH hp rfl B0 rfl rfl (fun r hr=>go A0 false ?_);conv=>whnf
  have hz:rc (Aq x p).1=X6 (D9 x p.a).1 (Bf x):=by
   have e:Aq x p=D9 x p.a:=by unfold Aq;rw [if_neg k1,if_pos k2]
   show X6 (Aq x p).1 (Bf (Aq x p).1)=_
   rw [hfl,e]
  have hv:(Aq x p).2=(D9 x p.a).2:=by unfold Aq;rw [if_neg k1,if_pos k2]
  rw [hz,hv];exact C3 A0 () trivial rfl rfl rfl rfl B0
 refine ⟨fun k3=>have k3:=eq_of_beq k3;?_,fun k3=>have k3:=beq_eq_false_iff_ne.1 k3;?_⟩<;>conv=>whnf
 ·refine Ay (B99 x p.a h og) hH hp rfl B0 rfl rfl (fun r hr=>go A0 false ?_)
  conv=>whnf
  have e:Aq x p=C7 x p.a:=by unfold Aq;rw [if_neg k1,if_neg k2,if_pos k3]
  rw [e];exact C3 A0 () trivial rfl rfl rfl rfl B0
 refine ⟨fun k4=>have k4:=eq_of_beq k4;?_,fun k4=>have k4:=beq_eq_false_iff_ne.1 k4;?_⟩<;>conv=>whnf
 ·refine Ay (C0a x p.a p.b h og) hH hp rfl B0 rfl rfl (fun r hr=>go A0 false ?_)
  conv=>whnf
  have e:Aq x p=Ct x p.a p.b:=by unfold Aq;rw [if_neg k1,if_neg k2,if_neg k3,if_pos k4]
  rw [e];exact C3 A0 () trivial rfl rfl rfl rfl B0
 have hfl:=Xg (c:=x) (p:=p) k3 k4;refine ⟨fun k5=>have k5:=eq_of_beq k5;?_,fun k5=>have k5:=beq_eq_false_iff_ne.1 k5;?_⟩<;>conv=>whnf
 ·refine Ay (B11 x p.a p.b Ad og) hH hp rfl B0 rfl rfl (fun r hr=>go A0 false ?_)
  conv=>whnf
  have hz:rc (Aq x p).1=X6 (D4 x p.a p.b).1 (Bf x):=by
   have e:Aq x p=D4 x p.a p.b:=by unfold Aq;rw [if_neg k1,if_neg k2,if_neg k3,if_neg k4,if_pos k5]
   show X6 (Aq x p).1 (Bf (Aq x p).1)=_
   rw [hfl,e]
  have hv:(Aq x p).2=(D4 x p.a p.b).2:=by unfold Aq;rw [if_neg k1,if_neg k2,if_neg k3,if_neg k4,if_pos k5]
  rw [hz,hv];exact C3 A0 () trivial rfl rfl rfl rfl B0
 refine ⟨fun k6=>have k6:=eq_of_beq k6;?_,fun k6=>have k6:=beq_eq_false_iff_ne.1 k6;?_⟩<;>conv=>whnf
 ·refine Ay (B59 x p.a Ad) hH hp rfl B0 rfl rfl (fun r hr=>go A0 false ?_)
  conv=>whnf
  have hz:rc (Aq x p).1=X6 (Ci x p.a).1 (Bf x):=by
   have e:Aq x p=Ci x p.a:=by unfold Aq;rw [if_neg k1,if_neg k2,if_neg k3,if_neg k4,if_neg k5,if_pos k6]
   show X6 (Aq x p).1 (Bf (Aq x p).1)=_
   rw [hfl,e]
  have hv:(Aq x p).2=(Ci x p.a).2:=by unfold Aq;rw [if_neg k1,if_neg k2,if_neg k3,if_neg k4,if_neg k5,if_pos k6]
  rw [hz,hv];exact C3 A0 () trivial rfl rfl rfl rfl B0
 refine ⟨fun k7=>have k7:=eq_of_beq k7;?_,fun k7=>have k7:=beq_eq_false_iff_ne.1 k7;?_⟩<;>conv=>whnf
 ·refine Ay (B96 x p.a Ad) hH hp rfl B0 rfl rfl (fun r hr=>go A0 false ?_)
  conv=>whnf
  have hz:rc (Aq x p).1=X6 (Dj x p.a).1 (Bf x):=by
   have e:Aq x p=Dj x p.a:=by unfold Aq;rw [if_neg k1,if_neg k2,if_neg k3,if_neg k4,if_neg k5,if_neg k6,if_pos k7]
   show X6 (Aq x p).1 (Bf (Aq x p).1)=_
   rw [hfl,e]
  have hv:(Aq x p).2=(Dj x p.a).2:=by unfold Aq;rw [if_neg k1,if_neg k2,if_neg k3,if_neg k4,if_neg k5,if_neg k6,if_pos k7]
  rw [hz,hv];exact C3 A0 () trivial rfl rfl rfl rfl B0
 have e:Aq x p=(x,false):=by unfold Aq;rw [if_neg k1,if_neg k2,if_neg k3,if_neg k4,if_neg k5,if_neg k6,if_neg k7]
 rw [e];exact C3 A0 () trivial rfl rfl rfl rfl B0
set_option maxHeartbeats 4000000 in
theorem W0 (x:A3)(l:List D7)(h:x.w+4 * l.length≤8000000)(og:Gk .i64 x.graph.workers):B3 Tryz.prog 94 [.agg x.c,.one (El l)] [.agg (Bb x l).1.c,.one (Dw (Bb x l).2)]:=by
 refine Aw A0 false Tryz.func94 rfl B5 fun W=>?_;conv=>whnf
 have hp:M6 ⟨W,fun _=>False⟩ []:=fun _ h=>by cases h
 have hH:∀w,Be.rel ⟨W,fun _=>False⟩ w→True:=fun _ _=>trivial
 refine Xn (A4n x Ad) hp rfl (fun r hr=>go A0 false ?_);conv=>whnf
 refine Es 8 (Dw []) rfl Cq ?_
 refine Bk A0 false [11] (fun k:Nat=>[(8,.c (vi k))]) (fun k=>[⟨2,[.own 3,.c (vi (Bb x (l.take k)).1.graph.workers),.c (vi (Bb x (l.take k)).1.graph.cap),.own 4,.own 5,.own 6,.own 7,.c (vb (Bf (Bb x (l.take k)).1))]⟩,⟨1,[.c (.val (.slice none 0 0)),.c (vi 0),.c (vi 0),.c (.val (.slice none 0 0)),.c (.val (.slice none 0 0)),.c (.val (.slice none 0 0)),.c (.val (.slice none 0 0))]⟩]) (fun k=>[⟨8,Dw (Bb x (l.take k)).2⟩,⟨3,Bg (Bb x (l.take k)).1.graph.nodes⟩,⟨4,Ar (Bb x (l.take k)).1.workers⟩,⟨5,C4 (Bb x (l.take k)).1.links⟩,⟨6,Bm (Bb x (l.take k)).1.tokens⟩,⟨7,Cc (Bb x (l.take k)).1.news⟩])
  (fun k=>k≤l.length) (fun k=>l.length-k) 0 (Nat.zero_le _) ⟨F0,trivial⟩ C2 ⟨Dm,Dm,Dm,Dm,Dm,Dm,trivial⟩ C1 A6 (fun k hk=>?_)
 conv=>whnf
 conv=>whnf
 refine Eo (fun hlt=>?_) fun hlt=>?_<;>conv=>whnf
 ·have hlt:k<l.length:=by omega
  have hw:=X9 (c:=x) (l:=l.take k);have hn:=Vs (c:=x) (l:=l.take k);have ht:(l.take k).length=k:=by rw [List.length_take];omega
  have hs:=X8 (c:=x) hlt;(repeat refine Ap ?_);refine Ay (A9w (Bb x (l.take k)).1 (l.getD k default) Ad (by rw [U6];exact og)) hH hp rfl B0 rfl rfl (fun r2 hr2=>go A0 false ?_);conv=>whnf
  refine Bj A0 rfl rfl rfl rfl rfl rfl rfl rfl rfl rfl rfl (Dw ((Bb x (l.take k)).2++[(Aq (Bb x (l.take k)).1 (l.getD k default)).2])) (An rfl) C6 Ad (A7 ?_);(repeat refine Ap ?_);refine Az [(3,9),(4,10),(5,11),(6,12),(7,13),(8,15)] (k+1) Ad Ad ⟨rfl,trivial⟩ ⟨congrArg Dw (by rw [hs];rfl),congrArg (fun s:A3×List Bool=>Bg s.1.graph.nodes) hs.symm,congrArg (fun s:A3×List Bool=>Ar s.1.workers) hs.symm,congrArg (fun s:A3×List Bool=>C4 s.1.links) hs.symm,congrArg (fun s:A3×List Bool=>Bm s.1.tokens) hs.symm,congrArg (fun s:A3×List Bool=>Cc s.1.news) hs.symm,trivial⟩ (by rw [hs];repeat' (first|exact trivial|exact rfl|refine ⟨?_,?_⟩)) A6 C1 A6
 obtain rfl:k=l.length:=by omega
 rw [List.take_length]
 repeat refine B2 ?_
 refine Am A0 rfl rfl ?_;exact B0
set_option maxHeartbeats 4000000 in
theorem B58 (x:A3)(l:List D7)(h:x.w+4 * l.length≤8000000)(og:Gk .i64 x.graph.workers):E3 Tryz.prog (fun _=>True) 119 [] (rc x) [.one (El l)] (fun _:Unit=>True) (fun _=>rc (Bb x l).1) (fun _=>[.one (vi (cnt x l))]):=by
 refine Em A0 false Tryz.func119 rfl B5 fun B b hH hp=>?_;conv=>whnf
 refine Bk A0 false [] (fun k:Nat=>[(6,.c (vi k)),(5,.c (vi (cnt x (l.take k))))]) (fun k=>[⟨0,[.own 1,.c (vi (Bb x (l.take k)).1.graph.workers),.c (vi (Bb x (l.take k)).1.graph.cap),.own 2,.own 3,.own 4,.own 5,.c (vb (Bf (Bb x (l.take k)).1))]⟩]) (fun k=>[⟨1,Bg (Bb x (l.take k)).1.graph.nodes⟩,⟨2,Ar (Bb x (l.take k)).1.workers⟩,⟨3,C4 (Bb x (l.take k)).1.links⟩,⟨4,Bm (Bb x (l.take k)).1.tokens⟩,⟨5,Cc (Bb x (l.take k)).1.news⟩])
  (fun k=>k≤l.length) (fun k=>l.length-k) 0 (Nat.zero_le _) ⟨F0,F0,trivial⟩ C2 ⟨Dm,Dm,Dm,Dm,Dm,trivial⟩ C1 A6 (fun k hk=>?_)
 conv=>whnf
 conv=>whnf
 refine Eo (fun hlt=>?_) fun hlt=>?_<;>conv=>whnf
 ·have hlt:k<l.length:=by omega
  have hw:=X9 (c:=x) (l:=l.take k);have hn:=Vs (c:=x) (l:=l.take k);have ht:(l.take k).length=k:=by rw [List.length_take];omega
  have hs:=X8 (c:=x) hlt
  have hcn:cnt x (l.take (k+1))=cnt x (l.take k)+if (Aq (Bb x (l.take k)).1 (l.getD k default)).2=true then 1 else 0:=by
   unfold cnt;rw [hs]
   show ((((Bb x (l.take k)).2++[(Aq (Bb x (l.take k)).1 (l.getD k default)).2]).filter id)).length=_
   rw [List.filter_append,List.length_append]
   cases (Aq (Bb x (l.take k)).1 (l.getD k default)).2<;>rfl
  have hcl:cnt x (l.take k)≤k:=by
   unfold cnt;exact Nat.le_trans (List.length_filter_le _ _) Ad
  (repeat refine Ap ?_);refine Ay (A9w (Bb x (l.take k)).1 (l.getD k default) Ad (by rw [U6];exact og)) hH hp rfl B0 rfl rfl (fun r2 hr2=>go A0 false ?_);conv=>whnf
  refine ⟨fun hb=>?_,fun hb=>?_⟩<;>conv=>whnf
  ·rw [if_pos hb] at hcn
   (repeat refine Ap ?_);refine Az [(1,6),(2,7),(3,8),(4,9),(5,10)] (k+1) Ad Ad ⟨rfl,congrArg (fun n:Nat=>AV.c (vi (n:Int))) hcn.symm,trivial⟩ ⟨congrArg (fun s:A3×List Bool=>Bg s.1.graph.nodes) hs.symm,congrArg (fun s:A3×List Bool=>Ar s.1.workers) hs.symm,congrArg (fun s:A3×List Bool=>C4 s.1.links) hs.symm,congrArg (fun s:A3×List Bool=>Bm s.1.tokens) hs.symm,congrArg (fun s:A3×List Bool=>Cc s.1.news) hs.symm,trivial⟩ (by rw [hs];repeat' (first|exact trivial|exact rfl|refine ⟨?_,?_⟩)) A6 C1 A6
  rw [if_neg (by rw [hb];decide)] at hcn;(repeat refine Ap ?_);refine Az [(1,6),(2,7),(3,8),(4,9),(5,10)] (k+1) Ad Ad ⟨rfl,congrArg (fun n:Nat=>AV.c (vi (n:Int))) hcn.symm,trivial⟩ ⟨congrArg (fun s:A3×List Bool=>Bg s.1.graph.nodes) hs.symm,congrArg (fun s:A3×List Bool=>Ar s.1.workers) hs.symm,congrArg (fun s:A3×List Bool=>C4 s.1.links) hs.symm,congrArg (fun s:A3×List Bool=>Bm s.1.tokens) hs.symm,congrArg (fun s:A3×List Bool=>Cc s.1.news) hs.symm,trivial⟩ (by rw [hs];repeat' (first|exact trivial|exact rfl|refine ⟨?_,?_⟩)) A6 C1 A6
 obtain rfl:k=l.length:=by omega
 rw [List.take_length]
 repeat refine B2 ?_
 exact C3 A0 () trivial rfl rfl rfl rfl B0
set_option maxHeartbeats 4000000 in
theorem Rx (x:A3)(most:Int)(h:x.w≤6000000)(og:Gk .i64 x.graph.workers):B3 Tryz.prog 85 [.agg x.c,.one (vi most)] [.agg (Cy (Cx most 0 3000).toNat x).1.c,.one (vi (Cy (Cx most 0 3000).toNat x).2)]:=by
 have hb:=Fe most 0 3000 B5;have hal:=Oi x;obtain ⟨n,hn⟩:∃n:Nat,Cx most 0 3000=n:=⟨(Cx most 0 3000).toNat,by omega⟩;rw [hn,Int.toNat_natCast];refine Aw A0 false Tryz.func85 rfl B5 fun W=>?_;conv=>whnf
 have hp:M6 ⟨W,fun _=>False⟩ []:=fun _ h=>by cases h
 have hH:∀w,Be.rel ⟨W,fun _=>False⟩ w→True:=fun _ _=>trivial
 refine Xn (A4n x Ad) hp rfl (fun r hr=>go A0 false ?_);conv=>whnf
 refine Bd (A6s x) rfl (A7 ?_);refine As (M3 most 0 3000) rfl (A7 ?_);rw [hn]
 refine Bk A0 false [] (fun k:Nat=>[(8,.c (vi (k+1)))]) (fun k=>[⟨2,[.own 3,.c (vi (frN x k).graph.workers),.c (vi (frN x k).graph.cap),.own 4,.own 5,.own 6,.own 7,.c (vb (Bf (frN x k)))]⟩,⟨1,[.c (.val (.slice none 0 0)),.c (vi 0),.c (vi 0),.c (.val (.slice none 0 0)),.c (.val (.slice none 0 0)),.c (.val (.slice none 0 0)),.c (.val (.slice none 0 0))]⟩]) (fun k=>[⟨8,El (Mh (H1 x))⟩,⟨3,Bg (frN x k).graph.nodes⟩,⟨4,Ar (frN x k).workers⟩,⟨5,C4 (frN x k).links⟩,⟨6,Bm (frN x k).tokens⟩,⟨7,Cc (frN x k).news⟩])
  (fun k=>k≤n∧∀i,i<k→(C5 (frN x i)).2≠0) (fun k=>n-k) 0 ⟨Nat.zero_le _,by first|rfl|assumption|simp⟩ ⟨F0,trivial⟩ C2 ⟨Dm,Dm,Dm,Dm,Dm,Dm,trivial⟩ C1 A6 (fun k hk=>?_)
 obtain ⟨hk,he⟩:=hk;conv=>whnf
 conv=>whnf
 refine ⟨fun hlt=>?_,fun hlt=>?_⟩<;>conv=>whnf
 ·have hlt:k<n:=by have:=of_decide_eq_true hlt;omega
  have hw:=C25 x k;have hP:H1 (frN x k)=H1 x:=B9m (A34 x k)
  have hF1:(Bb (frN x k) (Mh (H1 x))).1=frN x (k+1):=by
   show _=(C5 (frN x k)).1
   unfold C5;rw [hP]
  have hF2:cnt (frN x k) (Mh (H1 x))=(C5 (frN x k)).2:=by
   unfold C5 cnt;rw [hP]
  refine Ay (B58 (frN x k) (Mh (H1 x)) Ad (by rw [A34];exact og)) hH hp rfl B0 rfl rfl (fun r2 hr2=>go A0 false ?_);conv=>whnf
  rw [hF1,hF2];refine ⟨fun h0=>have h0:=eq_of_beq h0;?_,fun h0=>have h0:=beq_eq_false_iff_ne.1 h0;?_⟩<;>conv=>whnf
  ·have h0:(C5 (frN x k)).2=0:=by omega
   repeat refine B2 ?_
   rw [Pk hlt he h0];refine Am A0 rfl rfl ?_;exact B0
  have h0:(C5 (frN x k)).2≠0:=by omega
  (repeat refine Ap ?_);refine Az [(3,9),(4,10),(5,11),(6,12),(7,13)] (k+1) ⟨by omega,fun i hi=>(Nat.lt_succ_iff_lt_or_eq.1 hi).elim (fun h4=>he i h4) (fun h4=>by subst h4;exact h0)⟩ Ad ⟨rfl,trivial⟩ ⟨rfl,rfl,rfl,rfl,rfl,rfl,trivial⟩ C2 A6 C1 A6
 have hlt:¬ k<n:=by have:=of_decide_eq_false hlt;omega
 obtain rfl:k=n:=by omega
 repeat refine B2 ?_
 rw [Pj he];refine Am A0 rfl rfl ?_;exact B0
set_option maxHeartbeats 4000000 in
theorem A2g (g:Ah)(l:List Aa)(e:Int)(hg:g.w≤1040000+8576)(hl:l.length≤1040000+8576):B3 Tryz.prog 52 [.agg g.c,.one (Af l),.one (vi e)] [.one (Ak (Hz g l e).1),.one (vb (Hz g l e).2)]:=by
 refine Aw A0 false Tryz.func52 rfl B5 fun W=>?_;conv=>whnf
 refine Bd (Rv g l Ad Ad) rfl (A7 ?_);refine ⟨fun hk=>?_,fun hk=>?_⟩<;>conv=>whnf
 ·have hk:(Aj g l).2=false:=by simpa using hk
  repeat refine B2 ?_
  rw [C26 hk];refine Jc 7 (Ak []) rfl Cq ?_;refine Am A0 rfl rfl ?_;exact B0
 have hk:(Aj g l).2=true:=by simpa using hk
 have h0:=B85 hk;have hw1:=A8y (g:=g) (l:=l);have hw2:=S7 3000 (Aj g l).1;have hl0:0<(Cy 3000 (Aj g l).1).1.workers.length:=by rw [A0j];exact h0
 have hwk:=A3.worker_le (Nat.le_refl (Cy 3000 (Aj g l).1).1.w) hl0
 repeat refine B2 ?_
 refine Bd (Rx (Aj g l).1 3000 Ad (C34 hk)) rfl (A7 ?_);rw [B7b];generalize hC:(Cy 3000 (Aj g l).1).1=C at *;(repeat refine Ap ?_);refine T0 A0 rfl rfl rfl rfl rfl (jn:=0) rfl (r:=Ab.c ((C.workers).getD (0) default)) rfl hl0 rfl rfl (fun u=>go A0 false ?_);conv=>whnf
 refine As (B12 (C.workers.getD 0 default) e Ad) rfl (A7 ?_);refine Mf 8 (0) [(0,12),(1,13),(2,14),(3,15),(4,16),(5,17),(6,18),(7,19)] (Ar C.workers) hl0 rfl rfl H3 rfl (D8 rfl) (G3 ?_);conv=>whnf
 first|(refine Ax 6 rfl [0,1,3,2,4,5,6,7,8,9,10] A6 (A7 ?_))
 refine Bd (A6u C e Ad) rfl (A7 ?_)
 repeat refine B2 ?_
 refine ⟨fun h5=>?_,fun h5=>?_⟩<;>conv=>whnf
 ·repeat refine B2 ?_
  rw [A5p hk,hC,h5];refine Am A0 rfl rfl ?_;exact B0
 repeat refine B2 ?_
 rw [A5p hk,hC,h5];refine Am A0 rfl rfl ?_;exact B0
theorem Xf (g:Ah)(l:List Aa)(e w k:Int)(hg:g.w≤1040000+8576)(hl:l.length≤1040000+8576):B3 Tryz.prog 8 [.agg g.c,.one (Af l),.one (vi e),.one (vi w),.one (vi k)] [.one (Ak (F8 g l e w k).1),.one (vb (F8 g l e w k).2)]:=by
 refine Aw A0 false Tryz.func8 rfl B5 fun W=>?_;conv=>whnf
 refine Bd (Qn g w Ad) rfl (A7 ?_);refine Bd (Yf {g with workers:=w} k (by show g.w≤_;omega)) rfl (A7 ?_)
 refine Bd (A2g {g with workers:=w,cap:=k} l e hg hl) rfl (A7 ?_);refine Am A0 rfl rfl ?_;exact B0
def Sq (c d:A3):Prop:=d.workers.length=c.workers.length∧d.links.length=c.links.length∧d.tokens.length=c.tokens.length∧d.graph=c.graph
theorem A1f (c:A3):Sq c c:=⟨rfl,rfl,rfl,rfl⟩
theorem Sq.trans {a b c:A3}(h:Sq a b)(g:Sq b c):Sq a c:=⟨g.1.trans h.1,g.2.1.trans h.2.1,g.2.2.1.trans h.2.2.1,g.2.2.2.trans h.2.2.2⟩
theorem B6e (c:A3)(p:D7):Sq c (Aq c p).1:=by
 unfold Aq
 split
 ·unfold Dk;split<;>simp [Sq,Av]
 split
 ·unfold D9;split<;>simp [Sq,Av]
 split
 ·unfold C7;(repeat' split)<;>simp [Sq,Av,Bi]
 split
 ·unfold Ct;split<;>simp [Sq,Av,Bi]
 split
 ·unfold D4;split<;>simp [Sq,Bi]
 split
 ·unfold Ci Gw;dsimp only;(repeat' split)<;>simp [Sq,Av,De,Jl]
 split
 ·unfold Dj;(repeat' split)<;>simp [Sq,Av,Jd]
 exact A1f c
theorem Si (c:A3)(l:List D7):Sq c (Bb c l).1:=by
 have:∀(l:List D7) (s:A3×List Bool),Sq s.1 (l.foldl G8 s).1:=by
  intro l
  induction l with
  |nil=>intro s;exact A1f _
  |cons p l ih=>intro s;exact (B6e s.1 p).trans (ih (G8 s p))
 exact this l (c,[])
theorem A5m (n:Nat):∀c:A3,Sq c (Cy n c).1:=by
 induction n with
 |zero=>intro c;exact A1f c
 |succ n ih=>
  intro c;rw [Cy]
  split
  ·exact Si c _
  exact (Si c _).trans (ih _)
def Z4 (c:A3):Prop:=∃(g:Ah) (ins:List Aa) (pk:List D7) (m:Nat),(Z5 g∧Wc g)∧Ui ins∧pk.length≤40∧m≤11∧c=(Cy m (Bb (Aj g ins).1 pk).1).1
structure C3e (c:A3):Prop where
 w:c.w≤5000
 k:0<c.workers.length
 l:0<c.links.length
 t:c.tokens.length=4
 g:(1≤c.graph.workers∧c.graph.workers≤3)∧c.graph.w≤64
theorem Pi {c:A3}(h:Z4 c):C3e c:=by
 obtain ⟨g,ins,pk,m,⟨hgd,hgs⟩,hin,hpk,hm,rfl⟩:=h;have hN:=Vc hgs hin;have hw:=A8y (g:=g) (l:=ins);have hr:=X9 (c:=(Aj g ins).1) (l:=pk);have hf:=S7 m (Bb (Aj g ins).1 pk).1;have hgw:=hgd.1;obtain ⟨h1,h2,h3,h4⟩:=(Si (Aj g ins).1 pk).trans (A5m m (Bb (Aj g ins).1 pk).1);have hw1:=hgs.1;have hn:0<g.workers.toNat:=by omega
 have e1:(Aj g ins).1.workers.length=g.workers.toNat:=by rw [J3 hN];exact Re _ _ _
 have e2:(Aj g ins).1.links.length=g.workers.toNat * g.workers.toNat:=by rw [J3 hN];exact List.length_replicate
 have e3:(Aj g ins).1.tokens.length=4:=by rw [J3 hN];rfl
 have e4:(Aj g ins).1.graph=g:=by rw [J3 hN]
 refine ⟨by omega,by rw [h1,e1];exact hn,by rw [h2,e2];exact Nat.mul_pos hn hn,h3.trans e3,?_⟩;rw [h4,e4];exact ⟨hw1,hgw⟩
theorem B71 (c:A3):c=(Cy 0 c).1:=rfl
set_option maxHeartbeats 4000000 in
theorem A0d (d:Ey)(i h:Int)(hi:0≤i∧i≤d.n):E3 Tryz.prog HT 66 d.pins (d.cur i h) [] (fun r:Int×Int×A3=>(0≤r.1∧r.1≤d.n)∧Z4 r.2.2) (fun r=>d.cur r.1 r.2.1) (fun r=>[.agg r.2.2.c]):=by
 refine Em A0 false Tryz.func66 rfl B5 fun B b hH hp=>?_;conv=>whnf
 refine Ay (Wo d i h hi) hH hp rfl B0 rfl rfl (fun r hr=>go A0 false ?_);conv=>whnf
 refine Ay (Wp d r.1 r.2.1 hr.1) hH hp rfl B0 rfl rfl (fun r2 hr2=>go A0 false ?_);conv=>whnf
 have hN:=Vc hr.2.2 hr2.2;have hgw:=hr.2.1.1;have hil:=hr2.2.1;have hw:=A8y (g:=r.2.2) (l:=r2.2.2);have hgC:(Aj r.2.2 r2.2.2).1.graph=r.2.2:=by rw [J3 hN]
 have hww:=hr.2.2.1;refine Bd (Rv r.2.2 r2.2.2 Ad Ad) rfl (A7 ?_);refine Gs rfl ?_;refine Bt A0 false 1 rfl rfl rfl A6 rfl (A4 Br) ?_;refine A5 [0,2] A6 ⟨?_,?_,trivial⟩
 focus
  refine A7 ?_;refine Ag (A5 [2] A6 ⟨A7 ?_,trivial⟩);refine Ay (A7w d r2.1 r2.2.1 40 B5 hr2.1) hH hp rfl B0 rfl rfl (fun r3 hr3=>go A0 false ?_);conv=>whnf
  refine Ag (A5 [3] A6 ⟨A7 ?_,trivial⟩);refine Bd (W0 (Aj r.2.2 r2.2.2).1 r3.2.2 (by have:=hr3.2;omega) (by rw [hgC];show _∧_;omega)) rfl (A7 ?_)
  refine Ag ?_;refine Bt A0 false 4 rfl rfl rfl A6 rfl (A4 Br) ?_;refine A5 [5,6] A6 ⟨?_,?_,trivial⟩
  focus
   refine A7 ?_;refine Ag ?_;refine A5 [6,7] A6 ⟨?_,?_,trivial⟩
   focus
    refine A7 ?_;refine Ag ?_;refine A5 [7] A6 ⟨?_,trivial⟩
   rotate_left 1
   focus
    refine A7 ?_;refine Ag ?_;refine A5 [6] A6 ⟨?_,trivial⟩
  rotate_left 2
  focus
   refine A7 ?_;refine Ag (A5 [5] A6 ⟨A7 ?_,trivial⟩);refine Ag ?_;refine A5 [7] A6 ⟨?_,trivial⟩
 rotate_left 3
 focus
  refine A7 ?_;refine Ay (A7w d r2.1 r2.2.1 40 B5 hr2.1) hH hp rfl B0 rfl rfl (fun r3 hr3=>go A0 false ?_);conv=>whnf
  refine Ag (A5 [0] A6 ⟨A7 ?_,trivial⟩);refine Ag (A5 [3] A6 ⟨A7 ?_,trivial⟩);refine Bd (W0 (Aj r.2.2 r2.2.2).1 r3.2.2 (by have:=hr3.2;omega) (by rw [hgC];show _∧_;omega)) rfl (A7 ?_)
  refine Ag ?_;refine Bt A0 false 4 rfl rfl rfl A6 rfl (A4 Br) ?_;refine A5 [5,6] A6 ⟨?_,?_,trivial⟩
  focus
   refine A7 ?_;refine Ag ?_;refine A5 [6,7] A6 ⟨?_,?_,trivial⟩
   focus
    refine A7 ?_;refine Ag ?_;refine A5 [7] A6 ⟨?_,trivial⟩
   rotate_left 1
   focus
    refine A7 ?_;refine Ag ?_;refine A5 [6] A6 ⟨?_,trivial⟩
  rotate_left 2
  focus
   refine A7 ?_;refine Ag (A5 [5] A6 ⟨A7 ?_,trivial⟩);refine Ag ?_;refine A5 [7] A6 ⟨?_,trivial⟩
 all_goals
  refine A7 ?_;refine Ag (Gr A6 (A7 ?_))
 all_goals
  have hpk:=hr3.2;have hrw:=X9 (c:=(Aj r.2.2 r2.2.2).1) (l:=r3.2.2);have hgX:(Bb (Aj r.2.2 r2.2.2).1 r3.2.2).1.graph=r.2.2:=(Si _ _).2.2.2.trans hgC;refine Ay (Up d r3.1 r3.2.1 4 hr3.1 B5) hH hp rfl B0 rfl rfl (fun r4 hr4=>go A0 false ?_);conv=>whnf
  refine ⟨fun c0=>?_,fun c0=>?_⟩<;>conv=>whnf
  ·refine Gs rfl ?_
   refine Bt A0 false 1 rfl rfl rfl A6 rfl (A4 Br) ?_;refine A5 [0,2] A6 ⟨?_,?_,trivial⟩
   focus
    refine A7 ?_;refine Ag (A5 [2] A6 ⟨A7 ?_,trivial⟩);refine Ay (Au d r4.1 r4.2.1 12 hr4 B5) hH hp rfl B0 rfl rfl (fun r5 hr5=>go A0 false ?_);conv=>whnf
    refine Ag (A5 [3] A6 ⟨A7 ?_,trivial⟩);refine Bd (Rx (Bb (Aj r.2.2 r2.2.2).1 r3.2.2).1 r5.2.2 Ad (by rw [hgX];show _∧_;omega)) rfl (A7 ?_)
    refine Ag ?_;refine Bt A0 false 4 rfl rfl rfl A6 rfl (A4 Br) ?_;refine A5 [5,6] A6 ⟨?_,?_,trivial⟩
    focus
     refine A7 ?_;refine Ag ?_;refine A5 [6,7] A6 ⟨?_,?_,trivial⟩
     focus
      refine A7 ?_;refine Ag ?_;refine A5 [7] A6 ⟨?_,trivial⟩
     rotate_left 1
     focus
      refine A7 ?_;refine Ag ?_;refine A5 [6] A6 ⟨?_,trivial⟩
    rotate_left 2
    focus
     refine A7 ?_;refine Ag (A5 [5] A6 ⟨A7 ?_,trivial⟩);refine Ag ?_;refine A5 [7] A6 ⟨?_,trivial⟩
   rotate_left 3
   focus
    refine A7 ?_;refine Ay (Au d r4.1 r4.2.1 12 hr4 B5) hH hp rfl B0 rfl rfl (fun r5 hr5=>go A0 false ?_);conv=>whnf
    refine Ag (A5 [0] A6 ⟨A7 ?_,trivial⟩);refine Ag (A5 [3] A6 ⟨A7 ?_,trivial⟩);refine Bd (Rx (Bb (Aj r.2.2 r2.2.2).1 r3.2.2).1 r5.2.2 Ad (by rw [hgX];show _∧_;omega)) rfl (A7 ?_)
    refine Ag ?_;refine Bt A0 false 4 rfl rfl rfl A6 rfl (A4 Br) ?_;refine A5 [5,6] A6 ⟨?_,?_,trivial⟩
    focus
     refine A7 ?_;refine Ag ?_;refine A5 [6,7] A6 ⟨?_,?_,trivial⟩
     focus
      refine A7 ?_;refine Ag ?_;refine A5 [7] A6 ⟨?_,trivial⟩
     rotate_left 1
     focus
      refine A7 ?_;refine Ag ?_;refine A5 [6] A6 ⟨?_,trivial⟩
    rotate_left 2
    focus
     refine A7 ?_;refine Ag (A5 [5] A6 ⟨A7 ?_,trivial⟩);refine Ag ?_;refine A5 [7] A6 ⟨?_,trivial⟩
   all_goals
    refine A7 ?_;refine Ag (Gr A6 (A7 ?_))
   all_goals
    have hb:(Cx r5.2.2 0 3000).toNat≤11:=by have h1:=hr5.2.2.2 B5;have h2:=hr5.2.1;unfold Cx;(repeat' split)<;>omega
    exact C3 A0 (r5.1,r5.2.1,(Cy (Cx r5.2.2 0 3000).toNat (Bb (Aj r.2.2 r2.2.2).1 r3.2.2).1).1) ⟨hr5.1,r.2.2,r2.2.2,r3.2.2,_,hr.2,hr2.2,hpk,hb,rfl⟩ rfl rfl rfl rfl B0
  repeat refine B2 ?_
  exact C3 A0 (r4.1,r4.2.1,(Bb (Aj r.2.2 r2.2.2).1 r3.2.2).1) ⟨hr4,r.2.2,r2.2.2,r3.2.2,0,hr.2,hr2.2,hpk,by decide,B71 _⟩ rfl rfl rfl rfl B0
end Go.Proofs.YtdendlkeiaccpaaGreat
