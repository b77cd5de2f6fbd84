/- Part 32 of the proof that each of the laws FnExactRunScriptOf, FnExactSpreadResult returns true for every input. No conditions. -/
import Derived.Test.YtlbmkgkmbjadcaaGreatP31

set_option linter.unusedSimpArgs false
set_option linter.unusedVariables false
set_option maxRecDepth 100000
namespace Go.Proofs.YtlbmkgkmbjadcaaGreat
open Go.Sx
theorem B2r {c:A4}{w:Int}(h:Bg c)(h2:(D0 c w).2=true)(h3:Bc c w≠w):B8 (D0 c w).1=decide (Hc (A1a c w)):=by
 rw [Pc h,if_pos ⟨h2,h3⟩]
theorem A9p {c:A4}{w:Int}(h:Bg c)(h3:Bc c w=w):B8 (D0 c w).1=true:=by
 rw [Pc h,if_neg (fun p=>p.2 h3)]
set_option maxHeartbeats 8000000 in
theorem B3h (x:A4)(w:Int)(h:x.w≤8000000)(og:G8 .i64 x.graph.workers):J0 Tryz.prog (fun _=>True) 146 [] (rc x) [.one (vi w)] (fun _:Unit=>True) (fun _=>rc (D0 x w).1) (fun _=>[.one (vb (D0 x w).2)]):=by
 have h:x.w≤16000000:=by omega
 refine Kl A0 false Tryz.func146 rfl Bs fun B b hH hp=>?_
 conv=>whnf
 refine K8 (A6h x w h) hH hp rfl C1 rfl rfl (fun r hr=>go A0 false ?_)
 conv=>whnf
 refine ⟨fun h1=>?_,fun h1=>?_⟩<;>conv=>whnf
 ·have h1:¬ G2 x w:=of_decide_eq_false (by simpa using h1)
  repeat refine B9 ?_
  rw [Mf (fun p=>h1 p.1)]
  exact Ez A0 () trivial rfl rfl rfl rfl C1
 have h1:G2 x w:=of_decide_eq_true (show decide (G2 x w)=true by simpa using h1)
 have hC:=h1.1
 have hb:=h1.2
 have hk:w.toNat<x.workers.length:=by omega
 have hw:=A4.worker_le h hk
 have hWP:=hC.2.1 _ (B2 (d:=default) hk)
 have hlw:=K6 (x.workers.getD w.toNat default)
 repeat refine B9 ?_
 refine Ij A0 rfl rfl rfl rfl rfl rfl (jn:=w.toNat) rfl rfl rfl (fun v=>go A0 false ?_)
 conv=>whnf
 repeat refine B9 ?_
 refine ⟨fun h2=>have h2:=eq_of_beq h2;?_,fun h2=>have h2:=beq_eq_false_iff_ne.1 h2;?_⟩<;>conv=>whnf
 ·repeat refine B9 ?_
  rw [Mf (fun p=>by have:=p.2;simp only [Ag] at this;omega)]
  refine F6 Tryz.prog 7 (w.toNat) [(1,11)] (Ap x.workers) hk rfl rfl Lw rfl (Cm rfl) ?_
  exact Ez A0 () trivial rfl rfl rfl rfl C1
 have h2':0<(x.workers.getD w.toNat default).staged.length:=by omega
 have h2:0<(Ag x w).staged.length:=h2'
 have hM:G2 x w∧0<(Ag x w).staged.length:=⟨h1,h2⟩
 have hR:Gx (Bi x w)∧(Bi x w).op<x.graph.nodes.length:=hWP.1.2.1 _ (B2 (d:=default) h2)
 have hgw:=hC.1.1.2.1
 have how:=A3s (k:=(Bi x w).key) (n:=x.graph.workers) hR.1.2.2.2.1.1 hgw.1
 have hwl:=hC.1.2.1
 have hcs:B8 x=true:=decide_eq_true hC
 repeat refine B9 ?_
 refine Ja A0 rfl rfl rfl rfl rfl rfl (jn:=w.toNat) rfl (Ct _ _ _) rfl (Ae ?_)
 refine A8p 35 11 rfl rfl (Ae ?_)
 (repeat refine An ?_)
 refine Kv 7 (w.toNat) [(1,11)] (Ap x.workers) hk rfl rfl Lw rfl (Cm rfl) (Iy ?_)
 conv=>whnf
 have hlk9:=hlw.1
 first|(refine Ak 4 rfl [0,1,2,3,4,5,6,7,8,9] A5 (Ae ?_))|(refine Ak 7 rfl [0,1,2,3,4,5,6,7,8,9,10,11,12,13,14,15] A5 (Ae ?_))|(refine Ak 10 rfl [0,1,2,3,4,5,6,7,8] A5 (Ae ?_))|(refine Ak 12 rfl [0,1,2,3,4,5,6,7,8,9,10,11,12,13,14,15,16,17,18,19,20] A5 (Ae ?_))|(refine Ak 13 rfl [0,1,2,3,4,5,7,8,9,10,11,12,13,14,15,16,6,17,18,19,20] A5 (Ae ?_))
 refine Ai (Ul (Bi x w).key x.graph.workers Ad) rfl (Ae ?_)
 refine ⟨fun h3=>have h3:=bne_iff_ne.1 h3;?_,fun h3=>have h3:=bne_eq_false_iff_eq.1 h3;?_⟩<;>conv=>whnf
 ·have h3:Bc x w≠w:=h3
  have hmt:0≤Bc x w∧Bc x w<x.graph.workers:=how
  have hln:=L7 hC (f:=w) (t:=Bc x w) Ad hmt
  have hlk:(Az x w (Bc x w)).toNat<x.links.length:=by omega
  have hll:=A4.link_le h hlk
  have hlp:Gq x.graph.workers w (E3 (Bi x w).key x.graph.workers)=Az x w (Bc x w):=Mm hgw Ad hmt
  have hs4:(Ag x w).sums.length=4:=hWP.2.1.1
  have hE:=hR.1.2.1
  have hsum:Hc ((Ag x w).sums.getD (Bi x w).stamp.epoch.toNat default):=hWP.2.2.2.1 _ (B2 (by show (Bi x w).stamp.epoch.toNat<(Ag x w).sums.length;omega))
  refine Ai (Mq x.graph w (E3 (Bi x w).key x.graph.workers) og) rfl (Ae ?_)
  rw [hlp]
  refine Gl rfl ?_
  refine Bk A0 false 0 rfl rfl A5 rfl (Af D7) ?_
  refine Bk A0 false 1 rfl rfl A5 rfl (Af D7) ?_
  refine Bk A0 false 2 rfl rfl A5 rfl (Af D7) ?_
  refine Bk A0 false 3 rfl rfl A5 rfl (Af D7) ?_
  refine Bk A0 false 5 rfl rfl A5 rfl (Af D7) ?_
  refine Cj (s':=?_) 4 rfl A5 ?_ ?_
  rotate_left
  refine go A0 false ?_
  conv=>whnf
  (repeat refine An ?_)
  exact Ax
  refine Cj (s':=?_) 6 rfl A5 ?_ ?_
  rotate_left
  refine go A0 false ?_
  conv=>whnf
  (repeat refine An ?_)
  exact Ax
  refine Pe (α:=Nat→Value) (s':=?_) 7 rfl A5 ?_ ?_
  rotate_left
  refine go A0 false ?_
  conv=>whnf
  refine Qg A0 rfl rfl rfl rfl rfl (jn:=(Az x w (Bc x w)).toNat) rfl (r:=As.c ((x.links).getD ((Az x w (Bc x w)).toNat) default)) rfl hlk rfl rfl (fun u=>go A0 false ?_)
  conv=>whnf
  exact Tx u
  intro u
  refine Cj (s':=?_) 8 rfl A5 ?_ ?_
  rotate_left
  refine go A0 false ?_
  conv=>whnf
  (repeat refine An ?_)
  exact Ax
  refine Cl [9,13] A5 ⟨?_,?_,trivial⟩
  focus
   refine go A0 false ?_
   conv=>whnf
   refine Av (Xw (Bv x (Az x w (Bc x w))) (Bi x w) (by show (x.links.getD _ default).w≤_;omega)) rfl (Ae ?_)
   refine Cw ?_
   refine Bk A0 false 10 rfl rfl A5 rfl (Af D7) ?_
   refine Kd (s':=?_) 11 rfl A5 ?_ ?_
   rotate_left
   refine go A0 false ?_
   conv=>whnf
   (repeat refine An ?_)
   exact Ax
   refine Kd (s':=?_) 12 rfl A5 ?_ ?_
   rotate_left
   refine go A0 false ?_
   conv=>whnf
   (repeat refine An ?_)
   exact Ax
   refine Cl [13] A5 ⟨?_,trivial⟩
   refine go A0 false ?_
   conv=>whnf
   (repeat refine An ?_)
   refine Cw ?_
   refine Cl [14] A5 ⟨?_,trivial⟩
   refine go A0 false ?_
   conv=>whnf
   (repeat refine An ?_)
   refine Cw ?_
   refine Bk A0 false 15 rfl rfl A5 rfl (Af D7) ?_
   refine Hh A5 (Ae ?_)
  rotate_left 1
  focus
   refine go A0 false ?_
   conv=>whnf
   (repeat refine An ?_)
   refine Cw ?_
   refine Cl [9] A5 ⟨?_,trivial⟩
   refine go A0 false ?_
   conv=>whnf
   refine Av (Xw (Bv x (Az x w (Bc x w))) (Bi x w) (by show (x.links.getD _ default).w≤_;omega)) rfl (Ae ?_)
   refine Cw ?_
   refine Bk A0 false 10 rfl rfl A5 rfl (Af D7) ?_
   refine Kd (s':=?_) 11 rfl A5 ?_ ?_
   rotate_left
   refine go A0 false ?_
   conv=>whnf
   (repeat refine An ?_)
   exact Ax
   refine Kd (s':=?_) 12 rfl A5 ?_ ?_
   rotate_left
   refine go A0 false ?_
   conv=>whnf
   (repeat refine An ?_)
   exact Ax
   refine Cl [14] A5 ⟨?_,trivial⟩
   refine go A0 false ?_
   conv=>whnf
   (repeat refine An ?_)
   refine Cw ?_
   refine Bk A0 false 15 rfl rfl A5 rfl (Af D7) ?_
   refine Hh A5 (Ae ?_)
  all_goals
   refine ⟨fun h4=>?_,fun h4=>?_⟩<;>conv=>whnf
   ·have h4:(D6 (Bv x (Az x w (Bc x w))) (Bi x w)).2=false:=by simpa using h4
    repeat refine B9 ?_
    rw [Qi hM h3 h4]
    refine F6 Tryz.prog 8 ((Az x w (Bc x w)).toNat) [(1,13)] (Bu x.links) hlk rfl rfl Lw rfl (Cm rfl) ?_
    exact Ez A0 () trivial rfl rfl rfl rfl C1
   ·have h4:(D6 (Bv x (Az x w (Bc x w))) (Bi x w)).2=true:=by simpa using h4
    have hyes:=Qj hM h3 h4
    have hfl:=B2r hC (show (D0 x w).2=true by rw [hyes]) h3
    repeat refine B9 ?_
    first|(refine Ak 4 rfl [0,1,2,3,4,5,6,7,8,9] A5 (Ae ?_))|(refine Ak 7 rfl [0,1,2,3,4,5,6,7,8,9,10,11,12,13,14,15] A5 (Ae ?_))|(refine Ak 10 rfl [0,1,2,3,4,5,6,7,8] A5 (Ae ?_))|(refine Ak 12 rfl [0,1,2,3,4,5,6,7,8,9,10,11,12,13,14,15,16,17,18,19,20] A5 (Ae ?_))|(refine Ak 13 rfl [0,1,2,3,4,5,7,8,9,10,11,12,13,14,15,16,6,17,18,19,20] A5 (Ae ?_))
    (repeat refine An ?_)
    refine Bj (j:=(Az x w (Bc x w))) A0 rfl rfl rfl rfl rfl rfl rfl rfl (Bu (Df x (Az x w (Bc x w)) (D6 (Bv x (Az x w (Bc x w))) (Bi x w)).1).links) (Fj hlk rfl) ?_
    refine go A0 false ?_
    conv=>whnf
    refine K8 (A79 (Df x (Az x w (Bc x w)) (D6 (Bv x (Az x w (Bc x w))) (Bi x w)).1) (B8 x) w (Bi x w).stamp.epoch 1 hb.1 hk hE.1 (by show (Bi x w).stamp.epoch.toNat<(Ag x w).sums.length;omega) hsum Bs) hH hp rfl C1 rfl rfl (fun r2 hr2=>go A0 false ?_)
    conv=>whnf
    have hk9:w.toNat<(C0 (Df x (Az x w (Bc x w)) (D6 (Bv x (Az x w (Bc x w))) (Bi x w)).1) w (Gj (Ag (Df x (Az x w (Bc x w)) (D6 (Bv x (Az x w (Bc x w))) (Bi x w)).1) w) (Bi x w).stamp.epoch 1)).workers.length:=by show w.toNat<(x.workers.set _ _).length;rw [List.length_set];exact hk
    have hg9:(C0 (Df x (Az x w (Bc x w)) (D6 (Bv x (Az x w (Bc x w))) (Bi x w)).1) w (Gj (Ag (Df x (Az x w (Bc x w)) (D6 (Bv x (Az x w (Bc x w))) (Bi x w)).1) w) (Bi x w).stamp.epoch 1)).workers.getD w.toNat default=Gj (Ag (Df x (Az x w (Bc x w)) (D6 (Bv x (Az x w (Bc x w))) (Bi x w)).1) w) (Bi x w).stamp.epoch 1:=V6 hk
    have hl9:((C0 (Df x (Az x w (Bc x w)) (D6 (Bv x (Az x w (Bc x w))) (Bi x w)).1) w (Gj (Ag (Df x (Az x w (Bc x w)) (D6 (Bv x (Az x w (Bc x w))) (Bi x w)).1) w) (Bi x w).stamp.epoch 1)).workers.getD w.toNat default).staged.length=(x.workers.getD w.toNat default).staged.length:=by rw [hg9];rfl
    have hl8:0<((C0 (Df x (Az x w (Bc x w)) (D6 (Bv x (Az x w (Bc x w))) (Bi x w)).1) w (Gj (Ag (Df x (Az x w (Bc x w)) (D6 (Bv x (Az x w (Bc x w))) (Bi x w)).1) w) (Bi x w).stamp.epoch 1)).workers.getD w.toNat default).staged.length:=by omega
    refine R5 0 3 17 rfl rfl (fun v8=>?_)
    refine Wy 0 3 rfl rfl (fun ho_v8=>?_)
    refine Gl rfl ?_
    refine Bk A0 false 0 rfl rfl A5 rfl (Af D7) ?_
    refine Bk A0 false 1 rfl rfl A5 rfl (Af D7) ?_
    refine Bk A0 false 2 rfl rfl A5 rfl (Af D7) ?_
    refine Bk A0 false 3 rfl rfl A5 rfl (Af D7) ?_
    refine Bk A0 false 5 rfl rfl A5 rfl (Af D7) ?_
    refine Bk A0 false 7 rfl rfl A5 rfl (Af D7) ?_
    refine Bk A0 false 8 rfl rfl A5 rfl (Af D7) ?_
    refine Bk A0 false 9 rfl rfl A5 rfl (Af D7) ?_
    refine Bk A0 false 10 rfl rfl A5 rfl (Af D7) ?_
    refine Bk A0 false 12 rfl rfl A5 rfl (Af D7) ?_
    refine Cj (s':=?_) 11 rfl A5 ?_ ?_
    rotate_left
    refine go A0 false ?_
    conv=>whnf
    refine A8p 118 17 rfl rfl (Ae ?_)
    (repeat refine An ?_)
    exact Ax
    refine Cj (s':=?_) 13 rfl A5 ?_ ?_
    rotate_left
    refine go A0 false ?_
    conv=>whnf
    (repeat refine An ?_)
    exact Ax
    refine Bk A0 false 14 rfl rfl A5 rfl (Af D7) ?_
    refine Pe (α:=Value) (s':=?_) 15 rfl A5 ?_ ?_
    rotate_left
    refine go A0 false ?_
    conv=>whnf
    refine Ij A0 rfl rfl rfl rfl rfl rfl (jn:=w.toNat) rfl rfl rfl (fun v9=>go A0 false ?_)
    conv=>whnf
    exact Tx v9
    intro v9
    refine Cj (s':=?_) 16 rfl A5 ?_ ?_
    rotate_left
    refine go A0 false ?_
    conv=>whnf
    refine A11 A0 rfl rfl rfl rfl rfl rfl rfl rfl (l:=1) rfl rfl (⟨by omega,by omega,by omega⟩) (A9 (((C0 (Df x (Az x w (Bc x w)) (D6 (Bv x (Az x w (Bc x w))) (Bi x w)).1) w (Gj (Ag (Df x (Az x w (Bc x w)) (D6 (Bv x (Az x w (Bc x w))) (Bi x w)).1) w) (Bi x w).stamp.epoch 1)).workers.getD w.toNat default).staged.drop 1)) (G9 (k:=1) hl8) (Ae ?_)
    exact Ax
    refine Jo [17,18,19,20] [⟨4,111,.rd v8⟩,⟨6,113,.emp 5⟩] A5 ?_
    refine Bf (s':=?_) A0 rfl A5 Jk ?_ ?_
    rotate_left
    refine go A0 false ?_
    conv=>whnf
    refine Bm A0 rfl rfl rfl rfl rfl rfl rfl rfl rfl rfl rfl (A9 (((C0 (Df x (Az x w (Bc x w)) (D6 (Bv x (Az x w (Bc x w))) (Bi x w)).1) w (Gj (Ag (Df x (Az x w (Bc x w)) (D6 (Bv x (Az x w (Bc x w))) (Bi x w)).1) w) (Bi x w).stamp.epoch 1)).workers.getD w.toNat default).staged.drop 1)) (B1) (fun _=>Ba _) (by (rw [List.length_drop];omega)) (Ae ?_)
    exact Ax
    refine Bf (s':=?_) A0 rfl A5 Jk ?_ ?_
    rotate_left
    refine go A0 false ?_
    conv=>whnf
    refine A8p 111 17 rfl rfl (Ae ?_)
    (repeat refine An ?_)
    exact Ax
    refine Bf (s':=?_) A0 rfl A5 Jk ?_ ?_
    rotate_left
    refine go A0 false ?_
    conv=>whnf
    (repeat refine An ?_)
    exact Ax
    refine Bf (s':=?_) A0 rfl A5 Jk ?_ ?_
    rotate_left
    refine go A0 false ?_
    conv=>whnf
    refine Bj (j:=w) A0 rfl rfl rfl rfl rfl rfl rfl rfl (Ap (C0 (C0 (Df x (Az x w (Bc x w)) (D6 (Bv x (Az x w (Bc x w))) (Bi x w)).1) w (Gj (Ag (Df x (Az x w (Bc x w)) (D6 (Bv x (Az x w (Bc x w))) (Bi x w)).1) w) (Bi x w).stamp.epoch 1)) w (E4 (Gj (Ag (Df x (Az x w (Bc x w)) (D6 (Bv x (Az x w (Bc x w))) (Bi x w)).1) w) (Bi x w).stamp.epoch 1))).workers) (Fj hk9 (by rw [hg9];rfl)) (Ae ?_)
    exact Ax
    refine I7 A0 A5 Jk (GW.out (Iy ?_))
    conv=>whnf
    refine A96 Tryz.prog (fun _ g=>R4 0 3 17 rfl rfl rfl g) ?_
    rw [L9]
    have hz:rc (D0 x w).1=Te (C0 (Df x (Az x w (Bc x w)) (D6 (Bv x (Az x w (Bc x w))) (Bi x w)).1) w (E4 (Gj (Ag (Df x (Az x w (Bc x w)) (D6 (Bv x (Az x w (Bc x w))) (Bi x w)).1) w) (Bi x w).stamp.epoch 1))) (B8 x&&Eg ((Ag (Df x (Az x w (Bc x w)) (D6 (Bv x (Az x w (Bc x w))) (Bi x w)).1) w).sums.getD (Bi x w).stamp.epoch.toNat default+1) (-1000000) 1000000):=by
     show Te (D0 x w).1 (B8 (D0 x w).1)=_
     rw [hfl,hyes,hcs,Bool.true_and,A4n,Sg (w:=E4 (Ag x w)) ⟨hE.1,by show (Bi x w).stamp.epoch<(Ag x w).sums.length;omega⟩]
     rfl
    rw [hz,hyes]
    exact Ez A0 () trivial rfl rfl rfl rfl C1
 ·have h3:Bc x w=w:=h3
  refine R5 0 3 7 rfl rfl (fun v2=>?_)
  refine Wy 0 3 rfl rfl (fun ho_v2=>?_)
  refine Gl rfl ?_
  refine Bk A0 false 0 rfl rfl A5 rfl (Af D7) ?_
  refine Bk A0 false 1 rfl rfl A5 rfl (Af D7) ?_
  refine Bk A0 false 2 rfl rfl A5 rfl (Af D7) ?_
  refine Bk A0 false 3 rfl rfl A5 rfl (Af D7) ?_
  refine Bk A0 false 5 rfl rfl A5 rfl (Af D7) ?_
  refine Bk A0 false 6 rfl rfl A5 rfl (Af D7) ?_
  refine Bk A0 false 7 rfl rfl A5 rfl (Af D7) ?_
  refine Bk A0 false 8 rfl rfl A5 rfl (Af D7) ?_
  refine Bk A0 false 9 rfl rfl A5 rfl (Af D7) ?_
  refine Bk A0 false 11 rfl rfl A5 rfl (Af D7) ?_
  refine Cj (s':=?_) 10 rfl A5 ?_ ?_
  rotate_left
  refine go A0 false ?_
  conv=>whnf
  refine A8p 97 7 rfl rfl (Ae ?_)
  (repeat refine An ?_)
  exact Ax
  refine Cj (s':=?_) 12 rfl A5 ?_ ?_
  rotate_left
  refine go A0 false ?_
  conv=>whnf
  (repeat refine An ?_)
  exact Ax
  refine Bk A0 false 13 rfl rfl A5 rfl (Af D7) ?_
  refine Pe (α:=Value) (s':=?_) 14 rfl A5 ?_ ?_
  rotate_left
  refine go A0 false ?_
  conv=>whnf
  refine Ij A0 rfl rfl rfl rfl rfl rfl (jn:=w.toNat) rfl rfl rfl (fun v3=>go A0 false ?_)
  conv=>whnf
  exact Tx v3
  intro v3
  refine Cj (s':=?_) 15 rfl A5 ?_ ?_
  rotate_left
  refine go A0 false ?_
  conv=>whnf
  (repeat refine An ?_)
  exact Ax
  refine Jo [16,17,18,19,20] [⟨4,91,.rd v2⟩] A5 ?_
  refine Bf (s':=?_) A0 rfl A5 Jk ?_ ?_
  rotate_left
  refine go A0 false ?_
  conv=>whnf
  (repeat refine An ?_)
  exact Ax
  refine Bf (s':=?_) A0 rfl A5 Jk ?_ ?_
  rotate_left
  refine go A0 false ?_
  conv=>whnf
  refine Bm A0 rfl rfl rfl rfl rfl rfl rfl rfl rfl rfl rfl (A9 ((x.workers.getD w.toNat default).queue++[Bi x w])) (Bh rfl) Ef Ad (Ae ?_)
  exact Ax
  refine Bf (s':=?_) A0 rfl A5 Jk ?_ ?_
  rotate_left
  refine go A0 false ?_
  conv=>whnf
  refine A8p 91 7 rfl rfl (Ae ?_)
  (repeat refine An ?_)
  exact Ax
  refine Bf (s':=?_) A0 rfl A5 Jk ?_ ?_
  rotate_left
  refine go A0 false ?_
  conv=>whnf
  (repeat refine An ?_)
  exact Ax
  refine Bf (s':=?_) A0 rfl A5 Jk ?_ ?_
  rotate_left
  refine go A0 false ?_
  conv=>whnf
  refine Bj (j:=w) A0 rfl rfl rfl rfl rfl rfl rfl rfl (Ap (C0 x w (kept (Ag x w) (Bi x w))).workers) (Fj hk rfl) (Ae ?_)
  exact Ax
  refine I7 A0 A5 Jk (GW.out (Iy ?_))
  conv=>whnf
  refine R4 0 3 7 rfl rfl rfl ?_
  have hk9:w.toNat<(C0 x w (kept (Ag x w) (Bi x w))).workers.length:=by show w.toNat<(x.workers.set _ _).length;rw [List.length_set];exact hk
  have hg9:(C0 x w (kept (Ag x w) (Bi x w))).workers.getD w.toNat default=kept (Ag x w) (Bi x w):=V6 hk
  have hl9:((C0 x w (kept (Ag x w) (Bi x w))).workers.getD w.toNat default).staged.length=(x.workers.getD w.toNat default).staged.length:=by rw [hg9];rfl
  have hl8:0<((C0 x w (kept (Ag x w) (Bi x w))).workers.getD w.toNat default).staged.length:=by omega
  refine R5 0 3 7 rfl rfl (fun v8=>?_)
  refine Wy 0 3 rfl rfl (fun ho_v8=>?_)
  refine Gl rfl ?_
  refine Bk A0 false 0 rfl rfl A5 rfl (Af D7) ?_
  refine Bk A0 false 1 rfl rfl A5 rfl (Af D7) ?_
  refine Bk A0 false 2 rfl rfl A5 rfl (Af D7) ?_
  refine Bk A0 false 3 rfl rfl A5 rfl (Af D7) ?_
  refine Bk A0 false 5 rfl rfl A5 rfl (Af D7) ?_
  refine Bk A0 false 7 rfl rfl A5 rfl (Af D7) ?_
  refine Bk A0 false 8 rfl rfl A5 rfl (Af D7) ?_
  refine Bk A0 false 9 rfl rfl A5 rfl (Af D7) ?_
  refine Bk A0 false 10 rfl rfl A5 rfl (Af D7) ?_
  refine Bk A0 false 12 rfl rfl A5 rfl (Af D7) ?_
  refine Cj (s':=?_) 11 rfl A5 ?_ ?_
  rotate_left
  refine go A0 false ?_
  conv=>whnf
  refine A8p 118 7 rfl rfl (Ae ?_)
  (repeat refine An ?_)
  exact Ax
  refine Cj (s':=?_) 13 rfl A5 ?_ ?_
  rotate_left
  refine go A0 false ?_
  conv=>whnf
  (repeat refine An ?_)
  exact Ax
  refine Bk A0 false 14 rfl rfl A5 rfl (Af D7) ?_
  refine Pe (α:=Value) (s':=?_) 15 rfl A5 ?_ ?_
  rotate_left
  refine go A0 false ?_
  conv=>whnf
  refine Ij A0 rfl rfl rfl rfl rfl rfl (jn:=w.toNat) rfl rfl rfl (fun v9=>go A0 false ?_)
  conv=>whnf
  exact Tx v9
  intro v9
  refine Cj (s':=?_) 16 rfl A5 ?_ ?_
  rotate_left
  refine go A0 false ?_
  conv=>whnf
  refine A11 A0 rfl rfl rfl rfl rfl rfl rfl rfl (l:=1) rfl rfl (⟨by omega,by omega,by omega⟩) (A9 (((C0 x w (kept (Ag x w) (Bi x w))).workers.getD w.toNat default).staged.drop 1)) (G9 (k:=1) hl8) (Ae ?_)
  exact Ax
  refine Jo [17,18,19,20] [⟨4,111,.rd v8⟩,⟨6,113,.emp 5⟩] A5 ?_
  refine Bf (s':=?_) A0 rfl A5 Jk ?_ ?_
  rotate_left
  refine go A0 false ?_
  conv=>whnf
  refine Bm A0 rfl rfl rfl rfl rfl rfl rfl rfl rfl rfl rfl (A9 (((C0 x w (kept (Ag x w) (Bi x w))).workers.getD w.toNat default).staged.drop 1)) (B1) (fun _=>Ba _) (by (rw [List.length_drop];omega)) (Ae ?_)
  exact Ax
  refine Bf (s':=?_) A0 rfl A5 Jk ?_ ?_
  rotate_left
  refine go A0 false ?_
  conv=>whnf
  refine A8p 111 7 rfl rfl (Ae ?_)
  (repeat refine An ?_)
  exact Ax
  refine Bf (s':=?_) A0 rfl A5 Jk ?_ ?_
  rotate_left
  refine go A0 false ?_
  conv=>whnf
  (repeat refine An ?_)
  exact Ax
  refine Bf (s':=?_) A0 rfl A5 Jk ?_ ?_
  rotate_left
  refine go A0 false ?_
  conv=>whnf
  refine Bj (j:=w) A0 rfl rfl rfl rfl rfl rfl rfl rfl (Ap (C0 (C0 x w (kept (Ag x w) (Bi x w))) w (E4 (kept (Ag x w) (Bi x w)))).workers) (Fj hk9 (by rw [hg9];rfl)) (Ae ?_)
  exact Ax
  refine I7 A0 A5 Jk (GW.out (Iy ?_))
  conv=>whnf
  refine A96 Tryz.prog (fun _ g=>R4 0 3 7 rfl rfl rfl g) ?_
  rw [L9]
  have hyes:=Sd hM h3
  have hz:rc (D0 x w).1=Te (C0 x w (E4 (kept (Ag x w) (Bi x w)))) (B8 x):=by
   show Te (D0 x w).1 (B8 (D0 x w).1)=_
   rw [A9p hC h3,hyes,hcs]
   rfl
  rw [hz,hyes]
  exact Ez A0 () trivial rfl rfl rfl rfl C1
end Go.Proofs.YtlbmkgkmbjadcaaGreat
