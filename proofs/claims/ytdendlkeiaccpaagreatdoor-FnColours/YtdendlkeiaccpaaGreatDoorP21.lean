/- Part 21 of the proof that each of the laws FnColours returns true for every input. No conditions. -/
import Derived.Test.YtdendlkeiaccpaaGreatDoorP20

set_option linter.unusedSimpArgs false
set_option linter.unusedVariables false
set_option maxRecDepth 100000
namespace Go.Proofs.YtdendlkeiaccpaaGreatDoor
open Go.Sx
theorem A45 {n es:Nat}{row:Nat→List Af}{j off:Nat}{r cs:List Af}:Nz n es (Fh row j r) j off cs (.sl n es (Fh row j (Dc r off cs))):=
 ⟨_,rfl,fun i _ hne=>by rw [Jx _ _ _ _ hne,Jx _ _ _ _ hne],by rw [Cw,Cw]⟩
set_option maxHeartbeats 8000000 in
theorem Y5 (x:A3)(e:Int)(h:x.w≤16000000)(hgo:M6 x):Be Tryz.prog 51 [.agg x.c,.one (vi e)] [.agg (Bc x e).1.c,.one (vb (Bc x e).2)]:=by
 refine B5 A0 false Tryz.func51 rfl Az fun W=>?_
 conv=>whnf
 refine Cn (Ul x Ac) rfl (A8 ?_)
 refine At (Y2 x Ac hgo) rfl (A8 ?_)
 refine ⟨fun hC=>?_,fun hC=>?_⟩<;>conv=>whnf
 ·repeat refine Bd ?_
  refine Ap A0 rfl rfl ?_
  rw [Nx (fun p=>by rw [show B9 x=true from decide_eq_true p.1] at hC;exact absurd hC Az)]
  exact B1
 have hC:As x:=of_decide_eq_true (show B9 x=true by simpa using hC)
 have hl0:1≤x.workers.length:=by have:=hC.1.2.1;have:=hC.1.1.2.1;omega
 have htl:x.tokens.length=4:=hC.1.2.2.2
 have hwl4:x.workers.length≤4:=by have:=hC.1.2.1;have:=hC.1.1.2.1;omega
 repeat refine Bd ?_
 refine At (I3 e 0 3) rfl (A8 ?_)
 repeat refine Bd ?_
 refine ⟨fun hE=>?_,fun hE=>?_⟩<;>conv=>whnf
 ·repeat refine Bd ?_
  refine Ap A0 rfl rfl ?_
  rw [Nx (fun p=>by have:=p.2.1;clear hC hgo p;simp only [beq_iff_eq,beq_eq_false_iff_ne,bne_iff_ne,bne_eq_false_iff_eq,Bool.not_eq_true',Bool.not_eq_false',Go.Sx.Ah,Go.Sx.Aw,decide_eq_true_eq,decide_eq_false_iff_not,ne_eq,Int.not_lt,Int.not_le,ge_iff_le,gt_iff_lt,Int.toNat_zero,Int.toNat_one,Int.toNat_natCast] at *;omega)]
  exact B1
 have hE:0≤e∧e≤3:=by clear hC hgo;simp only [beq_iff_eq,beq_eq_false_iff_ne,bne_iff_ne,bne_eq_false_iff_eq,Bool.not_eq_true',Bool.not_eq_false',Go.Sx.Ah,Go.Sx.Aw,decide_eq_true_eq,decide_eq_false_iff_not,ne_eq,Int.not_lt,Int.not_le,ge_iff_le,gt_iff_lt,Int.toNat_zero,Int.toNat_one,Int.toNat_natCast] at *;omega
 repeat refine Bd ?_
 (repeat refine An ?_)
 refine At (Wd (Ab x 0) e (by have:=A3.worker_le h (show 0<x.workers.length by omega);show (x.workers.getD 0 default).w≤_;omega)) rfl (A8 ?_)
 repeat refine Bd ?_
 refine ⟨fun hD=>?_,fun hD=>?_⟩<;>conv=>whnf
 ·repeat refine Bd ?_
  refine Ap A0 rfl rfl ?_
  rw [Nx (fun p=>by rw [p.2.2.1] at hD;cases hD)]
  exact B1
 have hE1:e<x.tokens.length:=by omega
 have htk:e.toNat<x.tokens.length:=by omega
 have hTP:=hC.2.2.2.1 _ (Ay (d:=default) htk)
 have hat:0≤(x.tokens.getD e.toNat default).at_∧(x.tokens.getD e.toNat default).at_<x.workers.length:=by
  have:=hC.1.2.1
  have:=hTP.1
  omega
 have hj:(x.tokens.getD e.toNat default).at_.toNat<x.workers.length:=by omega
 have hWP:=hC.2.1 _ (Ay (d:=default) hj)
 (repeat refine An ?_)
 first|(refine Ax 5 rfl [0,1,2,3,4,5,6,7] A7 (A8 ?_))|(refine Ax 17 rfl [0,1,2,3,4,5,6,7,8,9,10,11,12,13,14] A7 (A8 ?_))|(refine Ax 20 rfl [0,1,2,3,4,5,6,7,8,9,10,11,12,13] A7 (A8 ?_))|(refine Ax 22 rfl [0,1,2,3,4,5,6,7,8,9,10,11,12,13,14] A7 (A8 ?_))|(refine Ax 9 rfl [0,1,2,3,4,5,6,7,8,9,10,11,12,13,14,15,16,17,18,19,20,21,22,23,24,25,26,27,28,29] A7 (A8 ?_))
 refine ⟨by exact hat,?_⟩
 conv=>whnf
 (repeat refine An ?_)
 refine S9 A0 rfl rfl rfl rfl rfl (jn:=(x.tokens.getD e.toNat default).at_.toNat) rfl (r:=Aa.c ((x.workers).getD ((x.tokens.getD e.toNat default).at_.toNat) default)) rfl hj rfl rfl (fun u=>go A0 false ?_)
 conv=>whnf
 refine At (Q2 (x.workers.getD (x.tokens.getD e.toNat default).at_.toNat default) e (by have:=A3.worker_le h hj;omega)) rfl ?_
 refine A8 ?_
 refine ⟨fun hP=>?_,fun hP=>?_⟩<;>conv=>whnf
 ·repeat refine Bd ?_
  rw [Nx (fun p=>by have q:=p.2.2.2;rw [show Ab x (A9 x e).at_=x.workers.getD (x.tokens.getD e.toNat default).at_.toNat default from rfl] at q;rw [q] at hP;cases hP)]
  refine Ej Tryz.prog 3 ((x.tokens.getD e.toNat default).at_.toNat) [(0,8),(1,9),(2,10),(3,11),(4,12),(5,13),(6,14),(7,15)] (Al (x.workers)) hj rfl rfl G2 rfl (Ck rfl) ?_
  refine Ap A0 rfl rfl ?_
  exact B1
 have hP:Ch (x.workers.getD (x.tokens.getD e.toNat default).at_.toNat default) e=true:=by simpa using hP
 have hT:K7 x e:=⟨hC,hE,hD,hP⟩
 obtain ⟨hL1,hL2,hL3⟩:=hWP.2.1
 have hs1:=hTP.2.2
 have hbl:e.toNat<(Ab x (A9 x e).at_).black.length:=by
  show e.toNat<(x.workers.getD (x.tokens.getD e.toNat default).at_.toNat default).black.length
  omega
 have hs2:Gj ((x.workers.getD (x.tokens.getD e.toNat default).at_.toNat default).sums.getD e.toNat default):=hWP.2.2.2.1 _ (Ay Ac)
 simp only [Gj] at hs2
 have hdl:(x.workers.getD (x.tokens.getD e.toNat default).at_.toNat default).dones.length≤16000000:=by have:=A3.worker_le h hj;simp only [Aa.w] at this;omega
 have hnl:=A3.news_le h
 have hwl:=A3.workers_le h
 repeat refine Bd ?_
 refine ⟨fun hg=>?_,fun hg=>?_⟩<;>conv=>whnf
 ·have hg:(A9 x e).going=false:=by simpa [A9] using hg
  first|(refine Ax 5 rfl [0,1,2,3,4,5,6,7] A7 (A8 ?_))|(refine Ax 17 rfl [0,1,2,3,4,5,6,7,8,9,10,11,12,13,14] A7 (A8 ?_))|(refine Ax 20 rfl [0,1,2,3,4,5,6,7,8,9,10,11,12,13] A7 (A8 ?_))|(refine Ax 22 rfl [0,1,2,3,4,5,6,7,8,9,10,11,12,13,14] A7 (A8 ?_))|(refine Ax 9 rfl [0,1,2,3,4,5,6,7,8,9,10,11,12,13,14,15,16,17,18,19,20,21,22,23,24,25,26,27,28,29] A7 (A8 ?_))
  (repeat refine An ?_)
  refine Je A0 rfl rfl rfl rfl rfl rfl (jn:=(x.tokens.getD e.toNat default).at_.toNat) rfl (Cw _ _ _) rfl (A8 ?_)
  refine Fz 132 14 rfl rfl (A8 ?_)
  (repeat refine An ?_)
  refine Am (j:=e) A0 rfl rfl rfl rfl rfl rfl rfl rfl (Bo (x.tokens.set e.toNat ⟨true,(x.workers.length:Int)-1,0,false,(Ab x (A9 x e).at_).caps.getD e.toNat default⟩)) (C6 htk rfl) (A8 ?_)
  refine Je A0 rfl rfl rfl rfl rfl rfl (jn:=(x.tokens.getD e.toNat default).at_.toNat) rfl (Cw _ _ _) rfl (A8 ?_)
  refine Fz 145 13 rfl rfl (A8 ?_)
  (repeat refine An ?_)
  refine Am (j:=e) A0 rfl rfl rfl rfl rfl rfl rfl rfl (Dq ((Ab x (A9 x e).at_).black.set e.toNat false)) (C6 hbl rfl) (A8 ?_)
  rw [Tm hT hg]
  refine Ej Tryz.prog 3 ((x.tokens.getD e.toNat default).at_.toNat) [(0,8),(1,9),(2,10),(3,11),(4,12),(5,13),(6,14),(7,15)] (Al ((x.workers.set (x.tokens.getD e.toNat default).at_.toNat (Ef (Ab x (A9 x e).at_) e)))) hj rfl rfl G2 rfl (Fw hj rfl) ?_
  refine Ap A0 rfl rfl ?_
  exact B1
 have hg:(A9 x e).going=true:=by simpa [A9] using hg
 refine ⟨fun hA=>?_,fun hA=>?_⟩<;>conv=>whnf
 ·have hA:(A9 x e).at_>0:=of_decide_eq_true hA
  first|(refine Ax 5 rfl [0,1,2,3,4,5,6,7] A7 (A8 ?_))|(refine Ax 17 rfl [0,1,2,3,4,5,6,7,8,9,10,11,12,13,14] A7 (A8 ?_))|(refine Ax 20 rfl [0,1,2,3,4,5,6,7,8,9,10,11,12,13] A7 (A8 ?_))|(refine Ax 22 rfl [0,1,2,3,4,5,6,7,8,9,10,11,12,13,14] A7 (A8 ?_))|(refine Ax 9 rfl [0,1,2,3,4,5,6,7,8,9,10,11,12,13,14,15,16,17,18,19,20,21,22,23,24,25,26,27,28,29] A7 (A8 ?_))
  (repeat refine An ?_)
  refine Je A0 rfl rfl rfl rfl rfl rfl (jn:=(x.tokens.getD e.toNat default).at_.toNat) rfl (Cw _ _ _) rfl (A8 ?_)
  refine Fz 161 12 rfl rfl (A8 ?_)
  (repeat refine An ?_)
  refine At (I3 _ (-1000000) 1000000) rfl ?_
  refine A8 ?_
  refine ⟨fun hS=>?_,fun hS=>?_⟩<;>conv=>whnf
  ·repeat refine Bd ?_
   rw [A8s hT hg hA (fun p=>by have q:Di _ (-1000000) 1000000=false:=(Bool.not_eq_true' _).mp hS;exact absurd ((Go.Sx.Ah.2 p).symm.trans q) Az)]
   refine Ej Tryz.prog 3 ((x.tokens.getD e.toNat default).at_.toNat) [(0,8),(1,9),(2,10),(3,11),(4,12),(5,13),(6,14),(7,15)] (Al (x.workers)) hj rfl rfl G2 rfl (Ck rfl) ?_
   refine Ap A0 rfl rfl ?_
   exact B1
  have hS:Gj ((A9 x e).sum+(Ab x (A9 x e).at_).sums.getD e.toNat default):=Go.Sx.Ah.1 ((Bool.not_eq_false' _).mp hS)
  repeat refine Bd ?_
  first|(refine Ax 5 rfl [0,1,2,3,4,5,6,7] A7 (A8 ?_))|(refine Ax 17 rfl [0,1,2,3,4,5,6,7,8,9,10,11,12,13,14] A7 (A8 ?_))|(refine Ax 20 rfl [0,1,2,3,4,5,6,7,8,9,10,11,12,13] A7 (A8 ?_))|(refine Ax 22 rfl [0,1,2,3,4,5,6,7,8,9,10,11,12,13,14] A7 (A8 ?_))|(refine Ax 9 rfl [0,1,2,3,4,5,6,7,8,9,10,11,12,13,14,15,16,17,18,19,20,21,22,23,24,25,26,27,28,29] A7 (A8 ?_))
  (repeat refine An ?_)
  refine Je A0 rfl rfl rfl rfl rfl rfl (jn:=(x.tokens.getD e.toNat default).at_.toNat) rfl (Cw _ _ _) rfl (A8 ?_)
  refine Fz 176 12 rfl rfl (A8 ?_)
  (repeat refine An ?_)
  refine Am (j:=e) A0 rfl rfl rfl rfl rfl rfl rfl rfl (Bo (x.tokens.set e.toNat ⟨(A9 x e).going,(A9 x e).at_,(A9 x e).sum+(Ab x (A9 x e).at_).sums.getD e.toNat default,(A9 x e).black,(A9 x e).capped⟩)) (C6 htk rfl) (A8 ?_)
  refine ⟨fun hb=>?_,fun hb=>?_⟩<;>conv=>whnf
  ·have hb:(A9 x e).black=true:=by rw [Sx.getD_set_self _ _ _ _ htk] at hb;exact hb
   repeat refine Bd ?_
   (repeat refine An ?_)
   refine Am (j:=e) A0 rfl rfl rfl rfl rfl rfl rfl rfl (Bo (x.tokens.set e.toNat ⟨(A9 x e).going,(A9 x e).at_,(A9 x e).sum+(Ab x (A9 x e).at_).sums.getD e.toNat default,(A9 x e).black||(Ab x (A9 x e).at_).black.getD e.toNat default,(A9 x e).capped⟩)) (Ie htk (by rw [hb];rfl)) (A8 ?_)
   refine ⟨fun hc=>?_,fun hc=>?_⟩<;>conv=>whnf
   ·have hc:(A9 x e).capped=true:=by rw [Sx.getD_set_self _ _ _ _ htk] at hc;exact hc
    repeat refine Bd ?_
    (repeat refine An ?_)
    refine Am (j:=e) A0 rfl rfl rfl rfl rfl rfl rfl rfl (Bo (x.tokens.set e.toNat ⟨(A9 x e).going,(A9 x e).at_,(A9 x e).sum+(Ab x (A9 x e).at_).sums.getD e.toNat default,(A9 x e).black||(Ab x (A9 x e).at_).black.getD e.toNat default,(A9 x e).capped||(Ab x (A9 x e).at_).caps.getD e.toNat default⟩)) (Ie htk (by rw [hc];rfl)) (A8 ?_)
    refine Je A0 rfl rfl rfl rfl rfl rfl (jn:=(x.tokens.getD e.toNat default).at_.toNat) rfl (Cw _ _ _) rfl (A8 ?_)
    refine Fz 218 13 rfl rfl (A8 ?_)
    (repeat refine An ?_)
    refine Am (j:=e) A0 rfl rfl rfl rfl rfl rfl rfl rfl (Dq ((Ab x (A9 x e).at_).black.set e.toNat false)) (C6 hbl rfl) (A8 ?_)
    refine ⟨by (rw [Sx.getD_set_self _ _ _ _ htk];have q:0≤(A9 x e).at_∧(A9 x e).at_<x.workers.length:=hat;show _≤(A9 x e).at_-1∧(A9 x e).at_-1≤_;omega),?_⟩
    conv=>whnf
    refine Am (j:=e) A0 rfl rfl rfl rfl rfl rfl rfl rfl (Bo (x.tokens.set e.toNat ⟨true,(A9 x e).at_-1,(A9 x e).sum+(Ab x (A9 x e).at_).sums.getD e.toNat default,(A9 x e).black||(Ab x (A9 x e).at_).black.getD e.toNat default,(A9 x e).capped||(Ab x (A9 x e).at_).caps.getD e.toNat default⟩)) (Ie htk (by rw [Sx.getD_set_self _ _ _ _ htk,hg];rfl)) (A8 ?_)
    rw [Jk hT hg hA hS]
    refine Ej Tryz.prog 3 ((x.tokens.getD e.toNat default).at_.toNat) [(0,8),(1,9),(2,10),(3,11),(4,12),(5,13),(6,14),(7,15)] (Al ((x.workers.set (x.tokens.getD e.toNat default).at_.toNat (Ef (Ab x (A9 x e).at_) e)))) hj rfl rfl G2 rfl (Fw hj rfl) ?_
    refine Ap A0 rfl rfl ?_
    exact B1
   have hc:(A9 x e).capped=false:=by rw [Sx.getD_set_self _ _ _ _ htk] at hc;exact hc
   repeat refine Bd ?_
   refine Je A0 rfl rfl rfl rfl rfl rfl (jn:=(x.tokens.getD e.toNat default).at_.toNat) rfl (Cw _ _ _) rfl (A8 ?_)
   repeat refine Bd ?_
   refine Fz 208 14 rfl rfl (A8 ?_)
   repeat refine Bd ?_
   (repeat refine An ?_)
   refine Am (j:=e) A0 rfl rfl rfl rfl rfl rfl rfl rfl (Bo (x.tokens.set e.toNat ⟨(A9 x e).going,(A9 x e).at_,(A9 x e).sum+(Ab x (A9 x e).at_).sums.getD e.toNat default,(A9 x e).black||(Ab x (A9 x e).at_).black.getD e.toNat default,(A9 x e).capped||(Ab x (A9 x e).at_).caps.getD e.toNat default⟩)) (Ie htk (by rw [hc];rfl)) (A8 ?_)
   refine Je A0 rfl rfl rfl rfl rfl rfl (jn:=(x.tokens.getD e.toNat default).at_.toNat) rfl (Cw _ _ _) rfl (A8 ?_)
   refine Fz 218 13 rfl rfl (A8 ?_)
   (repeat refine An ?_)
   refine Am (j:=e) A0 rfl rfl rfl rfl rfl rfl rfl rfl (Dq ((Ab x (A9 x e).at_).black.set e.toNat false)) (C6 hbl rfl) (A8 ?_)
   refine ⟨by (rw [Sx.getD_set_self _ _ _ _ htk];have q:0≤(A9 x e).at_∧(A9 x e).at_<x.workers.length:=hat;show _≤(A9 x e).at_-1∧(A9 x e).at_-1≤_;omega),?_⟩
   conv=>whnf
   refine Am (j:=e) A0 rfl rfl rfl rfl rfl rfl rfl rfl (Bo (x.tokens.set e.toNat ⟨true,(A9 x e).at_-1,(A9 x e).sum+(Ab x (A9 x e).at_).sums.getD e.toNat default,(A9 x e).black||(Ab x (A9 x e).at_).black.getD e.toNat default,(A9 x e).capped||(Ab x (A9 x e).at_).caps.getD e.toNat default⟩)) (Ie htk (by rw [Sx.getD_set_self _ _ _ _ htk,hg];rfl)) (A8 ?_)
   rw [Jk hT hg hA hS]
   refine Ej Tryz.prog 3 ((x.tokens.getD e.toNat default).at_.toNat) [(0,8),(1,9),(2,10),(3,11),(4,12),(5,13),(6,14),(7,15)] (Al ((x.workers.set (x.tokens.getD e.toNat default).at_.toNat (Ef (Ab x (A9 x e).at_) e)))) hj rfl rfl G2 rfl (Fw hj rfl) ?_
   refine Ap A0 rfl rfl ?_
   exact B1
  have hb:(A9 x e).black=false:=by rw [Sx.getD_set_self _ _ _ _ htk] at hb;exact hb
  repeat refine Bd ?_
  refine Je A0 rfl rfl rfl rfl rfl rfl (jn:=(x.tokens.getD e.toNat default).at_.toNat) rfl (Cw _ _ _) rfl (A8 ?_)
  repeat refine Bd ?_
  refine Fz 192 13 rfl rfl (A8 ?_)
  repeat refine Bd ?_
  (repeat refine An ?_)
  refine Am (j:=e) A0 rfl rfl rfl rfl rfl rfl rfl rfl (Bo (x.tokens.set e.toNat ⟨(A9 x e).going,(A9 x e).at_,(A9 x e).sum+(Ab x (A9 x e).at_).sums.getD e.toNat default,(A9 x e).black||(Ab x (A9 x e).at_).black.getD e.toNat default,(A9 x e).capped⟩)) (Ie htk (by rw [hb];rfl)) (A8 ?_)
  refine ⟨fun hc=>?_,fun hc=>?_⟩<;>conv=>whnf
  ·have hc:(A9 x e).capped=true:=by rw [Sx.getD_set_self _ _ _ _ htk] at hc;exact hc
   repeat refine Bd ?_
   (repeat refine An ?_)
   refine Am (j:=e) A0 rfl rfl rfl rfl rfl rfl rfl rfl (Bo (x.tokens.set e.toNat ⟨(A9 x e).going,(A9 x e).at_,(A9 x e).sum+(Ab x (A9 x e).at_).sums.getD e.toNat default,(A9 x e).black||(Ab x (A9 x e).at_).black.getD e.toNat default,(A9 x e).capped||(Ab x (A9 x e).at_).caps.getD e.toNat default⟩)) (Ie htk (by rw [hc];rfl)) (A8 ?_)
   refine Je A0 rfl rfl rfl rfl rfl rfl (jn:=(x.tokens.getD e.toNat default).at_.toNat) rfl (Cw _ _ _) rfl (A8 ?_)
   refine Fz 218 13 rfl rfl (A8 ?_)
   (repeat refine An ?_)
   refine Am (j:=e) A0 rfl rfl rfl rfl rfl rfl rfl rfl (Dq ((Ab x (A9 x e).at_).black.set e.toNat false)) (C6 hbl rfl) (A8 ?_)
   refine ⟨by (rw [Sx.getD_set_self _ _ _ _ htk];have q:0≤(A9 x e).at_∧(A9 x e).at_<x.workers.length:=hat;show _≤(A9 x e).at_-1∧(A9 x e).at_-1≤_;omega),?_⟩
   conv=>whnf
   refine Am (j:=e) A0 rfl rfl rfl rfl rfl rfl rfl rfl (Bo (x.tokens.set e.toNat ⟨true,(A9 x e).at_-1,(A9 x e).sum+(Ab x (A9 x e).at_).sums.getD e.toNat default,(A9 x e).black||(Ab x (A9 x e).at_).black.getD e.toNat default,(A9 x e).capped||(Ab x (A9 x e).at_).caps.getD e.toNat default⟩)) (Ie htk (by rw [Sx.getD_set_self _ _ _ _ htk,hg];rfl)) (A8 ?_)
   rw [Jk hT hg hA hS]
   refine Ej Tryz.prog 3 ((x.tokens.getD e.toNat default).at_.toNat) [(0,8),(1,9),(2,10),(3,11),(4,12),(5,13),(6,14),(7,15)] (Al ((x.workers.set (x.tokens.getD e.toNat default).at_.toNat (Ef (Ab x (A9 x e).at_) e)))) hj rfl rfl G2 rfl (Fw hj rfl) ?_
   refine Ap A0 rfl rfl ?_
   exact B1
  have hc:(A9 x e).capped=false:=by rw [Sx.getD_set_self _ _ _ _ htk] at hc;exact hc
  repeat refine Bd ?_
  refine Je A0 rfl rfl rfl rfl rfl rfl (jn:=(x.tokens.getD e.toNat default).at_.toNat) rfl (Cw _ _ _) rfl (A8 ?_)
  repeat refine Bd ?_
  refine Fz 208 14 rfl rfl (A8 ?_)
  repeat refine Bd ?_
  (repeat refine An ?_)
  refine Am (j:=e) A0 rfl rfl rfl rfl rfl rfl rfl rfl (Bo (x.tokens.set e.toNat ⟨(A9 x e).going,(A9 x e).at_,(A9 x e).sum+(Ab x (A9 x e).at_).sums.getD e.toNat default,(A9 x e).black||(Ab x (A9 x e).at_).black.getD e.toNat default,(A9 x e).capped||(Ab x (A9 x e).at_).caps.getD e.toNat default⟩)) (Ie htk (by rw [hc];rfl)) (A8 ?_)
  refine Je A0 rfl rfl rfl rfl rfl rfl (jn:=(x.tokens.getD e.toNat default).at_.toNat) rfl (Cw _ _ _) rfl (A8 ?_)
  refine Fz 218 13 rfl rfl (A8 ?_)
  (repeat refine An ?_)
  refine Am (j:=e) A0 rfl rfl rfl rfl rfl rfl rfl rfl (Dq ((Ab x (A9 x e).at_).black.set e.toNat false)) (C6 hbl rfl) (A8 ?_)
  refine ⟨by (rw [Sx.getD_set_self _ _ _ _ htk];have q:0≤(A9 x e).at_∧(A9 x e).at_<x.workers.length:=hat;show _≤(A9 x e).at_-1∧(A9 x e).at_-1≤_;omega),?_⟩
  conv=>whnf
  refine Am (j:=e) A0 rfl rfl rfl rfl rfl rfl rfl rfl (Bo (x.tokens.set e.toNat ⟨true,(A9 x e).at_-1,(A9 x e).sum+(Ab x (A9 x e).at_).sums.getD e.toNat default,(A9 x e).black||(Ab x (A9 x e).at_).black.getD e.toNat default,(A9 x e).capped||(Ab x (A9 x e).at_).caps.getD e.toNat default⟩)) (Ie htk (by rw [Sx.getD_set_self _ _ _ _ htk,hg];rfl)) (A8 ?_)
  rw [Jk hT hg hA hS]
  refine Ej Tryz.prog 3 ((x.tokens.getD e.toNat default).at_.toNat) [(0,8),(1,9),(2,10),(3,11),(4,12),(5,13),(6,14),(7,15)] (Al ((x.workers.set (x.tokens.getD e.toNat default).at_.toNat (Ef (Ab x (A9 x e).at_) e)))) hj rfl rfl G2 rfl (Fw hj rfl) ?_
  refine Ap A0 rfl rfl ?_
  exact B1
 have hA:¬ (A9 x e).at_>0:=of_decide_eq_false hA
 have hz:(x.tokens.getD e.toNat default).at_=0:=by
  have:¬ (x.tokens.getD e.toNat default).at_>0:=hA
  omega
 (repeat refine An ?_)
 refine Am (j:=e) A0 rfl rfl rfl rfl rfl rfl rfl rfl (Bo (x.tokens.set e.toNat ⟨false,(A9 x e).at_,(A9 x e).sum,(A9 x e).black,(A9 x e).capped⟩)) (C6 htk rfl) (A8 ?_)
 first|(refine Ax 5 rfl [0,1,2,3,4,5,6,7] A7 (A8 ?_))|(refine Ax 17 rfl [0,1,2,3,4,5,6,7,8,9,10,11,12,13,14] A7 (A8 ?_))|(refine Ax 20 rfl [0,1,2,3,4,5,6,7,8,9,10,11,12,13] A7 (A8 ?_))|(refine Ax 22 rfl [0,1,2,3,4,5,6,7,8,9,10,11,12,13,14] A7 (A8 ?_))|(refine Ax 9 rfl [0,1,2,3,4,5,6,7,8,9,10,11,12,13,14,15,16,17,18,19,20,21,22,23,24,25,26,27,28,29] A7 (A8 ?_))
 (repeat refine An ?_)
 refine ⟨fun hb=>?_,fun hb=>?_⟩<;>conv=>whnf
 ·have hb:(A9 x e).black=false:=by rw [Sx.getD_set_self _ _ _ _ htk] at hb;simpa [A9] using hb
  repeat refine Bd ?_
  refine Je A0 rfl rfl rfl rfl rfl rfl (jn:=(x.tokens.getD e.toNat default).at_.toNat) rfl (Cw _ _ _) rfl (A8 ?_)
  repeat refine Bd ?_
  refine Fz 60 13 rfl rfl (A8 ?_)
  repeat refine Bd ?_
  (repeat refine An ?_)
  refine ⟨fun hw=>?_,fun hw=>?_⟩<;>conv=>whnf
  ·have hw:(Ab x (A9 x e).at_).black.getD e.toNat default=false:=by simpa [A9,Ab] using hw
   repeat refine Bd ?_
   refine Je A0 rfl rfl rfl rfl rfl rfl (jn:=(x.tokens.getD e.toNat default).at_.toNat) rfl (Cw _ _ _) rfl (A8 ?_)
   repeat refine Bd ?_
   refine Fz 74 12 rfl rfl (A8 ?_)
   repeat refine Bd ?_
   (repeat refine An ?_)
   refine ⟨by (rw [Sx.getD_set_self _ _ _ _ htk];have q: -1000000≤(A9 x e).sum∧(A9 x e).sum≤1000000:=hs1;show _≤(A9 x e).sum+_∧(A9 x e).sum+_≤_;omega),?_⟩
   conv=>whnf
   repeat refine Bd ?_
   refine ⟨fun hs=>?_,fun hs=>?_⟩<;>conv=>whnf
   ·have hs:(A9 x e).sum+(Ab x (A9 x e).at_).sums.getD e.toNat default=0:=by rw [Sx.getD_set_self _ _ _ _ htk] at hs;exact eq_of_beq hs
    have hyes:=And.intro hb (And.intro hw hs)
    have hz':∀c w,B3 c 0 w=B3 c (x.tokens.getD e.toNat default).at_ w:=fun c w=>by rw [hz]
    repeat refine Bd ?_
    refine ⟨fun hc=>?_,fun hc=>?_⟩<;>conv=>whnf
    ·have hc:(A9 x e).capped=true:=by rw [Sx.getD_set_self _ _ _ _ htk] at hc;exact hc
     have hcap:((A9 x e).capped||(Ab x (A9 x e).at_).caps.getD e.toNat default)=true:=by rw [hc];rfl
     repeat refine Bd ?_
     (repeat refine An ?_)
     refine Je A0 rfl rfl rfl rfl rfl rfl (jn:=(x.tokens.getD e.toNat default).at_.toNat) rfl (Cw _ _ _) rfl (A8 ?_)
     refine Fz 98 15 rfl rfl (A8 ?_)
     (repeat refine An ?_)
     refine B6 A0 rfl rfl rfl rfl rfl rfl rfl rfl rfl rfl rfl (G1 ((Ab x (A9 x e).at_).dones++[⟨e,true⟩])) (Ad rfl) Bp Ac (A8 ?_)
     (repeat refine An ?_)
     refine Am (j:=(x.tokens.getD e.toNat default).at_) A0 rfl rfl rfl rfl rfl rfl rfl rfl _ A45 ?_
     refine M4 3 ((x.tokens.getD e.toNat default).at_.toNat) [(0,8),(1,9),(2,10),(3,11),(4,12),(5,13),(6,14)] (Al (x.workers.set (x.tokens.getD e.toNat default).at_.toNat (Ct (Ab x (A9 x e).at_) ⟨e,true⟩))) hj rfl rfl G2 rfl (Fw hj rfl) (I5 ?_)
     conv=>whnf
     refine C0 A0 false [11,12,13,14,15,16,17,18,19,20,21,22,23,24,25,26,27,28,29,30,31,32,33,34,35,36,37,38,39,40,41,42,43,44,45,46,47,48,49,50,51,52,53,54,55,56,57,58,59,60,61,62,63,64,65,66,67,68,69,70,71,72,73,74,75,76,77,78,79,80,81,82,83,84,85,86,87,88,89,90,91,92,93,94,95,96,97,98,99,100,101,102,103,104,105,106,107,108,109,110,111,112,113,114,115,116,117,118,119,120,121] (fun k:Nat=>[(10,.c (vi (k+1)))]) (fun k=>[⟨7,[.own 2,.c (vi x.graph.workers),.c (vi x.graph.cap),.own 3,.own 4,.own 5,.own 6]⟩,⟨1,[.c (.val (.slice none 0 0)),.c (vi 0),.c (vi 0),.c (.val (.slice none 0 0)),.c (.val (.slice none 0 0)),.c (.val (.slice none 0 0)),.c (.val (.slice none 0 0))]⟩,⟨0,[.c (Bn x.graph.nodes),.c (vi x.graph.workers),.c (vi x.graph.cap),.c (Al x.workers),.c (Cf x.links),.c (Bo x.tokens),.c (C5 x.news)]⟩]) (fun k=>[⟨2,Bn x.graph.nodes⟩,⟨3,Al (x.workers.set (x.tokens.getD e.toNat default).at_.toNat (Ct (Ab x (A9 x e).at_) ⟨e,true⟩))⟩,⟨4,Cf x.links⟩,⟨5,Bo (x.tokens.set e.toNat ⟨false,(A9 x e).at_,(A9 x e).sum,(A9 x e).black,(A9 x e).capped⟩)⟩,⟨6,C5 (x.news++Gd e (true) k)⟩])
      (fun k=>k≤(x.workers.length-1)) (fun k=>(x.workers.length-1)-k) 0 (Nat.zero_le _) ⟨G3,trivial⟩ Cg ⟨Ek,Ek,Ek,Ek,Ek,trivial⟩ Co A7 (fun k hk=>?_)
     conv=>whnf
     refine F4 (fun hg2=>?_) fun hg2=>?_<;>conv=>whnf
     ·refine B6 A0 rfl rfl rfl rfl rfl rfl rfl rfl rfl rfl rfl (C5 (x.news++Gd e (true) k++[⟨k+1,e,true⟩])) (Ad rfl) Bp (by rw [List.length_append,Ta];omega) (A8 ?_)
      (repeat refine An ?_)
      refine B8 [(0,0),(1,1),(2,2),(3,3),(4,4),(5,5),(6,19),(7,7)] (k+1) Ac Ac ⟨by rw [Int.natCast_add];rfl,trivial⟩ ⟨rfl,rfl,rfl,rfl,by show (_:Af)=_;rw [R1,←List.append_assoc],trivial⟩ Cg A7 Co A7
     obtain rfl:k=x.workers.length-1:=by omega
     repeat refine Bd ?_
     rw [Jj hT hg hA,F2,if_pos hyes,hcap,hz']
     refine Ap A0 rfl rfl ?_
     exact B1
    have hc:(A9 x e).capped=false:=by rw [Sx.getD_set_self _ _ _ _ htk] at hc;exact hc
    have hcap:((A9 x e).capped||(Ab x (A9 x e).at_).caps.getD e.toNat default)=(Ab x (A9 x e).at_).caps.getD e.toNat default:=by rw [hc];rfl
    repeat refine Bd ?_
    refine Je A0 rfl rfl rfl rfl rfl rfl (jn:=(x.tokens.getD e.toNat default).at_.toNat) rfl (Cw _ _ _) rfl (A8 ?_)
    repeat refine Bd ?_
    refine Fz 89 14 rfl rfl (A8 ?_)
    repeat refine Bd ?_
    (repeat refine An ?_)
    refine Je A0 rfl rfl rfl rfl rfl rfl (jn:=(x.tokens.getD e.toNat default).at_.toNat) rfl (Cw _ _ _) rfl (A8 ?_)
    refine Fz 98 15 rfl rfl (A8 ?_)
    (repeat refine An ?_)
    refine B6 A0 rfl rfl rfl rfl rfl rfl rfl rfl rfl rfl rfl (G1 ((Ab x (A9 x e).at_).dones++[⟨e,((Ab x (A9 x e).at_).caps.getD e.toNat default)⟩])) (Ad rfl) Bp Ac (A8 ?_)
    (repeat refine An ?_)
    refine Am (j:=(x.tokens.getD e.toNat default).at_) A0 rfl rfl rfl rfl rfl rfl rfl rfl _ A45 ?_
    refine M4 3 ((x.tokens.getD e.toNat default).at_.toNat) [(0,8),(1,9),(2,10),(3,11),(4,12),(5,13),(6,14)] (Al (x.workers.set (x.tokens.getD e.toNat default).at_.toNat (Ct (Ab x (A9 x e).at_) ⟨e,((Ab x (A9 x e).at_).caps.getD e.toNat default)⟩))) hj rfl rfl G2 rfl (Fw hj rfl) (I5 ?_)
    conv=>whnf
    refine C0 A0 false [11,12,13,14,15,16,17,18,19,20,21,22,23,24,25,26,27,28,29,30,31,32,33,34,35,36,37,38,39,40,41,42,43,44,45,46,47,48,49,50,51,52,53,54,55,56,57,58,59,60,61,62,63,64,65,66,67,68,69,70,71,72,73,74,75,76,77,78,79,80,81,82,83,84,85,86,87,88,89,90,91,92,93,94,95,96,97,98,99,100,101,102,103,104,105,106,107,108,109,110,111,112,113,114,115,116,117,118,119,120,121] (fun k:Nat=>[(10,.c (vi (k+1)))]) (fun k=>[⟨7,[.own 2,.c (vi x.graph.workers),.c (vi x.graph.cap),.own 3,.own 4,.own 5,.own 6]⟩,⟨1,[.c (.val (.slice none 0 0)),.c (vi 0),.c (vi 0),.c (.val (.slice none 0 0)),.c (.val (.slice none 0 0)),.c (.val (.slice none 0 0)),.c (.val (.slice none 0 0))]⟩,⟨0,[.c (Bn x.graph.nodes),.c (vi x.graph.workers),.c (vi x.graph.cap),.c (Al x.workers),.c (Cf x.links),.c (Bo x.tokens),.c (C5 x.news)]⟩]) (fun k=>[⟨2,Bn x.graph.nodes⟩,⟨3,Al (x.workers.set (x.tokens.getD e.toNat default).at_.toNat (Ct (Ab x (A9 x e).at_) ⟨e,((Ab x (A9 x e).at_).caps.getD e.toNat default)⟩))⟩,⟨4,Cf x.links⟩,⟨5,Bo (x.tokens.set e.toNat ⟨false,(A9 x e).at_,(A9 x e).sum,(A9 x e).black,(A9 x e).capped⟩)⟩,⟨6,C5 (x.news++Gd e (((Ab x (A9 x e).at_).caps.getD e.toNat default)) k)⟩])
     (fun k=>k≤(x.workers.length-1)) (fun k=>(x.workers.length-1)-k) 0 (Nat.zero_le _) ⟨G3,trivial⟩ Cg ⟨Ek,Ek,Ek,Ek,Ek,trivial⟩ Co A7 (fun k hk=>?_)
    conv=>whnf
    refine F4 (fun hg2=>?_) fun hg2=>?_<;>conv=>whnf
    ·refine B6 A0 rfl rfl rfl rfl rfl rfl rfl rfl rfl rfl rfl (C5 (x.news++Gd e (((Ab x (A9 x e).at_).caps.getD e.toNat default)) k++[⟨k+1,e,((Ab x (A9 x e).at_).caps.getD e.toNat default)⟩])) (Ad rfl) Bp (by rw [List.length_append,Ta];omega) (A8 ?_)
     (repeat refine An ?_)
     refine B8 [(0,0),(1,1),(2,2),(3,3),(4,4),(5,5),(6,19),(7,7)] (k+1) Ac Ac ⟨by rw [Int.natCast_add];rfl,trivial⟩ ⟨rfl,rfl,rfl,rfl,by show (_:Af)=_;rw [R1,←List.append_assoc],trivial⟩ Cg A7 Co A7
    obtain rfl:k=x.workers.length-1:=by omega
    repeat refine Bd ?_
    rw [Jj hT hg hA,F2,if_pos hyes,hcap,hz']
    refine Ap A0 rfl rfl ?_
    exact B1
   have hs:(A9 x e).sum+(Ab x (A9 x e).at_).sums.getD e.toNat default≠0:=by rw [Sx.getD_set_self _ _ _ _ htk] at hs;exact beq_eq_false_iff_ne.1 hs
   have hno:¬ ((A9 x e).black=false∧(Ab x (A9 x e).at_).black.getD e.toNat default=false∧(A9 x e).sum+(Ab x (A9 x e).at_).sums.getD e.toNat default=0):=fun p=>hs p.2.2
   repeat refine Bd ?_
   rw [Jj hT hg hA,F2,if_neg hno]
   refine Ej Tryz.prog 3 ((x.tokens.getD e.toNat default).at_.toNat) [(0,8),(1,9),(2,10),(3,11),(4,12),(5,13),(6,14),(7,15)] (Al (x.workers)) hj rfl rfl G2 rfl (Ck rfl) ?_
   refine Ap A0 rfl rfl ?_
   exact B1
  have hw:(Ab x (A9 x e).at_).black.getD e.toNat default=true:=by simpa [A9,Ab] using hw
  have hno:¬ ((A9 x e).black=false∧(Ab x (A9 x e).at_).black.getD e.toNat default=false∧(A9 x e).sum+(Ab x (A9 x e).at_).sums.getD e.toNat default=0):=fun p=>by rw [hw] at p;exact absurd p.2.1 Az
  repeat refine Bd ?_
  rw [Jj hT hg hA,F2,if_neg hno]
  refine Ej Tryz.prog 3 ((x.tokens.getD e.toNat default).at_.toNat) [(0,8),(1,9),(2,10),(3,11),(4,12),(5,13),(6,14),(7,15)] (Al (x.workers)) hj rfl rfl G2 rfl (Ck rfl) ?_
  refine Ap A0 rfl rfl ?_
  exact B1
 have hb:(A9 x e).black=true:=by rw [Sx.getD_set_self _ _ _ _ htk] at hb;simpa [A9] using hb
 have hno:¬ ((A9 x e).black=false∧(Ab x (A9 x e).at_).black.getD e.toNat default=false∧(A9 x e).sum+(Ab x (A9 x e).at_).sums.getD e.toNat default=0):=fun p=>by rw [hb] at p;exact absurd p.1 Az
 repeat refine Bd ?_
 rw [Jj hT hg hA,F2,if_neg hno]
 refine Ej Tryz.prog 3 ((x.tokens.getD e.toNat default).at_.toNat) [(0,8),(1,9),(2,10),(3,11),(4,12),(5,13),(6,14),(7,15)] (Al (x.workers)) hj rfl rfl G2 rfl (Ck rfl) ?_
 refine Ap A0 rfl rfl ?_
 exact B1
end Go.Proofs.YtdendlkeiaccpaaGreatDoor
