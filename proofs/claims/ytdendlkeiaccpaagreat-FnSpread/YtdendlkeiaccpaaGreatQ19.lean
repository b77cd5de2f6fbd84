/- Part 19 of the proof that each of the laws FnSpread returns true for every input. No conditions. -/
import Derived.Test.YtdendlkeiaccpaaGreatQ18
import Derived.Test.YtdendlkeiaccpaaGreatQ11
import Derived.Test.YtdendlkeiaccpaaGreatQ10
import Derived.Test.YtdendlkeiaccpaaGreatQ15
import Derived.Test.YtdendlkeiaccpaaGreatQ17
import Derived.Test.YtdendlkeiaccpaaGreatQ9

set_option linter.unusedSimpArgs false
set_option linter.unusedVariables false
set_option maxRecDepth 100000
namespace Go.Proofs.YtdendlkeiaccpaaGreat
open Go.Sx
theorem B0c {n es:Nat}{row:Nat→List Ai}{j off:Nat}{r cs:List Ai}:Qj n es (Ga row j r) j off cs (.sl n es (Ga row j (Ds r off cs))):=
 ⟨_,rfl,fun i _ hne=>by rw [Lg _ _ _ _ hne,Lg _ _ _ _ hne],by rw [Dg,Dg]⟩
set_option maxHeartbeats 8000000 in
theorem A24 (x:A3)(e:Int)(h:x.w≤16000000)(hgo:Kw x):B3 Tryz.prog 206 [.agg x.c,.one (vi e)] [.agg (Ci x e).1.c,.one (vb (Ci x e).2)]:=by
 refine Aw A0 false Tryz.func206 rfl B5 fun W=>?_;conv=>whnf
 refine Bd (Ew x Ad) rfl (A7 ?_);refine As (Li x Ad hgo) rfl (A7 ?_);refine ⟨fun hC=>?_,fun hC=>?_⟩<;>conv=>whnf
 ·repeat refine B2 ?_
  refine Am A0 rfl rfl ?_;rw [Qg (fun p=>by rw [show Bf x=true from decide_eq_true p.1] at hC;exact absurd hC B5)]
  exact B0
 have hC:B7 x:=of_decide_eq_true (show Bf x=true by simpa using hC)
 have hl0:1≤x.workers.length:=by have:=hC.1.2.1;have:=hC.1.1.2.1;omega
 have htl:x.tokens.length=4:=hC.1.2.2.2;have hwl4:x.workers.length≤4:=by have:=hC.1.2.1;have:=hC.1.1.2.1;omega
 repeat refine B2 ?_
 refine As (Ik e 0 3) rfl (A7 ?_)
 repeat refine B2 ?_
 refine ⟨fun hE=>?_,fun hE=>?_⟩<;>conv=>whnf
 ·repeat refine B2 ?_
  refine Am A0 rfl rfl ?_;rw [Qg (fun p=>by have:=p.2.1;clear hC hgo p;simp only [beq_iff_eq,beq_eq_false_iff_ne,bne_iff_ne,bne_eq_false_iff_eq,Bool.not_eq_true',Bool.not_eq_false',Go.Sx.Al,Go.Sx.B4,decide_eq_true_eq,decide_eq_false_iff_not,ne_eq,Int.not_lt,Int.not_le,ge_iff_le,gt_iff_lt,Int.toNat_zero,Int.toNat_one,Int.toNat_natCast] at *;omega)];exact B0
 have hE:0≤e∧e≤3:=by clear hC hgo;simp only [beq_iff_eq,beq_eq_false_iff_ne,bne_iff_ne,bne_eq_false_iff_eq,Bool.not_eq_true',Bool.not_eq_false',Go.Sx.Al,Go.Sx.B4,decide_eq_true_eq,decide_eq_false_iff_not,ne_eq,Int.not_lt,Int.not_le,ge_iff_le,gt_iff_lt,Int.toNat_zero,Int.toNat_one,Int.toNat_natCast] at *;omega
 repeat refine B2 ?_
 refine As (A03 (A8 x 0) e (by have:=A3.worker_le h (show 0<x.workers.length by omega);show (x.workers.getD 0 default).w≤_;omega)) rfl (A7 ?_)
 repeat refine B2 ?_
 refine ⟨fun hD=>?_,fun hD=>?_⟩<;>conv=>whnf
 ·repeat refine B2 ?_
  refine Am A0 rfl rfl ?_;rw [Qg (fun p=>by rw [p.2.2.1] at hD;cases hD)];exact B0
 have hE1:e<x.tokens.length:=by omega
 have htk:e.toNat<x.tokens.length:=by omega
 have hTP:=hC.2.2.2.1 _ (At (d:=default) htk)
 have hat:0≤(x.tokens.getD e.toNat default).at_∧(x.tokens.getD e.toNat default).at_<x.workers.length:=by
  have:=hC.1.2.1
  have:=hTP.1
  omega
 have hj:(x.tokens.getD e.toNat default).at_.toNat<x.workers.length:=by omega
 have hWP:=hC.2.1 _ (At (d:=default) hj);(repeat refine Ap ?_)
 first|(refine Ax 5 rfl [0,1,2,3,4,5,6,7] A6 (A7 ?_))|(refine Ax 17 rfl [0,1,2,3,4,5,6,7,8,9,10,11,12,13,14] A6 (A7 ?_))|(refine Ax 20 rfl [0,1,2,3,4,5,6,7,8,9,10,11,12,13] A6 (A7 ?_))|(refine Ax 22 rfl [0,1,2,3,4,5,6,7,8,9,10,11,12,13,14] A6 (A7 ?_))|(refine Ax 9 rfl [0,1,2,3,4,5,6,7,8,9,10,11,12,13,14,15,16,17,18,19,20,21,22,23,24,25,26,27,28,29] A6 (A7 ?_))
 refine ⟨by exact hat,?_⟩;conv=>whnf
 (repeat refine Ap ?_);refine T0 A0 rfl rfl rfl rfl rfl (jn:=(x.tokens.getD e.toNat default).at_.toNat) rfl (r:=Ab.c ((x.workers).getD ((x.tokens.getD e.toNat default).at_.toNat) default)) rfl hj rfl rfl (fun u=>go A0 false ?_);conv=>whnf
 refine As (A22 (x.workers.getD (x.tokens.getD e.toNat default).at_.toNat default) e (by have:=A3.worker_le h hj;omega)) rfl ?_;refine A7 ?_;refine ⟨fun hP=>?_,fun hP=>?_⟩<;>conv=>whnf
 ·repeat refine B2 ?_
  rw [Qg (fun p=>by have q:=p.2.2.2;rw [show A8 x (A9 x e).at_=x.workers.getD (x.tokens.getD e.toNat default).at_.toNat default from rfl] at q;rw [q] at hP;cases hP)]
  refine Fp Tryz.prog 3 ((x.tokens.getD e.toNat default).at_.toNat) [(0,8),(1,9),(2,10),(3,11),(4,12),(5,13),(6,14),(7,15)] (Ar (x.workers)) hj rfl rfl H3 rfl (D8 rfl) ?_;refine Am A0 rfl rfl ?_;exact B0
 have hP:Dx (x.workers.getD (x.tokens.getD e.toNat default).at_.toNat default) e=true:=by simpa using hP
 have hT:Nk x e:=⟨hC,hE,hD,hP⟩;obtain ⟨hL1,hL2,hL3⟩:=hWP.2.1;have hs1:=hTP.2.2
 have hbl:e.toNat<(A8 x (A9 x e).at_).black.length:=by
  show e.toNat<(x.workers.getD (x.tokens.getD e.toNat default).at_.toNat default).black.length
  omega
 have hs2:Hf ((x.workers.getD (x.tokens.getD e.toNat default).at_.toNat default).sums.getD e.toNat default):=hWP.2.2.2.1 _ (At Ad);simp only [Hf] at hs2;have hdl:(x.workers.getD (x.tokens.getD e.toNat default).at_.toNat default).dones.length≤16000000:=by have:=A3.worker_le h hj;simp only [Ab.w] at this;omega
 have hnl:=A3.news_le h;have hwl:=A3.workers_le h
 repeat refine B2 ?_
 refine ⟨fun hg=>?_,fun hg=>?_⟩<;>conv=>whnf
 ·have hg:(A9 x e).going=false:=by simpa [A9] using hg
  first|(refine Ax 5 rfl [0,1,2,3,4,5,6,7] A6 (A7 ?_))|(refine Ax 17 rfl [0,1,2,3,4,5,6,7,8,9,10,11,12,13,14] A6 (A7 ?_))|(refine Ax 20 rfl [0,1,2,3,4,5,6,7,8,9,10,11,12,13] A6 (A7 ?_))|(refine Ax 22 rfl [0,1,2,3,4,5,6,7,8,9,10,11,12,13,14] A6 (A7 ?_))|(refine Ax 9 rfl [0,1,2,3,4,5,6,7,8,9,10,11,12,13,14,15,16,17,18,19,20,21,22,23,24,25,26,27,28,29] A6 (A7 ?_))
  (repeat refine Ap ?_);refine Kk A0 rfl rfl rfl rfl rfl rfl (jn:=(x.tokens.getD e.toNat default).at_.toNat) rfl (Dg _ _ _) rfl (A7 ?_);refine Gd 132 14 rfl rfl (A7 ?_);(repeat refine Ap ?_);refine Bv (j:=e) A0 rfl rfl rfl rfl rfl rfl rfl rfl (Bm (x.tokens.set e.toNat ⟨true,(x.workers.length:Int)-1,0,false,(A8 x (A9 x e).at_).caps.getD e.toNat default⟩)) (Ck htk rfl) (A7 ?_);refine Kk A0 rfl rfl rfl rfl rfl rfl (jn:=(x.tokens.getD e.toNat default).at_.toNat) rfl (Dg _ _ _) rfl (A7 ?_);refine Gd 145 13 rfl rfl (A7 ?_);(repeat refine Ap ?_);refine Bv (j:=e) A0 rfl rfl rfl rfl rfl rfl rfl rfl (Dw ((A8 x (A9 x e).at_).black.set e.toNat false)) (Ck hbl rfl) (A7 ?_);rw [A4t hT hg];refine Fp Tryz.prog 3 ((x.tokens.getD e.toNat default).at_.toNat) [(0,8),(1,9),(2,10),(3,11),(4,12),(5,13),(6,14),(7,15)] (Ar ((x.workers.set (x.tokens.getD e.toNat default).at_.toNat (G2 (A8 x (A9 x e).at_) e)))) hj rfl rfl H3 rfl (Gq hj rfl) ?_;refine Am A0 rfl rfl ?_;exact B0
 have hg:(A9 x e).going=true:=by simpa [A9] using hg
 refine ⟨fun hA=>?_,fun hA=>?_⟩<;>conv=>whnf
 ·have hA:(A9 x e).at_>0:=of_decide_eq_true hA
  first|(refine Ax 5 rfl [0,1,2,3,4,5,6,7] A6 (A7 ?_))|(refine Ax 17 rfl [0,1,2,3,4,5,6,7,8,9,10,11,12,13,14] A6 (A7 ?_))|(refine Ax 20 rfl [0,1,2,3,4,5,6,7,8,9,10,11,12,13] A6 (A7 ?_))|(refine Ax 22 rfl [0,1,2,3,4,5,6,7,8,9,10,11,12,13,14] A6 (A7 ?_))|(refine Ax 9 rfl [0,1,2,3,4,5,6,7,8,9,10,11,12,13,14,15,16,17,18,19,20,21,22,23,24,25,26,27,28,29] A6 (A7 ?_))
  (repeat refine Ap ?_);refine Kk A0 rfl rfl rfl rfl rfl rfl (jn:=(x.tokens.getD e.toNat default).at_.toNat) rfl (Dg _ _ _) rfl (A7 ?_);refine Gd 161 12 rfl rfl (A7 ?_);(repeat refine Ap ?_);refine As (Ik _ (-1000000) 1000000) rfl ?_;refine A7 ?_;refine ⟨fun hS=>?_,fun hS=>?_⟩<;>conv=>whnf
  ·repeat refine B2 ?_
   rw [B36 hT hg hA (fun p=>by have q:E6 _ (-1000000) 1000000=false:=(Bool.not_eq_true' _).mp hS;exact absurd ((Go.Sx.Al.2 p).symm.trans q) B5)];refine Fp Tryz.prog 3 ((x.tokens.getD e.toNat default).at_.toNat) [(0,8),(1,9),(2,10),(3,11),(4,12),(5,13),(6,14),(7,15)] (Ar (x.workers)) hj rfl rfl H3 rfl (D8 rfl) ?_;refine Am A0 rfl rfl ?_;exact B0
  have hS:Hf ((A9 x e).sum+(A8 x (A9 x e).at_).sums.getD e.toNat default):=Go.Sx.Al.1 ((Bool.not_eq_false' _).mp hS)
  repeat refine B2 ?_
  first|(refine Ax 5 rfl [0,1,2,3,4,5,6,7] A6 (A7 ?_))|(refine Ax 17 rfl [0,1,2,3,4,5,6,7,8,9,10,11,12,13,14] A6 (A7 ?_))|(refine Ax 20 rfl [0,1,2,3,4,5,6,7,8,9,10,11,12,13] A6 (A7 ?_))|(refine Ax 22 rfl [0,1,2,3,4,5,6,7,8,9,10,11,12,13,14] A6 (A7 ?_))|(refine Ax 9 rfl [0,1,2,3,4,5,6,7,8,9,10,11,12,13,14,15,16,17,18,19,20,21,22,23,24,25,26,27,28,29] A6 (A7 ?_))
  (repeat refine Ap ?_);refine Kk A0 rfl rfl rfl rfl rfl rfl (jn:=(x.tokens.getD e.toNat default).at_.toNat) rfl (Dg _ _ _) rfl (A7 ?_);refine Gd 176 12 rfl rfl (A7 ?_);(repeat refine Ap ?_);refine Bv (j:=e) A0 rfl rfl rfl rfl rfl rfl rfl rfl (Bm (x.tokens.set e.toNat ⟨(A9 x e).going,(A9 x e).at_,(A9 x e).sum+(A8 x (A9 x e).at_).sums.getD e.toNat default,(A9 x e).black,(A9 x e).capped⟩)) (Ck htk rfl) (A7 ?_);refine ⟨fun hb=>?_,fun hb=>?_⟩<;>conv=>whnf
  ·have hb:(A9 x e).black=true:=by rw [Sx.getD_set_self _ _ _ _ htk] at hb;exact hb
   repeat refine B2 ?_
   refine Bv (j:=e) A0 rfl rfl rfl rfl rfl rfl rfl rfl (Bm (x.tokens.set e.toNat ⟨(A9 x e).going,(A9 x e).at_,(A9 x e).sum+(A8 x (A9 x e).at_).sums.getD e.toNat default,(A9 x e).black||(A8 x (A9 x e).at_).black.getD e.toNat default,(A9 x e).capped⟩)) (Ji htk (by rw [hb];rfl)) (A7 ?_);refine ⟨fun hc=>?_,fun hc=>?_⟩<;>conv=>whnf
   ·have hc:(A9 x e).capped=true:=by rw [Sx.getD_set_self _ _ _ _ htk] at hc;exact hc
    repeat refine B2 ?_
    refine Bv (j:=e) A0 rfl rfl rfl rfl rfl rfl rfl rfl (Bm (x.tokens.set e.toNat ⟨(A9 x e).going,(A9 x e).at_,(A9 x e).sum+(A8 x (A9 x e).at_).sums.getD e.toNat default,(A9 x e).black||(A8 x (A9 x e).at_).black.getD e.toNat default,(A9 x e).capped||(A8 x (A9 x e).at_).caps.getD e.toNat default⟩)) (Ji htk (by rw [hc];rfl)) (A7 ?_);refine Kk A0 rfl rfl rfl rfl rfl rfl (jn:=(x.tokens.getD e.toNat default).at_.toNat) rfl (Dg _ _ _) rfl (A7 ?_);refine Gd 218 13 rfl rfl (A7 ?_);(repeat refine Ap ?_);refine Bv (j:=e) A0 rfl rfl rfl rfl rfl rfl rfl rfl (Dw ((A8 x (A9 x e).at_).black.set e.toNat false)) (Ck hbl rfl) (A7 ?_);refine ⟨by (rw [Sx.getD_set_self _ _ _ _ htk];have q:0≤(A9 x e).at_∧(A9 x e).at_<x.workers.length:=hat;show _≤(A9 x e).at_-1∧(A9 x e).at_-1≤_;omega),?_⟩
    conv=>whnf
    refine Bv (j:=e) A0 rfl rfl rfl rfl rfl rfl rfl rfl (Bm (x.tokens.set e.toNat ⟨true,(A9 x e).at_-1,(A9 x e).sum+(A8 x (A9 x e).at_).sums.getD e.toNat default,(A9 x e).black||(A8 x (A9 x e).at_).black.getD e.toNat default,(A9 x e).capped||(A8 x (A9 x e).at_).caps.getD e.toNat default⟩)) (Ji htk (by rw [Sx.getD_set_self _ _ _ _ htk,hg];rfl)) (A7 ?_);rw [M4 hT hg hA hS];refine Fp Tryz.prog 3 ((x.tokens.getD e.toNat default).at_.toNat) [(0,8),(1,9),(2,10),(3,11),(4,12),(5,13),(6,14),(7,15)] (Ar ((x.workers.set (x.tokens.getD e.toNat default).at_.toNat (G2 (A8 x (A9 x e).at_) e)))) hj rfl rfl H3 rfl (Gq hj rfl) ?_;refine Am A0 rfl rfl ?_;exact B0
   have hc:(A9 x e).capped=false:=by rw [Sx.getD_set_self _ _ _ _ htk] at hc;exact hc
   repeat refine B2 ?_
   refine Kk A0 rfl rfl rfl rfl rfl rfl (jn:=(x.tokens.getD e.toNat default).at_.toNat) rfl (Dg _ _ _) rfl (A7 ?_)
   repeat refine B2 ?_
   refine Gd 208 14 rfl rfl (A7 ?_)
   repeat refine B2 ?_
   refine Bv (j:=e) A0 rfl rfl rfl rfl rfl rfl rfl rfl (Bm (x.tokens.set e.toNat ⟨(A9 x e).going,(A9 x e).at_,(A9 x e).sum+(A8 x (A9 x e).at_).sums.getD e.toNat default,(A9 x e).black||(A8 x (A9 x e).at_).black.getD e.toNat default,(A9 x e).capped||(A8 x (A9 x e).at_).caps.getD e.toNat default⟩)) (Ji htk (by rw [hc];rfl)) (A7 ?_);refine Kk A0 rfl rfl rfl rfl rfl rfl (jn:=(x.tokens.getD e.toNat default).at_.toNat) rfl (Dg _ _ _) rfl (A7 ?_);refine Gd 218 13 rfl rfl (A7 ?_);(repeat refine Ap ?_);refine Bv (j:=e) A0 rfl rfl rfl rfl rfl rfl rfl rfl (Dw ((A8 x (A9 x e).at_).black.set e.toNat false)) (Ck hbl rfl) (A7 ?_);refine ⟨by (rw [Sx.getD_set_self _ _ _ _ htk];have q:0≤(A9 x e).at_∧(A9 x e).at_<x.workers.length:=hat;show _≤(A9 x e).at_-1∧(A9 x e).at_-1≤_;omega),?_⟩
   conv=>whnf
   refine Bv (j:=e) A0 rfl rfl rfl rfl rfl rfl rfl rfl (Bm (x.tokens.set e.toNat ⟨true,(A9 x e).at_-1,(A9 x e).sum+(A8 x (A9 x e).at_).sums.getD e.toNat default,(A9 x e).black||(A8 x (A9 x e).at_).black.getD e.toNat default,(A9 x e).capped||(A8 x (A9 x e).at_).caps.getD e.toNat default⟩)) (Ji htk (by rw [Sx.getD_set_self _ _ _ _ htk,hg];rfl)) (A7 ?_);rw [M4 hT hg hA hS];refine Fp Tryz.prog 3 ((x.tokens.getD e.toNat default).at_.toNat) [(0,8),(1,9),(2,10),(3,11),(4,12),(5,13),(6,14),(7,15)] (Ar ((x.workers.set (x.tokens.getD e.toNat default).at_.toNat (G2 (A8 x (A9 x e).at_) e)))) hj rfl rfl H3 rfl (Gq hj rfl) ?_;refine Am A0 rfl rfl ?_;exact B0
  have hb:(A9 x e).black=false:=by rw [Sx.getD_set_self _ _ _ _ htk] at hb;exact hb
  repeat refine B2 ?_
  refine Kk A0 rfl rfl rfl rfl rfl rfl (jn:=(x.tokens.getD e.toNat default).at_.toNat) rfl (Dg _ _ _) rfl (A7 ?_)
  repeat refine B2 ?_
  refine Gd 192 13 rfl rfl (A7 ?_)
  repeat refine B2 ?_
  refine Bv (j:=e) A0 rfl rfl rfl rfl rfl rfl rfl rfl (Bm (x.tokens.set e.toNat ⟨(A9 x e).going,(A9 x e).at_,(A9 x e).sum+(A8 x (A9 x e).at_).sums.getD e.toNat default,(A9 x e).black||(A8 x (A9 x e).at_).black.getD e.toNat default,(A9 x e).capped⟩)) (Ji htk (by rw [hb];rfl)) (A7 ?_);refine ⟨fun hc=>?_,fun hc=>?_⟩<;>conv=>whnf
  ·have hc:(A9 x e).capped=true:=by rw [Sx.getD_set_self _ _ _ _ htk] at hc;exact hc
   repeat refine B2 ?_
   refine Bv (j:=e) A0 rfl rfl rfl rfl rfl rfl rfl rfl (Bm (x.tokens.set e.toNat ⟨(A9 x e).going,(A9 x e).at_,(A9 x e).sum+(A8 x (A9 x e).at_).sums.getD e.toNat default,(A9 x e).black||(A8 x (A9 x e).at_).black.getD e.toNat default,(A9 x e).capped||(A8 x (A9 x e).at_).caps.getD e.toNat default⟩)) (Ji htk (by rw [hc];rfl)) (A7 ?_);refine Kk A0 rfl rfl rfl rfl rfl rfl (jn:=(x.tokens.getD e.toNat default).at_.toNat) rfl (Dg _ _ _) rfl (A7 ?_);refine Gd 218 13 rfl rfl (A7 ?_);(repeat refine Ap ?_);refine Bv (j:=e) A0 rfl rfl rfl rfl rfl rfl rfl rfl (Dw ((A8 x (A9 x e).at_).black.set e.toNat false)) (Ck hbl rfl) (A7 ?_);refine ⟨by (rw [Sx.getD_set_self _ _ _ _ htk];have q:0≤(A9 x e).at_∧(A9 x e).at_<x.workers.length:=hat;show _≤(A9 x e).at_-1∧(A9 x e).at_-1≤_;omega),?_⟩
   conv=>whnf
   refine Bv (j:=e) A0 rfl rfl rfl rfl rfl rfl rfl rfl (Bm (x.tokens.set e.toNat ⟨true,(A9 x e).at_-1,(A9 x e).sum+(A8 x (A9 x e).at_).sums.getD e.toNat default,(A9 x e).black||(A8 x (A9 x e).at_).black.getD e.toNat default,(A9 x e).capped||(A8 x (A9 x e).at_).caps.getD e.toNat default⟩)) (Ji htk (by rw [Sx.getD_set_self _ _ _ _ htk,hg];rfl)) (A7 ?_);rw [M4 hT hg hA hS];refine Fp Tryz.prog 3 ((x.tokens.getD e.toNat default).at_.toNat) [(0,8),(1,9),(2,10),(3,11),(4,12),(5,13),(6,14),(7,15)] (Ar ((x.workers.set (x.tokens.getD e.toNat default).at_.toNat (G2 (A8 x (A9 x e).at_) e)))) hj rfl rfl H3 rfl (Gq hj rfl) ?_;refine Am A0 rfl rfl ?_;exact B0
  have hc:(A9 x e).capped=false:=by rw [Sx.getD_set_self _ _ _ _ htk] at hc;exact hc
  repeat refine B2 ?_
  refine Kk A0 rfl rfl rfl rfl rfl rfl (jn:=(x.tokens.getD e.toNat default).at_.toNat) rfl (Dg _ _ _) rfl (A7 ?_)
  repeat refine B2 ?_
  refine Gd 208 14 rfl rfl (A7 ?_)
  repeat refine B2 ?_
  refine Bv (j:=e) A0 rfl rfl rfl rfl rfl rfl rfl rfl (Bm (x.tokens.set e.toNat ⟨(A9 x e).going,(A9 x e).at_,(A9 x e).sum+(A8 x (A9 x e).at_).sums.getD e.toNat default,(A9 x e).black||(A8 x (A9 x e).at_).black.getD e.toNat default,(A9 x e).capped||(A8 x (A9 x e).at_).caps.getD e.toNat default⟩)) (Ji htk (by rw [hc];rfl)) (A7 ?_);refine Kk A0 rfl rfl rfl rfl rfl rfl (jn:=(x.tokens.getD e.toNat default).at_.toNat) rfl (Dg _ _ _) rfl (A7 ?_);refine Gd 218 13 rfl rfl (A7 ?_);(repeat refine Ap ?_);refine Bv (j:=e) A0 rfl rfl rfl rfl rfl rfl rfl rfl (Dw ((A8 x (A9 x e).at_).black.set e.toNat false)) (Ck hbl rfl) (A7 ?_);refine ⟨by (rw [Sx.getD_set_self _ _ _ _ htk];have q:0≤(A9 x e).at_∧(A9 x e).at_<x.workers.length:=hat;show _≤(A9 x e).at_-1∧(A9 x e).at_-1≤_;omega),?_⟩
  conv=>whnf
  refine Bv (j:=e) A0 rfl rfl rfl rfl rfl rfl rfl rfl (Bm (x.tokens.set e.toNat ⟨true,(A9 x e).at_-1,(A9 x e).sum+(A8 x (A9 x e).at_).sums.getD e.toNat default,(A9 x e).black||(A8 x (A9 x e).at_).black.getD e.toNat default,(A9 x e).capped||(A8 x (A9 x e).at_).caps.getD e.toNat default⟩)) (Ji htk (by rw [Sx.getD_set_self _ _ _ _ htk,hg];rfl)) (A7 ?_);rw [M4 hT hg hA hS];refine Fp Tryz.prog 3 ((x.tokens.getD e.toNat default).at_.toNat) [(0,8),(1,9),(2,10),(3,11),(4,12),(5,13),(6,14),(7,15)] (Ar ((x.workers.set (x.tokens.getD e.toNat default).at_.toNat (G2 (A8 x (A9 x e).at_) e)))) hj rfl rfl H3 rfl (Gq hj rfl) ?_;refine Am A0 rfl rfl ?_;exact B0
 have hA:¬ (A9 x e).at_>0:=of_decide_eq_false hA
 have hz:(x.tokens.getD e.toNat default).at_=0:=by
  have:¬ (x.tokens.getD e.toNat default).at_>0:=hA
  omega
 (repeat refine Ap ?_);refine Bv (j:=e) A0 rfl rfl rfl rfl rfl rfl rfl rfl (Bm (x.tokens.set e.toNat ⟨false,(A9 x e).at_,(A9 x e).sum,(A9 x e).black,(A9 x e).capped⟩)) (Ck htk rfl) (A7 ?_)
 first|(refine Ax 5 rfl [0,1,2,3,4,5,6,7] A6 (A7 ?_))|(refine Ax 17 rfl [0,1,2,3,4,5,6,7,8,9,10,11,12,13,14] A6 (A7 ?_))|(refine Ax 20 rfl [0,1,2,3,4,5,6,7,8,9,10,11,12,13] A6 (A7 ?_))|(refine Ax 22 rfl [0,1,2,3,4,5,6,7,8,9,10,11,12,13,14] A6 (A7 ?_))|(refine Ax 9 rfl [0,1,2,3,4,5,6,7,8,9,10,11,12,13,14,15,16,17,18,19,20,21,22,23,24,25,26,27,28,29] A6 (A7 ?_))
 (repeat refine Ap ?_);refine ⟨fun hb=>?_,fun hb=>?_⟩<;>conv=>whnf
 ·have hb:(A9 x e).black=false:=by rw [Sx.getD_set_self _ _ _ _ htk] at hb;simpa [A9] using hb
  repeat refine B2 ?_
  refine Kk A0 rfl rfl rfl rfl rfl rfl (jn:=(x.tokens.getD e.toNat default).at_.toNat) rfl (Dg _ _ _) rfl (A7 ?_)
  repeat refine B2 ?_
  refine Gd 60 13 rfl rfl (A7 ?_)
  repeat refine B2 ?_
  refine ⟨fun hw=>?_,fun hw=>?_⟩<;>conv=>whnf
  ·have hw:(A8 x (A9 x e).at_).black.getD e.toNat default=false:=by simpa [A9,A8] using hw
   repeat refine B2 ?_
   refine Kk A0 rfl rfl rfl rfl rfl rfl (jn:=(x.tokens.getD e.toNat default).at_.toNat) rfl (Dg _ _ _) rfl (A7 ?_)
   repeat refine B2 ?_
   refine Gd 74 12 rfl rfl (A7 ?_)
   repeat refine B2 ?_
   refine ⟨by (rw [Sx.getD_set_self _ _ _ _ htk];have q: -1000000≤(A9 x e).sum∧(A9 x e).sum≤1000000:=hs1;show _≤(A9 x e).sum+_∧(A9 x e).sum+_≤_;omega),?_⟩
   conv=>whnf
   repeat refine B2 ?_
   refine ⟨fun hs=>?_,fun hs=>?_⟩<;>conv=>whnf
   ·have hs:(A9 x e).sum+(A8 x (A9 x e).at_).sums.getD e.toNat default=0:=by rw [Sx.getD_set_self _ _ _ _ htk] at hs;exact eq_of_beq hs
    have hyes:=And.intro hb (And.intro hw hs);have hz':∀c w,Av c 0 w=Av c (x.tokens.getD e.toNat default).at_ w:=fun c w=>by rw [hz]
    repeat refine B2 ?_
    refine ⟨fun hc=>?_,fun hc=>?_⟩<;>conv=>whnf
    ·have hc:(A9 x e).capped=true:=by rw [Sx.getD_set_self _ _ _ _ htk] at hc;exact hc
     have hcap:((A9 x e).capped||(A8 x (A9 x e).at_).caps.getD e.toNat default)=true:=by rw [hc];rfl
     repeat refine B2 ?_
     refine Kk A0 rfl rfl rfl rfl rfl rfl (jn:=(x.tokens.getD e.toNat default).at_.toNat) rfl (Dg _ _ _) rfl (A7 ?_);refine Gd 98 15 rfl rfl (A7 ?_);(repeat refine Ap ?_);refine Bj A0 rfl rfl rfl rfl rfl rfl rfl rfl rfl rfl rfl (G1 ((A8 x (A9 x e).at_).dones++[⟨e,true⟩])) (An rfl) C6 Ad (A7 ?_);(repeat refine Ap ?_);refine Bv (j:=(x.tokens.getD e.toNat default).at_) A0 rfl rfl rfl rfl rfl rfl rfl rfl _ B0c ?_;refine Mf 3 ((x.tokens.getD e.toNat default).at_.toNat) [(0,8),(1,9),(2,10),(3,11),(4,12),(5,13),(6,14)] (Ar (x.workers.set (x.tokens.getD e.toNat default).at_.toNat (Ef (A8 x (A9 x e).at_) ⟨e,true⟩))) hj rfl rfl H3 rfl (Gq hj rfl) (G3 ?_);conv=>whnf
     refine Bk A0 false [11,12,13,14,15,16,17,18,19,20,21,22,23,24,25,26,27,28,29,30,31,32,33,34,35,36,37,38,39,40,41,42,43,44,45,46,47,48,49,50,51,52,53,54,55,56,57,58,59,60,61,62,63,64,65,66,67,68,69,70,71,72,73,74,75,76,77,78,79,80,81,82,83,84,85,86,87,88,89,90,91,92,93,94,95,96,97,98,99,100,101,102,103,104,105,106,107,108,109,110,111,112,113,114,115,116,117,118,119,120,121] (fun k:Nat=>[(10,.c (vi (k+1)))]) (fun k=>[⟨7,[.own 2,.c (vi x.graph.workers),.c (vi x.graph.cap),.own 3,.own 4,.own 5,.own 6]⟩,⟨1,[.c (.val (.slice none 0 0)),.c (vi 0),.c (vi 0),.c (.val (.slice none 0 0)),.c (.val (.slice none 0 0)),.c (.val (.slice none 0 0)),.c (.val (.slice none 0 0))]⟩,⟨0,[.c (Bg x.graph.nodes),.c (vi x.graph.workers),.c (vi x.graph.cap),.c (Ar x.workers),.c (C4 x.links),.c (Bm x.tokens),.c (Cc x.news)]⟩]) (fun k=>[⟨2,Bg x.graph.nodes⟩,⟨3,Ar (x.workers.set (x.tokens.getD e.toNat default).at_.toNat (Ef (A8 x (A9 x e).at_) ⟨e,true⟩))⟩,⟨4,C4 x.links⟩,⟨5,Bm (x.tokens.set e.toNat ⟨false,(A9 x e).at_,(A9 x e).sum,(A9 x e).black,(A9 x e).capped⟩)⟩,⟨6,Cc (x.news++Ip e (true) k)⟩])
      (fun k=>k≤(x.workers.length-1)) (fun k=>(x.workers.length-1)-k) 0 (Nat.zero_le _) ⟨F0,trivial⟩ C2 ⟨Dm,Dm,Dm,Dm,Dm,trivial⟩ C1 A6 (fun k hk=>?_)
     conv=>whnf
     refine Eo (fun hg2=>?_) fun hg2=>?_<;>conv=>whnf
     ·refine Bj A0 rfl rfl rfl rfl rfl rfl rfl rfl rfl rfl rfl (Cc (x.news++Ip e (true) k++[⟨k+1,e,true⟩])) (An rfl) C6 (by rw [List.length_append,X0];omega) (A7 ?_)
      (repeat refine Ap ?_);refine Az [(0,0),(1,1),(2,2),(3,3),(4,4),(5,5),(6,19),(7,7)] (k+1) Ad Ad ⟨by rw [Int.natCast_add];rfl,trivial⟩ ⟨rfl,rfl,rfl,rfl,by show (_:Ai)=_;rw [U0,←List.append_assoc],trivial⟩ C2 A6 C1 A6
     obtain rfl:k=x.workers.length-1:=by omega
     repeat refine B2 ?_
     rw [Ln hT hg hA,Gw,if_pos hyes,hcap,hz'];refine Am A0 rfl rfl ?_;exact B0
    have hc:(A9 x e).capped=false:=by rw [Sx.getD_set_self _ _ _ _ htk] at hc;exact hc
    have hcap:((A9 x e).capped||(A8 x (A9 x e).at_).caps.getD e.toNat default)=(A8 x (A9 x e).at_).caps.getD e.toNat default:=by rw [hc];rfl
    repeat refine B2 ?_
    refine Kk A0 rfl rfl rfl rfl rfl rfl (jn:=(x.tokens.getD e.toNat default).at_.toNat) rfl (Dg _ _ _) rfl (A7 ?_)
    repeat refine B2 ?_
    refine Gd 89 14 rfl rfl (A7 ?_)
    repeat refine B2 ?_
    refine Kk A0 rfl rfl rfl rfl rfl rfl (jn:=(x.tokens.getD e.toNat default).at_.toNat) rfl (Dg _ _ _) rfl (A7 ?_);refine Gd 98 15 rfl rfl (A7 ?_);(repeat refine Ap ?_);refine Bj A0 rfl rfl rfl rfl rfl rfl rfl rfl rfl rfl rfl (G1 ((A8 x (A9 x e).at_).dones++[⟨e,((A8 x (A9 x e).at_).caps.getD e.toNat default)⟩])) (An rfl) C6 Ad (A7 ?_);(repeat refine Ap ?_);refine Bv (j:=(x.tokens.getD e.toNat default).at_) A0 rfl rfl rfl rfl rfl rfl rfl rfl _ B0c ?_;refine Mf 3 ((x.tokens.getD e.toNat default).at_.toNat) [(0,8),(1,9),(2,10),(3,11),(4,12),(5,13),(6,14)] (Ar (x.workers.set (x.tokens.getD e.toNat default).at_.toNat (Ef (A8 x (A9 x e).at_) ⟨e,((A8 x (A9 x e).at_).caps.getD e.toNat default)⟩))) hj rfl rfl H3 rfl (Gq hj rfl) (G3 ?_);conv=>whnf
    refine Bk A0 false [11,12,13,14,15,16,17,18,19,20,21,22,23,24,25,26,27,28,29,30,31,32,33,34,35,36,37,38,39,40,41,42,43,44,45,46,47,48,49,50,51,52,53,54,55,56,57,58,59,60,61,62,63,64,65,66,67,68,69,70,71,72,73,74,75,76,77,78,79,80,81,82,83,84,85,86,87,88,89,90,91,92,93,94,95,96,97,98,99,100,101,102,103,104,105,106,107,108,109,110,111,112,113,114,115,116,117,118,119,120,121] (fun k:Nat=>[(10,.c (vi (k+1)))]) (fun k=>[⟨7,[.own 2,.c (vi x.graph.workers),.c (vi x.graph.cap),.own 3,.own 4,.own 5,.own 6]⟩,⟨1,[.c (.val (.slice none 0 0)),.c (vi 0),.c (vi 0),.c (.val (.slice none 0 0)),.c (.val (.slice none 0 0)),.c (.val (.slice none 0 0)),.c (.val (.slice none 0 0))]⟩,⟨0,[.c (Bg x.graph.nodes),.c (vi x.graph.workers),.c (vi x.graph.cap),.c (Ar x.workers),.c (C4 x.links),.c (Bm x.tokens),.c (Cc x.news)]⟩]) (fun k=>[⟨2,Bg x.graph.nodes⟩,⟨3,Ar (x.workers.set (x.tokens.getD e.toNat default).at_.toNat (Ef (A8 x (A9 x e).at_) ⟨e,((A8 x (A9 x e).at_).caps.getD e.toNat default)⟩))⟩,⟨4,C4 x.links⟩,⟨5,Bm (x.tokens.set e.toNat ⟨false,(A9 x e).at_,(A9 x e).sum,(A9 x e).black,(A9 x e).capped⟩)⟩,⟨6,Cc (x.news++Ip e (((A8 x (A9 x e).at_).caps.getD e.toNat default)) k)⟩])
     (fun k=>k≤(x.workers.length-1)) (fun k=>(x.workers.length-1)-k) 0 (Nat.zero_le _) ⟨F0,trivial⟩ C2 ⟨Dm,Dm,Dm,Dm,Dm,trivial⟩ C1 A6 (fun k hk=>?_)
    conv=>whnf
    refine Eo (fun hg2=>?_) fun hg2=>?_<;>conv=>whnf
    ·refine Bj A0 rfl rfl rfl rfl rfl rfl rfl rfl rfl rfl rfl (Cc (x.news++Ip e (((A8 x (A9 x e).at_).caps.getD e.toNat default)) k++[⟨k+1,e,((A8 x (A9 x e).at_).caps.getD e.toNat default)⟩])) (An rfl) C6 (by rw [List.length_append,X0];omega) (A7 ?_)
     (repeat refine Ap ?_);refine Az [(0,0),(1,1),(2,2),(3,3),(4,4),(5,5),(6,19),(7,7)] (k+1) Ad Ad ⟨by rw [Int.natCast_add];rfl,trivial⟩ ⟨rfl,rfl,rfl,rfl,by show (_:Ai)=_;rw [U0,←List.append_assoc],trivial⟩ C2 A6 C1 A6
    obtain rfl:k=x.workers.length-1:=by omega
    repeat refine B2 ?_
    rw [Ln hT hg hA,Gw,if_pos hyes,hcap,hz'];refine Am A0 rfl rfl ?_;exact B0
   have hs:(A9 x e).sum+(A8 x (A9 x e).at_).sums.getD e.toNat default≠0:=by rw [Sx.getD_set_self _ _ _ _ htk] at hs;exact beq_eq_false_iff_ne.1 hs
   have hno:¬ ((A9 x e).black=false∧(A8 x (A9 x e).at_).black.getD e.toNat default=false∧(A9 x e).sum+(A8 x (A9 x e).at_).sums.getD e.toNat default=0):=fun p=>hs p.2.2
   repeat refine B2 ?_
   rw [Ln hT hg hA,Gw,if_neg hno];refine Fp Tryz.prog 3 ((x.tokens.getD e.toNat default).at_.toNat) [(0,8),(1,9),(2,10),(3,11),(4,12),(5,13),(6,14),(7,15)] (Ar (x.workers)) hj rfl rfl H3 rfl (D8 rfl) ?_;refine Am A0 rfl rfl ?_;exact B0
  have hw:(A8 x (A9 x e).at_).black.getD e.toNat default=true:=by simpa [A9,A8] using hw
  have hno:¬ ((A9 x e).black=false∧(A8 x (A9 x e).at_).black.getD e.toNat default=false∧(A9 x e).sum+(A8 x (A9 x e).at_).sums.getD e.toNat default=0):=fun p=>by rw [hw] at p;exact absurd p.2.1 B5
  repeat refine B2 ?_
  rw [Ln hT hg hA,Gw,if_neg hno];refine Fp Tryz.prog 3 ((x.tokens.getD e.toNat default).at_.toNat) [(0,8),(1,9),(2,10),(3,11),(4,12),(5,13),(6,14),(7,15)] (Ar (x.workers)) hj rfl rfl H3 rfl (D8 rfl) ?_;refine Am A0 rfl rfl ?_;exact B0
 have hb:(A9 x e).black=true:=by rw [Sx.getD_set_self _ _ _ _ htk] at hb;simpa [A9] using hb
 have hno:¬ ((A9 x e).black=false∧(A8 x (A9 x e).at_).black.getD e.toNat default=false∧(A9 x e).sum+(A8 x (A9 x e).at_).sums.getD e.toNat default=0):=fun p=>by rw [hb] at p;exact absurd p.1 B5
 repeat refine B2 ?_
 rw [Ln hT hg hA,Gw,if_neg hno];refine Fp Tryz.prog 3 ((x.tokens.getD e.toNat default).at_.toNat) [(0,8),(1,9),(2,10),(3,11),(4,12),(5,13),(6,14),(7,15)] (Ar (x.workers)) hj rfl rfl H3 rfl (D8 rfl) ?_;refine Am A0 rfl rfl ?_;exact B0
set_option maxHeartbeats 4000000 in
theorem A50 (x:A3)(p:D7)(h:x.w≤8000000)(hgo:Kw x):B3 Tryz.prog 174 [.agg x.c,.agg p.c] [.agg (Aq x p).1.c,.one (vb (Aq x p).2)]:=by
 refine Aw A0 false Tryz.func174 rfl B5 fun W=>?_;conv=>whnf
 refine ⟨fun k1=>have k1:=eq_of_beq k1;?_,fun k1=>have k1:=beq_eq_false_iff_ne.1 k1;?_⟩<;>conv=>whnf
 ·refine Bd (A5x x p.a Ad hgo) rfl (A7 ?_)
  rw [Aq,if_pos k1];refine Am A0 rfl rfl ?_;exact B0
 refine ⟨fun k2=>have k2:=eq_of_beq k2;?_,fun k2=>have k2:=beq_eq_false_iff_ne.1 k2;?_⟩<;>conv=>whnf
 ·refine Bd (A23 x p.a Ad hgo) rfl (A7 ?_)
  rw [Aq,if_neg k1,if_pos k2];refine Am A0 rfl rfl ?_;exact B0
 refine ⟨fun k3=>have k3:=eq_of_beq k3;?_,fun k3=>have k3:=beq_eq_false_iff_ne.1 k3;?_⟩<;>conv=>whnf
 ·refine Bd (A5v x p.a h hgo) rfl (A7 ?_)
  rw [Aq,if_neg k1,if_neg k2,if_pos k3];refine Am A0 rfl rfl ?_;exact B0
 refine ⟨fun k4=>have k4:=eq_of_beq k4;?_,fun k4=>have k4:=beq_eq_false_iff_ne.1 k4;?_⟩<;>conv=>whnf
 ·refine Bd (A5w x p.a p.b h hgo) rfl (A7 ?_)
  rw [Aq,if_neg k1,if_neg k2,if_neg k3,if_pos k4];refine Am A0 rfl rfl ?_;exact B0
 refine ⟨fun k5=>have k5:=eq_of_beq k5;?_,fun k5=>have k5:=beq_eq_false_iff_ne.1 k5;?_⟩<;>conv=>whnf
 ·refine Bd (A07 x p.a p.b Ad hgo) rfl (A7 ?_)
  rw [Aq,if_neg k1,if_neg k2,if_neg k3,if_neg k4,if_pos k5];refine Am A0 rfl rfl ?_;exact B0
 refine ⟨fun k6=>have k6:=eq_of_beq k6;?_,fun k6=>have k6:=beq_eq_false_iff_ne.1 k6;?_⟩<;>conv=>whnf
 ·refine Bd (A24 x p.a Ad hgo) rfl (A7 ?_)
  rw [Aq,if_neg k1,if_neg k2,if_neg k3,if_neg k4,if_neg k5,if_pos k6];refine Am A0 rfl rfl ?_;exact B0
 refine ⟨fun k7=>have k7:=eq_of_beq k7;?_,fun k7=>have k7:=beq_eq_false_iff_ne.1 k7;?_⟩<;>conv=>whnf
 ·refine Bd (A5s x p.a Ad hgo) rfl (A7 ?_)
  rw [Aq,if_neg k1,if_neg k2,if_neg k3,if_neg k4,if_neg k5,if_neg k6,if_pos k7];refine Am A0 rfl rfl ?_;exact B0
 refine Bd (Ew x Ad) rfl (A7 ?_);rw [Aq,if_neg k1,if_neg k2,if_neg k3,if_neg k4,if_neg k5,if_neg k6,if_neg k7];refine Am A0 rfl rfl ?_;exact B0
set_option maxHeartbeats 8000000 in
theorem Px (x:A3)(l:List D7)(h:x.w+4 * l.length≤8000000)(hgo:Kw x):B3 Tryz.prog 144 [.agg x.c,.one (El l)] [.agg (Bb x l).1.c,.one (Dw (Bb x l).2)]:=by
 refine Aw A0 false Tryz.func144 rfl B5 fun W=>?_;conv=>whnf
 refine Bd (Ew x Ad) rfl (A7 ?_);refine Yl 7 1 (fun i=>[vb (([]:List Bool).getD i default)]) rfl ?_
 refine Bk A0 false [13] (fun k:Nat=>[(16,.c (vi k))]) (fun k=>[⟨7,[.own 2,.c (vi (Bb x (l.take k)).1.graph.workers),.c (vi (Bb x (l.take k)).1.graph.cap),.own 3,.own 4,.own 5,.own 6]⟩,⟨1,[.c (.val (.slice none 0 0)),.c (vi 0),.c (vi 0),.c (.val (.slice none 0 0)),.c (.val (.slice none 0 0)),.c (.val (.slice none 0 0)),.c (.val (.slice none 0 0))]⟩]) (fun k=>[⟨8,Dw (Bb x (l.take k)).2⟩,⟨2,Bg (Bb x (l.take k)).1.graph.nodes⟩,⟨3,Ar (Bb x (l.take k)).1.workers⟩,⟨4,C4 (Bb x (l.take k)).1.links⟩,⟨5,Bm (Bb x (l.take k)).1.tokens⟩,⟨6,Cc (Bb x (l.take k)).1.news⟩])
  (fun k=>k≤l.length) (fun k=>l.length-k) 0 (Nat.zero_le _) ⟨F0,trivial⟩ C2 ⟨Dm,Dm,Dm,Dm,Dm,Dm,trivial⟩ C1 A6 (fun k hk=>?_)
 conv=>whnf
 conv=>whnf
 refine Eo (fun hlt=>?_) fun hlt=>?_<;>conv=>whnf
 ·have hlt:k<l.length:=by omega
  have hw:=X9 (c:=x) (l:=l.take k);have hn:=Vs (c:=x) (l:=l.take k);have ht:(l.take k).length=k:=by rw [List.length_take];omega
  have hs:=X8 (c:=x) hlt;(repeat refine Ap ?_);refine Bd (A50 (Bb x (l.take k)).1 (l.getD k default) Ad (A9l hgo)) rfl (A7 ?_);refine Bj A0 rfl rfl rfl rfl rfl rfl rfl rfl rfl rfl rfl (Dw ((Bb x (l.take k)).2++[(Aq (Bb x (l.take k)).1 (l.getD k default)).2])) (An rfl) C6 Ad (A7 ?_);(repeat refine Ap ?_);refine Az [(2,10),(3,11),(4,12),(5,13),(6,14),(8,17)] (k+1) Ad Ad ⟨rfl,trivial⟩ ⟨congrArg Dw (by rw [hs];rfl),congrArg (fun s:A3×List Bool=>Bg s.1.graph.nodes) hs.symm,congrArg (fun s:A3×List Bool=>Ar s.1.workers) hs.symm,congrArg (fun s:A3×List Bool=>C4 s.1.links) hs.symm,congrArg (fun s:A3×List Bool=>Bm s.1.tokens) hs.symm,congrArg (fun s:A3×List Bool=>Cc s.1.news) hs.symm,trivial⟩ (by rw [hs];repeat' (first|exact trivial|exact rfl|refine ⟨?_,?_⟩)) A6 C1 A6
 obtain rfl:k=l.length:=by omega
 rw [List.take_length];refine Am A0 rfl rfl ?_;exact B0
theorem Zx {l:List Bool}{k:Nat}(hk:k<l.length):((l.take (k+1)).filter id).length=((l.take k).filter id).length+if l.getD k default=true then 1 else 0:=by
 rw [E4 id l k hk,List.length_append];simp only [id]
 split<;>rfl
set_option maxHeartbeats 8000000 in
theorem A20 (x:A3)(h:x.w≤7000000)(hgo:Kw x):B3 Tryz.prog 111 [.agg x.c] [.agg (C5 x).1.c,.one (vi (C5 x).2)]:=by
 have hal:=Oi x;have hrl:=Vs (c:=x) (l:=Mh (H1 x));have hF:C5 x=((Bb x (Mh (H1 x))).1,((Bb x (Mh (H1 x))).2.filter id).length):=rfl;refine Aw A0 false Tryz.func111 rfl B5 fun W=>?_;conv=>whnf
 refine H0 rfl ?_;refine Cl (s':=?_) 0 rfl A6 ?_ ?_;rotate_left;refine A7 ?_;(repeat refine Ap ?_);exact B6
 refine Cl (s':=?_) 1 rfl A6 ?_ ?_;rotate_left;refine A7 ?_;(repeat refine Ap ?_);exact B6
 refine Dp [2,7] A6 ⟨?_,?_,trivial⟩
 focus
  refine A7 ?_;refine Bd (V0 x) rfl (A7 ?_);refine Dq ?_;refine Dp [3,7] A6 ⟨?_,?_,trivial⟩
  focus
   refine A7 ?_;refine Bd (Px x (Mh (H1 x)) Ad hgo) rfl (A7 ?_);refine Dq ?_;refine Bp A0 false 4 rfl rfl A6 rfl (A4 Br) ?_;refine Kx (s':=?_) 5 rfl A6 ?_ ?_;rotate_left;refine A7 ?_;(repeat refine Ap ?_);exact B6
   refine Kx (s':=?_) 6 rfl A6 ?_ ?_;rotate_left;refine A7 ?_;(repeat refine Ap ?_);exact B6
   refine Dp [7] A6 ⟨?_,trivial⟩;refine A7 ?_;(repeat refine Ap ?_);refine Dq ?_
  rotate_left 1
  focus
   refine A7 ?_;(repeat refine Ap ?_);refine Dq ?_;refine Dp [3] A6 ⟨?_,trivial⟩;refine A7 ?_;refine Bd (Px x (Mh (H1 x)) Ad hgo) rfl (A7 ?_);refine Dq ?_;refine Bp A0 false 4 rfl rfl A6 rfl (A4 Br) ?_;refine Kx (s':=?_) 5 rfl A6 ?_ ?_;rotate_left;refine A7 ?_;(repeat refine Ap ?_);exact B6
   refine Kx (s':=?_) 6 rfl A6 ?_ ?_;rotate_left;refine A7 ?_;(repeat refine Ap ?_);exact B6
 rotate_left 2
 focus
  refine A7 ?_;(repeat refine Ap ?_);refine Dq ?_;refine Dp [2] A6 ⟨?_,trivial⟩;refine A7 ?_;refine Bd (V0 x) rfl (A7 ?_);refine Dq ?_;refine Dp [3] A6 ⟨?_,trivial⟩;refine A7 ?_;refine Bd (Px x (Mh (H1 x)) Ad hgo) rfl (A7 ?_);refine Dq ?_;refine Bp A0 false 4 rfl rfl A6 rfl (A4 Br) ?_;refine Kx (s':=?_) 5 rfl A6 ?_ ?_;rotate_left;refine A7 ?_;(repeat refine Ap ?_);exact B6
  refine Kx (s':=?_) 6 rfl A6 ?_ ?_;rotate_left;refine A7 ?_;(repeat refine Ap ?_);exact B6
 all_goals
  refine Dp [8] A6 ⟨?_,trivial⟩;refine A7 ?_;(repeat refine Ap ?_);refine Dq ?_;refine Bp A0 false 9 rfl rfl A6 rfl (A4 Br) ?_;refine Qk A6 (A7 ?_)
 all_goals generalize Bb x (Mh (H1 x))=R at *
 ·refine Bk A0 false [8] (fun k:Nat=>[(18,.c (vi k)),(6,.c (vi ((R.2.take k).filter id).length))]) (fun k=>[⟨2,[.own 4,.c (vi R.1.graph.workers),.c (vi R.1.graph.cap),.own 5,.own 6,.own 7,.own 8]⟩,⟨1,[.c (.val (.slice none 0 0)),.c (vi 0),.c (vi 0),.c (.val (.slice none 0 0)),.c (.val (.slice none 0 0)),.c (.val (.slice none 0 0)),.c (.val (.slice none 0 0))]⟩]) (fun k=>[⟨9,Dw R.2⟩,⟨4,Bg R.1.graph.nodes⟩,⟨5,Ar R.1.workers⟩,⟨6,C4 R.1.links⟩,⟨7,Bm R.1.tokens⟩,⟨8,Cc R.1.news⟩])
   (fun k=>k≤R.2.length) (fun k=>R.2.length-k) 0 (Nat.zero_le _) ⟨F0,F0,trivial⟩ C2 ⟨Dm,Dm,Dm,Dm,Dm,Dm,trivial⟩ C1 A6 (fun k hk=>?_)
  conv=>whnf
  conv=>whnf
  refine Eo (fun hlt=>?_) fun hlt=>?_<;>conv=>whnf
  ·have hlt:k<R.2.length:=by omega
   have hc:=Zx hlt;have hle:((R.2.take k).filter id).length≤k:=Nat.le_trans (List.length_filter_le _ _) (by rw [List.length_take];omega);(repeat refine Ap ?_);refine ⟨fun hb=>?_,fun hb=>?_⟩<;>conv=>whnf
   ·rw [Int.toNat_natCast] at hb
    rw [if_pos hb] at hc;(repeat refine Ap ?_);refine Az [] (k+1) Ad Ad ⟨rfl,congrArg (fun n:Nat=>AV.c (vi (n:Int))) hc.symm,trivial⟩ ⟨rfl,rfl,rfl,rfl,rfl,rfl,trivial⟩ C2 A6 C1 A6
   rw [Int.toNat_natCast] at hb;rw [if_neg (by rw [hb];decide)] at hc;(repeat refine Ap ?_);refine Az [] (k+1) Ad Ad ⟨rfl,congrArg (fun n:Nat=>AV.c (vi (n:Int))) hc.symm,trivial⟩ ⟨rfl,rfl,rfl,rfl,rfl,rfl,trivial⟩ C2 A6 C1 A6
  obtain rfl:k=R.2.length:=by omega
  rw [hF,List.take_length];refine Am A0 rfl rfl ?_;exact B0
 ·refine Bk A0 false [8] (fun k:Nat=>[(18,.c (vi k)),(6,.c (vi ((R.2.take k).filter id).length))]) (fun k=>[⟨3,[.own 4,.c (vi R.1.graph.workers),.c (vi R.1.graph.cap),.own 5,.own 6,.own 7,.own 8]⟩,⟨1,[.c (.val (.slice none 0 0)),.c (vi 0),.c (vi 0),.c (.val (.slice none 0 0)),.c (.val (.slice none 0 0)),.c (.val (.slice none 0 0)),.c (.val (.slice none 0 0))]⟩]) (fun k=>[⟨9,Dw R.2⟩,⟨4,Bg R.1.graph.nodes⟩,⟨5,Ar R.1.workers⟩,⟨6,C4 R.1.links⟩,⟨7,Bm R.1.tokens⟩,⟨8,Cc R.1.news⟩])
   (fun k=>k≤R.2.length) (fun k=>R.2.length-k) 0 (Nat.zero_le _) ⟨F0,F0,trivial⟩ C2 ⟨Dm,Dm,Dm,Dm,Dm,Dm,trivial⟩ C1 A6 (fun k hk=>?_)
  conv=>whnf
  conv=>whnf
  refine Eo (fun hlt=>?_) fun hlt=>?_<;>conv=>whnf
  ·have hlt:k<R.2.length:=by omega
   have hc:=Zx hlt;have hle:((R.2.take k).filter id).length≤k:=Nat.le_trans (List.length_filter_le _ _) (by rw [List.length_take];omega);(repeat refine Ap ?_);refine ⟨fun hb=>?_,fun hb=>?_⟩<;>conv=>whnf
   ·rw [Int.toNat_natCast] at hb
    rw [if_pos hb] at hc;(repeat refine Ap ?_);refine Az [] (k+1) Ad Ad ⟨rfl,congrArg (fun n:Nat=>AV.c (vi (n:Int))) hc.symm,trivial⟩ ⟨rfl,rfl,rfl,rfl,rfl,rfl,trivial⟩ C2 A6 C1 A6
   rw [Int.toNat_natCast] at hb;rw [if_neg (by rw [hb];decide)] at hc;(repeat refine Ap ?_);refine Az [] (k+1) Ad Ad ⟨rfl,congrArg (fun n:Nat=>AV.c (vi (n:Int))) hc.symm,trivial⟩ ⟨rfl,rfl,rfl,rfl,rfl,rfl,trivial⟩ C2 A6 C1 A6
  obtain rfl:k=R.2.length:=by omega
  rw [hF,List.take_length];refine Am A0 rfl rfl ?_;exact B0
 refine Bk A0 false [8] (fun k:Nat=>[(18,.c (vi k)),(6,.c (vi ((R.2.take k).filter id).length))]) (fun k=>[⟨9,[.own 3,.c (vi R.1.graph.workers),.c (vi R.1.graph.cap),.own 4,.own 5,.own 6,.own 7]⟩,⟨1,[.c (.val (.slice none 0 0)),.c (vi 0),.c (vi 0),.c (.val (.slice none 0 0)),.c (.val (.slice none 0 0)),.c (.val (.slice none 0 0)),.c (.val (.slice none 0 0))]⟩]) (fun k=>[⟨8,Dw R.2⟩,⟨3,Bg R.1.graph.nodes⟩,⟨4,Ar R.1.workers⟩,⟨5,C4 R.1.links⟩,⟨6,Bm R.1.tokens⟩,⟨7,Cc R.1.news⟩])
  (fun k=>k≤R.2.length) (fun k=>R.2.length-k) 0 (Nat.zero_le _) ⟨F0,F0,trivial⟩ C2 ⟨Dm,Dm,Dm,Dm,Dm,Dm,trivial⟩ C1 A6 (fun k hk=>?_)
 conv=>whnf
 conv=>whnf
 refine Eo (fun hlt=>?_) fun hlt=>?_<;>conv=>whnf
 ·have hlt:k<R.2.length:=by omega
  have hc:=Zx hlt;have hle:((R.2.take k).filter id).length≤k:=Nat.le_trans (List.length_filter_le _ _) (by rw [List.length_take];omega);(repeat refine Ap ?_);refine ⟨fun hb=>?_,fun hb=>?_⟩<;>conv=>whnf
  ·rw [Int.toNat_natCast] at hb
   rw [if_pos hb] at hc;(repeat refine Ap ?_);refine Az [] (k+1) Ad Ad ⟨rfl,congrArg (fun n:Nat=>AV.c (vi (n:Int))) hc.symm,trivial⟩ ⟨rfl,rfl,rfl,rfl,rfl,rfl,trivial⟩ C2 A6 C1 A6
  rw [Int.toNat_natCast] at hb;rw [if_neg (by rw [hb];decide)] at hc;(repeat refine Ap ?_);refine Az [] (k+1) Ad Ad ⟨rfl,congrArg (fun n:Nat=>AV.c (vi (n:Int))) hc.symm,trivial⟩ ⟨rfl,rfl,rfl,rfl,rfl,rfl,trivial⟩ C2 A6 C1 A6
 obtain rfl:k=R.2.length:=by omega
 rw [hF,List.take_length];refine Am A0 rfl rfl ?_;exact B0
set_option maxHeartbeats 8000000 in
theorem A8f (x:A3)(most:Int)(h:x.w≤6000000)(hgo:Kw x):B3 Tryz.prog 81 [.agg x.c,.one (vi most)] [.agg (Cy (Cx most 0 3000).toNat x).1.c,.one (vi (Cy (Cx most 0 3000).toNat x).2)]:=by
 have hb:=Fe most 0 3000 B5;obtain ⟨n,hn⟩:∃n:Nat,Cx most 0 3000=n:=⟨(Cx most 0 3000).toNat,by omega⟩;rw [hn,Int.toNat_natCast];refine Aw A0 false Tryz.func81 rfl B5 fun W=>?_;conv=>whnf
 refine Bd (Ew x Ad) rfl (A7 ?_)
 refine Bk A0 false [11] (fun k:Nat=>[(7,.c (vi k))]) (fun k=>[⟨7,[.own 2,.c (vi (frN x k).graph.workers),.c (vi (frN x k).graph.cap),.own 3,.own 4,.own 5,.own 6]⟩,⟨1,[.c (.val (.slice none 0 0)),.c (vi 0),.c (vi 0),.c (.val (.slice none 0 0)),.c (.val (.slice none 0 0)),.c (.val (.slice none 0 0)),.c (.val (.slice none 0 0))]⟩]) (fun k=>[⟨2,Bg (frN x k).graph.nodes⟩,⟨3,Ar (frN x k).workers⟩,⟨4,C4 (frN x k).links⟩,⟨5,Bm (frN x k).tokens⟩,⟨6,Cc (frN x k).news⟩])
  (fun k=>k≤n∧∀i,i<k→(C5 (frN x i)).2≠0) (fun k=>n-k) 0 ⟨Nat.zero_le _,by first|rfl|assumption|simp⟩ ⟨F0,trivial⟩ C2 ⟨Dm,Dm,Dm,Dm,Dm,trivial⟩ C1 A6 (fun k hk=>?_)
 obtain ⟨hk,he⟩:=hk;conv=>whnf
 conv=>whnf
 refine As (Nw most 0 3000) rfl (A7 ?_);rw [hn];refine Eo (fun hlt=>?_) fun hlt=>?_<;>conv=>whnf
 ·have hlt:k<n:=by omega
  have hw:=C25 x k;refine Bd (A20 (frN x k) Ad (C1f hgo k)) rfl (A7 ?_);(repeat refine Ap ?_);refine ⟨fun h0=>have h0:=eq_of_beq h0;?_,fun h0=>have h0:=beq_eq_false_iff_ne.1 h0;?_⟩<;>conv=>whnf
  ·have h0:(C5 (frN x k)).2=0:=by omega
   rw [Pk hlt he h0];refine Am A0 rfl rfl ?_;exact B0
  have h0:(C5 (frN x k)).2≠0:=by omega
  refine Az [(2,8),(3,9),(4,10),(5,11),(6,12)] (k+1) ⟨by omega,fun i hi=>(Nat.lt_succ_iff_lt_or_eq.1 hi).elim (fun h4=>he i h4) (fun h4=>by subst h4;exact h0)⟩ Ad ⟨rfl,trivial⟩ ⟨rfl,rfl,rfl,rfl,rfl,trivial⟩ C2 A6 C1 A6
 obtain rfl:k=n:=by omega
 rw [Pj he];refine Am A0 rfl rfl ?_;exact B0
theorem B0f (xs:List Aa):(Hr xs).w=xs.length+12:=by simp [Ab.w,Hr]
theorem C1z {n:Int}{l:List Aa}{k:Nat}(hl:l.length≤20):((Du n l k).map Ab.w).sum≤k * 92:=by
 induction k with
 |zero=>simp [Du]
 |succ k ih=>
  rw [Wz,List.map_append,List.sum_append];have h1:=Rg n l k 4;simp only [List.map_cons,List.map_nil,List.sum_cons,List.sum_nil,B0f];omega
theorem C32 (m:Nat)(n:Int):((List.replicate m (F2 n)).map Ca.w).sum=0:=by
 induction m with
 |zero=>rfl
 |succ m ih=>
  rw [List.replicate_succ,List.map_cons,List.sum_cons,ih];rfl
theorem A8y {g:Ah}{l:List Aa}:(Aj g l).1.w≤g.w+2000:=by
 by_cases h:L3 g l
 ·have hw:=h.1.2.1
  obtain ⟨n,hn⟩:∃n:Nat,g.workers=n:=⟨g.workers.toNat,by omega⟩;have h1:=C1z (n:=g.workers) (l:=l) (k:=g.workers.toNat) h.2.1;have h2:=C32 (g.workers.toNat * g.workers.toNat) g.cap;have h3:=Re g.workers l g.workers.toNat;have h4:g.workers.toNat * g.workers.toNat≤16:=Nat.mul_le_mul (show g.workers.toNat≤4 by omega) (show g.workers.toNat≤4 by omega)
  rw [J3 h];simp only [A3.w,wS,List.length_replicate,List.length_nil];rw [h2,h3];have h5:g.workers.toNat≤4:=by omega
  omega
 rw [J8 h]
 show Sb.w≤_
 have:Sb.w=0:=rfl
 omega
theorem C10 {g:Ah}{l:List Aa}:Kw (Aj g l).1:=by
 by_cases h:L3 g l
 ·rw [J3 h]
  intro k hk
  have:=List.eq_of_mem_replicate hk
  rw [this]
  show (0:Int)≤_
  decide
 rw [J8 h];intro k hk
 cases hk
theorem Yf (x:Ah)(n:Int)(h:x.w≤16777216):B3 Tryz.prog 24 [.agg x.c,.one (vi n)] [.agg (Ah.c {x with cap:=n})]:=by
 refine Aw A0 false Tryz.func24 rfl B5 fun W=>?_;conv=>whnf
 refine Bd (Jk x h) rfl (A7 ?_);exact Am A0 rfl rfl ⟨⟨rfl,rfl,rfl,trivial⟩,trivial⟩
theorem Xw (x:Ah)(n:Int)(h:x.w≤16777216):B3 Tryz.prog 23 [.agg x.c,.one (vi n)] [.agg (Ah.c {x with cap:=n})]:=by
 refine Aw A0 false Tryz.func23 rfl B5 fun W=>?_;conv=>whnf
 refine Bd (Je x h) rfl (A7 ?_);exact Am A0 rfl rfl ⟨⟨rfl,rfl,rfl,trivial⟩,trivial⟩
theorem Qn (x:Ah)(n:Int)(h:x.w≤16777216):B3 Tryz.prog 22 [.agg x.c,.one (vi n)] [.agg (Ah.c {x with workers:=n})]:=by
 refine Aw A0 false Tryz.func22 rfl B5 fun W=>?_;conv=>whnf
 refine Bd (Jk x h) rfl (A7 ?_);exact Am A0 rfl rfl ⟨⟨rfl,rfl,rfl,trivial⟩,trivial⟩
theorem Ql (x:Ah)(n:Int)(h:x.w≤16777216):B3 Tryz.prog 21 [.agg x.c,.one (vi n)] [.agg (Ah.c {x with workers:=n})]:=by
 refine Aw A0 false Tryz.func21 rfl B5 fun W=>?_;conv=>whnf
 refine Bd (Je x h) rfl (A7 ?_);exact Am A0 rfl rfl ⟨⟨rfl,rfl,rfl,trivial⟩,trivial⟩
def Hz (g:Ah) (l:List Aa) (e:Int):List Ae×Bool:=
 if (Aj g l).2=true then
  (It (Cy 3000 (Aj g l).1).1 e,(Ee ((Cy 3000 (Aj g l).1).1.workers.getD 0 default) e).2&&!(Ee ((Cy 3000 (Aj g l).1).1.workers.getD 0 default) e).1.capped)
 else ([],false)
def F8 (g:Ah) (l:List Aa) (e w k:Int):List Ae×Bool:=Hz {g with workers:=w,cap:=k} l e
theorem C26 {g:Ah}{l:List Aa}{e:Int}(h:(Aj g l).2=false):Hz g l e=([],false):=if_neg (by rw [h];decide)
theorem A5p {g:Ah}{l:List Aa}{e:Int}(h:(Aj g l).2=true):Hz g l e=(It (Cy 3000 (Aj g l).1).1 e,(Ee ((Cy 3000 (Aj g l).1).1.workers.getD 0 default) e).2&&!(Ee ((Cy 3000 (Aj g l).1).1.workers.getD 0 default) e).1.capped):=if_pos h
theorem B85 {g:Ah}{l:List Aa}(h:(Aj g l).2=true):0<(Aj g l).1.workers.length:=by
 by_cases hN:L3 g l
 ·rw [J3 hN]
  show 0<(Du g.workers l g.workers.toNat).length
  rw [Re]
  have:=hN.1.2.1
  omega
 rw [J8 hN] at h
 cases h
theorem B7b:(Cx 3000 0 3000).toNat=3000:=rfl
theorem C34 {g:Ah}{l:List Aa}(h:(Aj g l).2=true):Gk .i64 (Aj g l).1.graph.workers:=by
 by_cases hN:L3 g l
 ·rw [J3 hN]
  have:=hN.1.2.1
  show (_:Int)≤g.workers∧g.workers≤_
  omega
 rw [J8 hN] at h
 cases h
set_option maxHeartbeats 4000000 in
theorem A01 (g:Ah)(l:List Aa)(e:Int)(hg:g.w≤1040000+8576)(hl:l.length≤1040000+8576):B3 Tryz.prog 51 [.agg g.c,.one (Af l),.one (vi e)] [.one (Ak (Hz g l e).1),.one (vb (Hz g l e).2)]:=by
 refine Aw A0 false Tryz.func51 rfl B5 fun W=>?_;conv=>whnf
 refine Bd (A0y g l Ad Ad) rfl (A7 ?_);refine ⟨fun hk=>?_,fun hk=>?_⟩<;>conv=>whnf
 ·have hk:(Aj g l).2=false:=by simpa using hk
  repeat refine B2 ?_
  rw [C26 hk];refine Am A0 rfl rfl ?_;exact B0
 have hk:(Aj g l).2=true:=by simpa using hk
 have h0:=B85 hk;have hw1:=A8y (g:=g) (l:=l);have hw2:=S7 3000 (Aj g l).1;have hl0:0<(Cy 3000 (Aj g l).1).1.workers.length:=by rw [A0j];exact h0
 have hwk:=A3.worker_le (Nat.le_refl (Cy 3000 (Aj g l).1).1.w) hl0
 repeat refine B2 ?_
 refine Bd (A8f (Aj g l).1 3000 Ad C10) rfl (A7 ?_);rw [B7b];generalize hC:(Cy 3000 (Aj g l).1).1=C at *;(repeat refine Ap ?_);refine T0 A0 rfl rfl rfl rfl rfl (jn:=0) rfl (r:=Ab.c ((C.workers).getD (0) default)) rfl hl0 rfl rfl (fun u=>go A0 false ?_);conv=>whnf
 refine As (B06 (C.workers.getD 0 default) e Ad) rfl (A7 ?_);refine Mf 8 (0) [(0,12),(1,13),(2,14),(3,15),(4,16),(5,17),(6,18),(7,19)] (Ar C.workers) hl0 rfl rfl H3 rfl (D8 rfl) (G3 ?_);conv=>whnf
 first|(refine Ax 6 rfl [0,1,3,2,4,5,6,7,8,9,10] A6 (A7 ?_))
 refine Bd (A5t C e Ad) rfl (A7 ?_)
 repeat refine B2 ?_
 refine ⟨fun h5=>?_,fun h5=>?_⟩<;>conv=>whnf
 ·repeat refine B2 ?_
  rw [A5p hk,hC,h5];refine Am A0 rfl rfl ?_;exact B0
 repeat refine B2 ?_
 rw [A5p hk,hC,h5];refine Am A0 rfl rfl ?_;exact B0
theorem Oq (g:Ah)(l:List Aa)(e w k:Int)(hg:g.w≤1040000+8576)(hl:l.length≤1040000+8576):B3 Tryz.prog 7 [.agg g.c,.one (Af l),.one (vi e),.one (vi w),.one (vi k)] [.one (Ak (F8 g l e w k).1),.one (vb (F8 g l e w k).2)]:=by
 refine Aw A0 false Tryz.func7 rfl B5 fun W=>?_;conv=>whnf
 refine Bd (Ql g w Ad) rfl (A7 ?_);refine Bd (Xw {g with workers:=w} k (by show g.w≤_;omega)) rfl (A7 ?_)
 refine Bd (A01 {g with workers:=w,cap:=k} l e hg hl) rfl (A7 ?_);refine Am A0 rfl rfl ?_;exact B0
end Go.Proofs.YtdendlkeiaccpaaGreat
