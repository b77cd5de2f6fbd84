/- Part 36 of the proof that each of the laws FnExactRunScriptOf, FnExactSpreadResult returns true for every input. No conditions. -/
import Derived.Test.YtlbmkgkmbjadcaaGreatP17

set_option linter.unusedSimpArgs false
set_option linter.unusedVariables false
set_option maxRecDepth 100000
namespace Go.Proofs.YtlbmkgkmbjadcaaGreat
open Go.Sx
theorem A4t {n es:Nat}{row:Nat→List Ab}{j off:Nat}{r cs:List Ab}:Mt n es (Fg row j r) j off cs (.sl n es (Fg row j (Dk r off cs))):=
 ⟨_,rfl,fun i _ hne=>by rw [Jy _ _ _ _ hne,Jy _ _ _ _ hne],by rw [Ct,Ct]⟩
set_option maxHeartbeats 8000000 in
theorem Yh (x:A4)(e:Int)(h:x.w≤16000000)(hgo:Jl x):Aq Tryz.prog 83 [.agg x.c,.one (vi e)] [.agg (D3 x e).1.c,.one (vb (D3 x e).2)]:=by
 refine Aj A0 false Tryz.func83 rfl Bs fun W=>?_
 conv=>whnf
 refine Av (Ea x Ad) rfl (Ae ?_)
 refine Ai (K1 x Ad hgo) rfl (Ae ?_)
 refine ⟨fun hC=>?_,fun hC=>?_⟩<;>conv=>whnf
 ·repeat refine B9 ?_
  refine Ah A0 rfl rfl ?_
  rw [O9 (fun p=>by rw [show B8 x=true from decide_eq_true p.1] at hC;exact absurd hC Bs)]
  exact C1
 have hC:Bg x:=of_decide_eq_true (show B8 x=true by simpa using hC)
 have hl0:1≤x.workers.length:=by have:=hC.1.2.1;have:=hC.1.1.2.1;omega
 have htl:x.tokens.length=4:=hC.1.2.2.2
 have hwl4:x.workers.length≤4:=by have:=hC.1.2.1;have:=hC.1.1.2.1;omega
 repeat refine B9 ?_
 refine Ai (Hj e 0 3) rfl (Ae ?_)
 repeat refine B9 ?_
 refine ⟨fun hE=>?_,fun hE=>?_⟩<;>conv=>whnf
 ·repeat refine B9 ?_
  refine Ah A0 rfl rfl ?_
  rw [O9 (fun p=>by have:=p.2.1;clear hC hgo p;simp only [beq_iff_eq,beq_eq_false_iff_ne,bne_iff_ne,bne_eq_false_iff_eq,Bool.not_eq_true',Bool.not_eq_false',Go.Sx.Am,Go.Sx.Aw,decide_eq_true_eq,decide_eq_false_iff_not,ne_eq,Int.not_lt,Int.not_le,ge_iff_le,gt_iff_lt,Int.toNat_zero,Int.toNat_one,Int.toNat_natCast] at *;omega)]
  exact C1
 have hE:0≤e∧e≤3:=by clear hC hgo;simp only [beq_iff_eq,beq_eq_false_iff_ne,bne_iff_ne,bne_eq_false_iff_eq,Bool.not_eq_true',Bool.not_eq_false',Go.Sx.Am,Go.Sx.Aw,decide_eq_true_eq,decide_eq_false_iff_not,ne_eq,Int.not_lt,Int.not_le,ge_iff_le,gt_iff_lt,Int.toNat_zero,Int.toNat_one,Int.toNat_natCast] at *;omega
 repeat refine B9 ?_
 (repeat refine An ?_)
 refine Ai (Wi (Ag x 0) e (by have:=A4.worker_le h (show 0<x.workers.length by omega);show (x.workers.getD 0 default).w≤_;omega)) rfl (Ae ?_)
 repeat refine B9 ?_
 refine ⟨fun hD=>?_,fun hD=>?_⟩<;>conv=>whnf
 ·repeat refine B9 ?_
  refine Ah A0 rfl rfl ?_
  rw [O9 (fun p=>by rw [p.2.2.1] at hD;cases hD)]
  exact C1
 have hE1:e<x.tokens.length:=by omega
 have htk:e.toNat<x.tokens.length:=by omega
 have hTP:=hC.2.2.2.1 _ (B2 (d:=default) htk)
 have hat:0≤(x.tokens.getD e.toNat default).at_∧(x.tokens.getD e.toNat default).at_<x.workers.length:=by
  have:=hC.1.2.1
  have:=hTP.1
  omega
 have hj:(x.tokens.getD e.toNat default).at_.toNat<x.workers.length:=by omega
 have hWP:=hC.2.1 _ (B2 (d:=default) hj)
 (repeat refine An ?_)
 first|(refine Ak 5 rfl [0,1,2,3,4,5,6,7] A5 (Ae ?_))|(refine Ak 17 rfl [0,1,2,3,4,5,6,7,8,9,10,11,12,13,14] A5 (Ae ?_))|(refine Ak 20 rfl [0,1,2,3,4,5,6,7,8,9,10,11,12,13] A5 (Ae ?_))|(refine Ak 22 rfl [0,1,2,3,4,5,6,7,8,9,10,11,12,13,14] A5 (Ae ?_))|(refine Ak 9 rfl [0,1,2,3,4,5,6,7,8,9,10,11,12,13,14,15,16,17,18,19,20,21,22,23,24,25,26,27,28,29] A5 (Ae ?_))
 refine ⟨by exact hat,?_⟩
 conv=>whnf
 (repeat refine An ?_)
 refine Qg A0 rfl rfl rfl rfl rfl (jn:=(x.tokens.getD e.toNat default).at_.toNat) rfl (r:=A6.c ((x.workers).getD ((x.tokens.getD e.toNat default).at_.toNat) default)) rfl hj rfl rfl (fun u=>go A0 false ?_)
 conv=>whnf
 refine Ai (Yf (x.workers.getD (x.tokens.getD e.toNat default).at_.toNat default) e (by have:=A4.worker_le h hj;omega)) rfl ?_
 refine go A0 false ?_
 conv=>whnf
 refine ⟨fun hP=>?_,fun hP=>?_⟩<;>conv=>whnf
 ·repeat refine B9 ?_
  rw [O9 (fun p=>by have q:=p.2.2.2;rw [show Ag x (Ac x e).at_=x.workers.getD (x.tokens.getD e.toNat default).at_.toNat default from rfl] at q;rw [q] at hP;cases hP)]
  refine F6 Tryz.prog 3 ((x.tokens.getD e.toNat default).at_.toNat) [(0,8),(1,9),(2,10),(3,11),(4,12),(5,13),(6,14),(7,15)] (Ap (x.workers)) hj rfl rfl Lw rfl (Cm rfl) ?_
  refine Ah A0 rfl rfl ?_
  exact C1
 have hP:Hv (x.workers.getD (x.tokens.getD e.toNat default).at_.toNat default) e=true:=by simpa using hP
 have hT:Q7 x e:=⟨hC,hE,hD,hP⟩
 obtain ⟨hL1,hL2,hL3⟩:=hWP.2.1
 have hs1:=hTP.2.2
 have hbl:e.toNat<(Ag x (Ac x e).at_).black.length:=by
  show e.toNat<(x.workers.getD (x.tokens.getD e.toNat default).at_.toNat default).black.length
  omega
 have hs2:Hc ((x.workers.getD (x.tokens.getD e.toNat default).at_.toNat default).sums.getD e.toNat default):=hWP.2.2.2.1 _ (B2 Ad)
 simp only [Hc] at hs2
 have hdl:(x.workers.getD (x.tokens.getD e.toNat default).at_.toNat default).dones.length≤16000000:=by have:=A4.worker_le h hj;simp only [A6.w] at this;omega
 have hnl:=A4.news_le h
 have hwl:=A4.workers_le h
 repeat refine B9 ?_
 refine ⟨fun hg=>?_,fun hg=>?_⟩<;>conv=>whnf
 ·have hg:(Ac x e).going=false:=by simpa [Ac] using hg
  first|(refine Ak 5 rfl [0,1,2,3,4,5,6,7] A5 (Ae ?_))|(refine Ak 17 rfl [0,1,2,3,4,5,6,7,8,9,10,11,12,13,14] A5 (Ae ?_))|(refine Ak 20 rfl [0,1,2,3,4,5,6,7,8,9,10,11,12,13] A5 (Ae ?_))|(refine Ak 22 rfl [0,1,2,3,4,5,6,7,8,9,10,11,12,13,14] A5 (Ae ?_))|(refine Ak 9 rfl [0,1,2,3,4,5,6,7,8,9,10,11,12,13,14,15,16,17,18,19,20,21,22,23,24,25,26,27,28,29] A5 (Ae ?_))
  (repeat refine An ?_)
  refine Ja A0 rfl rfl rfl rfl rfl rfl (jn:=(x.tokens.getD e.toNat default).at_.toNat) rfl (Ct _ _ _) rfl (Ae ?_)
  refine A8p 132 14 rfl rfl (Ae ?_)
  (repeat refine An ?_)
  refine Bj (j:=e) A0 rfl rfl rfl rfl rfl rfl rfl rfl (Be (x.tokens.set e.toNat ⟨true,(x.workers.length:Int)-1,0,false,(Ag x (Ac x e).at_).caps.getD e.toNat default⟩)) (Cz htk rfl) (Ae ?_)
  refine Ja A0 rfl rfl rfl rfl rfl rfl (jn:=(x.tokens.getD e.toNat default).at_.toNat) rfl (Ct _ _ _) rfl (Ae ?_)
  refine A8p 145 13 rfl rfl (Ae ?_)
  (repeat refine An ?_)
  refine Bj (j:=e) A0 rfl rfl rfl rfl rfl rfl rfl rfl (Cx ((Ag x (Ac x e).at_).black.set e.toNat false)) (Cz hbl rfl) (Ae ?_)
  rw [A0b hT hg]
  refine F6 Tryz.prog 3 ((x.tokens.getD e.toNat default).at_.toNat) [(0,8),(1,9),(2,10),(3,11),(4,12),(5,13),(6,14),(7,15)] (Ap ((x.workers.set (x.tokens.getD e.toNat default).at_.toNat (Hf (Ag x (Ac x e).at_) e)))) hj rfl rfl Lw rfl (Fx hj rfl) ?_
  refine Ah A0 rfl rfl ?_
  exact C1
 ·have hg:(Ac x e).going=true:=by simpa [Ac] using hg
  refine ⟨fun hA=>?_,fun hA=>?_⟩<;>conv=>whnf
  ·have hA:(Ac x e).at_>0:=of_decide_eq_true hA
   first|(refine Ak 5 rfl [0,1,2,3,4,5,6,7] A5 (Ae ?_))|(refine Ak 17 rfl [0,1,2,3,4,5,6,7,8,9,10,11,12,13,14] A5 (Ae ?_))|(refine Ak 20 rfl [0,1,2,3,4,5,6,7,8,9,10,11,12,13] A5 (Ae ?_))|(refine Ak 22 rfl [0,1,2,3,4,5,6,7,8,9,10,11,12,13,14] A5 (Ae ?_))|(refine Ak 9 rfl [0,1,2,3,4,5,6,7,8,9,10,11,12,13,14,15,16,17,18,19,20,21,22,23,24,25,26,27,28,29] A5 (Ae ?_))
   (repeat refine An ?_)
   refine Ja A0 rfl rfl rfl rfl rfl rfl (jn:=(x.tokens.getD e.toNat default).at_.toNat) rfl (Ct _ _ _) rfl (Ae ?_)
   refine A8p 161 12 rfl rfl (Ae ?_)
   (repeat refine An ?_)
   refine Ai (Hj _ (-1000000) 1000000) rfl ?_
   refine go A0 false ?_
   conv=>whnf
   refine ⟨fun hS=>?_,fun hS=>?_⟩<;>conv=>whnf
   ·repeat refine B9 ?_
    rw [A8e hT hg hA (fun p=>by have q:Eg _ (-1000000) 1000000=false:=(Bool.not_eq_true' _).mp hS;exact absurd ((Go.Sx.Am.2 p).symm.trans q) Bs)]
    refine F6 Tryz.prog 3 ((x.tokens.getD e.toNat default).at_.toNat) [(0,8),(1,9),(2,10),(3,11),(4,12),(5,13),(6,14),(7,15)] (Ap (x.workers)) hj rfl rfl Lw rfl (Cm rfl) ?_
    refine Ah A0 rfl rfl ?_
    exact C1
   have hS:Hc ((Ac x e).sum+(Ag x (Ac x e).at_).sums.getD e.toNat default):=Go.Sx.Am.1 ((Bool.not_eq_false' _).mp hS)
   repeat refine B9 ?_
   first|(refine Ak 5 rfl [0,1,2,3,4,5,6,7] A5 (Ae ?_))|(refine Ak 17 rfl [0,1,2,3,4,5,6,7,8,9,10,11,12,13,14] A5 (Ae ?_))|(refine Ak 20 rfl [0,1,2,3,4,5,6,7,8,9,10,11,12,13] A5 (Ae ?_))|(refine Ak 22 rfl [0,1,2,3,4,5,6,7,8,9,10,11,12,13,14] A5 (Ae ?_))|(refine Ak 9 rfl [0,1,2,3,4,5,6,7,8,9,10,11,12,13,14,15,16,17,18,19,20,21,22,23,24,25,26,27,28,29] A5 (Ae ?_))
   (repeat refine An ?_)
   refine Ja A0 rfl rfl rfl rfl rfl rfl (jn:=(x.tokens.getD e.toNat default).at_.toNat) rfl (Ct _ _ _) rfl (Ae ?_)
   refine A8p 176 12 rfl rfl (Ae ?_)
   (repeat refine An ?_)
   refine Bj (j:=e) A0 rfl rfl rfl rfl rfl rfl rfl rfl (Be (x.tokens.set e.toNat ⟨(Ac x e).going,(Ac x e).at_,(Ac x e).sum+(Ag x (Ac x e).at_).sums.getD e.toNat default,(Ac x e).black,(Ac x e).capped⟩)) (Cz htk rfl) (Ae ?_)
   refine ⟨fun hb=>?_,fun hb=>?_⟩<;>conv=>whnf
   ·have hb:(Ac x e).black=true:=by rw [Sx.getD_set_self _ _ _ _ htk] at hb;exact hb
    repeat refine B9 ?_
    (repeat refine An ?_)
    refine Bj (j:=e) A0 rfl rfl rfl rfl rfl rfl rfl rfl (Be (x.tokens.set e.toNat ⟨(Ac x e).going,(Ac x e).at_,(Ac x e).sum+(Ag x (Ac x e).at_).sums.getD e.toNat default,(Ac x e).black||(Ag x (Ac x e).at_).black.getD e.toNat default,(Ac x e).capped⟩)) (D4 htk (by rw [hb];rfl)) (Ae ?_)
    refine ⟨fun hc=>?_,fun hc=>?_⟩<;>conv=>whnf
    ·have hc:(Ac x e).capped=true:=by rw [Sx.getD_set_self _ _ _ _ htk] at hc;exact hc
     repeat refine B9 ?_
     (repeat refine An ?_)
     refine Bj (j:=e) A0 rfl rfl rfl rfl rfl rfl rfl rfl (Be (x.tokens.set e.toNat ⟨(Ac x e).going,(Ac x e).at_,(Ac x e).sum+(Ag x (Ac x e).at_).sums.getD e.toNat default,(Ac x e).black||(Ag x (Ac x e).at_).black.getD e.toNat default,(Ac x e).capped||(Ag x (Ac x e).at_).caps.getD e.toNat default⟩)) (D4 htk (by rw [hc];rfl)) (Ae ?_)
     refine Ja A0 rfl rfl rfl rfl rfl rfl (jn:=(x.tokens.getD e.toNat default).at_.toNat) rfl (Ct _ _ _) rfl (Ae ?_)
     refine A8p 218 13 rfl rfl (Ae ?_)
     (repeat refine An ?_)
     refine Bj (j:=e) A0 rfl rfl rfl rfl rfl rfl rfl rfl (Cx ((Ag x (Ac x e).at_).black.set e.toNat false)) (Cz hbl rfl) (Ae ?_)
     refine ⟨by (rw [Sx.getD_set_self _ _ _ _ htk];have q:0≤(Ac x e).at_∧(Ac x e).at_<x.workers.length:=hat;show _≤(Ac x e).at_-1∧(Ac x e).at_-1≤_;omega),?_⟩
     conv=>whnf
     refine Bj (j:=e) A0 rfl rfl rfl rfl rfl rfl rfl rfl (Be (x.tokens.set e.toNat ⟨true,(Ac x e).at_-1,(Ac x e).sum+(Ag x (Ac x e).at_).sums.getD e.toNat default,(Ac x e).black||(Ag x (Ac x e).at_).black.getD e.toNat default,(Ac x e).capped||(Ag x (Ac x e).at_).caps.getD e.toNat default⟩)) (D4 htk (by rw [Sx.getD_set_self _ _ _ _ htk,hg];rfl)) (Ae ?_)
     rw [Kg hT hg hA hS]
     refine F6 Tryz.prog 3 ((x.tokens.getD e.toNat default).at_.toNat) [(0,8),(1,9),(2,10),(3,11),(4,12),(5,13),(6,14),(7,15)] (Ap ((x.workers.set (x.tokens.getD e.toNat default).at_.toNat (Hf (Ag x (Ac x e).at_) e)))) hj rfl rfl Lw rfl (Fx hj rfl) ?_
     refine Ah A0 rfl rfl ?_
     exact C1
    ·have hc:(Ac x e).capped=false:=by rw [Sx.getD_set_self _ _ _ _ htk] at hc;exact hc
     repeat refine B9 ?_
     refine Ja A0 rfl rfl rfl rfl rfl rfl (jn:=(x.tokens.getD e.toNat default).at_.toNat) rfl (Ct _ _ _) rfl (Ae ?_)
     repeat refine B9 ?_
     refine A8p 208 14 rfl rfl (Ae ?_)
     repeat refine B9 ?_
     (repeat refine An ?_)
     refine Bj (j:=e) A0 rfl rfl rfl rfl rfl rfl rfl rfl (Be (x.tokens.set e.toNat ⟨(Ac x e).going,(Ac x e).at_,(Ac x e).sum+(Ag x (Ac x e).at_).sums.getD e.toNat default,(Ac x e).black||(Ag x (Ac x e).at_).black.getD e.toNat default,(Ac x e).capped||(Ag x (Ac x e).at_).caps.getD e.toNat default⟩)) (D4 htk (by rw [hc];rfl)) (Ae ?_)
     refine Ja A0 rfl rfl rfl rfl rfl rfl (jn:=(x.tokens.getD e.toNat default).at_.toNat) rfl (Ct _ _ _) rfl (Ae ?_)
     refine A8p 218 13 rfl rfl (Ae ?_)
     (repeat refine An ?_)
     refine Bj (j:=e) A0 rfl rfl rfl rfl rfl rfl rfl rfl (Cx ((Ag x (Ac x e).at_).black.set e.toNat false)) (Cz hbl rfl) (Ae ?_)
     refine ⟨by (rw [Sx.getD_set_self _ _ _ _ htk];have q:0≤(Ac x e).at_∧(Ac x e).at_<x.workers.length:=hat;show _≤(Ac x e).at_-1∧(Ac x e).at_-1≤_;omega),?_⟩
     conv=>whnf
     refine Bj (j:=e) A0 rfl rfl rfl rfl rfl rfl rfl rfl (Be (x.tokens.set e.toNat ⟨true,(Ac x e).at_-1,(Ac x e).sum+(Ag x (Ac x e).at_).sums.getD e.toNat default,(Ac x e).black||(Ag x (Ac x e).at_).black.getD e.toNat default,(Ac x e).capped||(Ag x (Ac x e).at_).caps.getD e.toNat default⟩)) (D4 htk (by rw [Sx.getD_set_self _ _ _ _ htk,hg];rfl)) (Ae ?_)
     rw [Kg hT hg hA hS]
     refine F6 Tryz.prog 3 ((x.tokens.getD e.toNat default).at_.toNat) [(0,8),(1,9),(2,10),(3,11),(4,12),(5,13),(6,14),(7,15)] (Ap ((x.workers.set (x.tokens.getD e.toNat default).at_.toNat (Hf (Ag x (Ac x e).at_) e)))) hj rfl rfl Lw rfl (Fx hj rfl) ?_
     refine Ah A0 rfl rfl ?_
     exact C1
   ·have hb:(Ac x e).black=false:=by rw [Sx.getD_set_self _ _ _ _ htk] at hb;exact hb
    repeat refine B9 ?_
    refine Ja A0 rfl rfl rfl rfl rfl rfl (jn:=(x.tokens.getD e.toNat default).at_.toNat) rfl (Ct _ _ _) rfl (Ae ?_)
    repeat refine B9 ?_
    refine A8p 192 13 rfl rfl (Ae ?_)
    repeat refine B9 ?_
    (repeat refine An ?_)
    refine Bj (j:=e) A0 rfl rfl rfl rfl rfl rfl rfl rfl (Be (x.tokens.set e.toNat ⟨(Ac x e).going,(Ac x e).at_,(Ac x e).sum+(Ag x (Ac x e).at_).sums.getD e.toNat default,(Ac x e).black||(Ag x (Ac x e).at_).black.getD e.toNat default,(Ac x e).capped⟩)) (D4 htk (by rw [hb];rfl)) (Ae ?_)
    refine ⟨fun hc=>?_,fun hc=>?_⟩<;>conv=>whnf
    ·have hc:(Ac x e).capped=true:=by rw [Sx.getD_set_self _ _ _ _ htk] at hc;exact hc
     repeat refine B9 ?_
     (repeat refine An ?_)
     refine Bj (j:=e) A0 rfl rfl rfl rfl rfl rfl rfl rfl (Be (x.tokens.set e.toNat ⟨(Ac x e).going,(Ac x e).at_,(Ac x e).sum+(Ag x (Ac x e).at_).sums.getD e.toNat default,(Ac x e).black||(Ag x (Ac x e).at_).black.getD e.toNat default,(Ac x e).capped||(Ag x (Ac x e).at_).caps.getD e.toNat default⟩)) (D4 htk (by rw [hc];rfl)) (Ae ?_)
     refine Ja A0 rfl rfl rfl rfl rfl rfl (jn:=(x.tokens.getD e.toNat default).at_.toNat) rfl (Ct _ _ _) rfl (Ae ?_)
     refine A8p 218 13 rfl rfl (Ae ?_)
     (repeat refine An ?_)
     refine Bj (j:=e) A0 rfl rfl rfl rfl rfl rfl rfl rfl (Cx ((Ag x (Ac x e).at_).black.set e.toNat false)) (Cz hbl rfl) (Ae ?_)
     refine ⟨by (rw [Sx.getD_set_self _ _ _ _ htk];have q:0≤(Ac x e).at_∧(Ac x e).at_<x.workers.length:=hat;show _≤(Ac x e).at_-1∧(Ac x e).at_-1≤_;omega),?_⟩
     conv=>whnf
     refine Bj (j:=e) A0 rfl rfl rfl rfl rfl rfl rfl rfl (Be (x.tokens.set e.toNat ⟨true,(Ac x e).at_-1,(Ac x e).sum+(Ag x (Ac x e).at_).sums.getD e.toNat default,(Ac x e).black||(Ag x (Ac x e).at_).black.getD e.toNat default,(Ac x e).capped||(Ag x (Ac x e).at_).caps.getD e.toNat default⟩)) (D4 htk (by rw [Sx.getD_set_self _ _ _ _ htk,hg];rfl)) (Ae ?_)
     rw [Kg hT hg hA hS]
     refine F6 Tryz.prog 3 ((x.tokens.getD e.toNat default).at_.toNat) [(0,8),(1,9),(2,10),(3,11),(4,12),(5,13),(6,14),(7,15)] (Ap ((x.workers.set (x.tokens.getD e.toNat default).at_.toNat (Hf (Ag x (Ac x e).at_) e)))) hj rfl rfl Lw rfl (Fx hj rfl) ?_
     refine Ah A0 rfl rfl ?_
     exact C1
    ·have hc:(Ac x e).capped=false:=by rw [Sx.getD_set_self _ _ _ _ htk] at hc;exact hc
     repeat refine B9 ?_
     refine Ja A0 rfl rfl rfl rfl rfl rfl (jn:=(x.tokens.getD e.toNat default).at_.toNat) rfl (Ct _ _ _) rfl (Ae ?_)
     repeat refine B9 ?_
     refine A8p 208 14 rfl rfl (Ae ?_)
     repeat refine B9 ?_
     (repeat refine An ?_)
     refine Bj (j:=e) A0 rfl rfl rfl rfl rfl rfl rfl rfl (Be (x.tokens.set e.toNat ⟨(Ac x e).going,(Ac x e).at_,(Ac x e).sum+(Ag x (Ac x e).at_).sums.getD e.toNat default,(Ac x e).black||(Ag x (Ac x e).at_).black.getD e.toNat default,(Ac x e).capped||(Ag x (Ac x e).at_).caps.getD e.toNat default⟩)) (D4 htk (by rw [hc];rfl)) (Ae ?_)
     refine Ja A0 rfl rfl rfl rfl rfl rfl (jn:=(x.tokens.getD e.toNat default).at_.toNat) rfl (Ct _ _ _) rfl (Ae ?_)
     refine A8p 218 13 rfl rfl (Ae ?_)
     (repeat refine An ?_)
     refine Bj (j:=e) A0 rfl rfl rfl rfl rfl rfl rfl rfl (Cx ((Ag x (Ac x e).at_).black.set e.toNat false)) (Cz hbl rfl) (Ae ?_)
     refine ⟨by (rw [Sx.getD_set_self _ _ _ _ htk];have q:0≤(Ac x e).at_∧(Ac x e).at_<x.workers.length:=hat;show _≤(Ac x e).at_-1∧(Ac x e).at_-1≤_;omega),?_⟩
     conv=>whnf
     refine Bj (j:=e) A0 rfl rfl rfl rfl rfl rfl rfl rfl (Be (x.tokens.set e.toNat ⟨true,(Ac x e).at_-1,(Ac x e).sum+(Ag x (Ac x e).at_).sums.getD e.toNat default,(Ac x e).black||(Ag x (Ac x e).at_).black.getD e.toNat default,(Ac x e).capped||(Ag x (Ac x e).at_).caps.getD e.toNat default⟩)) (D4 htk (by rw [Sx.getD_set_self _ _ _ _ htk,hg];rfl)) (Ae ?_)
     rw [Kg hT hg hA hS]
     refine F6 Tryz.prog 3 ((x.tokens.getD e.toNat default).at_.toNat) [(0,8),(1,9),(2,10),(3,11),(4,12),(5,13),(6,14),(7,15)] (Ap ((x.workers.set (x.tokens.getD e.toNat default).at_.toNat (Hf (Ag x (Ac x e).at_) e)))) hj rfl rfl Lw rfl (Fx hj rfl) ?_
     refine Ah A0 rfl rfl ?_
     exact C1
  ·have hA:¬ (Ac x e).at_>0:=of_decide_eq_false hA
   have hz:(x.tokens.getD e.toNat default).at_=0:=by
    have:¬ (x.tokens.getD e.toNat default).at_>0:=hA
    omega
   (repeat refine An ?_)
   refine Bj (j:=e) A0 rfl rfl rfl rfl rfl rfl rfl rfl (Be (x.tokens.set e.toNat ⟨false,(Ac x e).at_,(Ac x e).sum,(Ac x e).black,(Ac x e).capped⟩)) (Cz htk rfl) (Ae ?_)
   first|(refine Ak 5 rfl [0,1,2,3,4,5,6,7] A5 (Ae ?_))|(refine Ak 17 rfl [0,1,2,3,4,5,6,7,8,9,10,11,12,13,14] A5 (Ae ?_))|(refine Ak 20 rfl [0,1,2,3,4,5,6,7,8,9,10,11,12,13] A5 (Ae ?_))|(refine Ak 22 rfl [0,1,2,3,4,5,6,7,8,9,10,11,12,13,14] A5 (Ae ?_))|(refine Ak 9 rfl [0,1,2,3,4,5,6,7,8,9,10,11,12,13,14,15,16,17,18,19,20,21,22,23,24,25,26,27,28,29] A5 (Ae ?_))
   (repeat refine An ?_)
   refine ⟨fun hb=>?_,fun hb=>?_⟩<;>conv=>whnf
   ·have hb:(Ac x e).black=false:=by rw [Sx.getD_set_self _ _ _ _ htk] at hb;simpa [Ac] using hb
    repeat refine B9 ?_
    refine Ja A0 rfl rfl rfl rfl rfl rfl (jn:=(x.tokens.getD e.toNat default).at_.toNat) rfl (Ct _ _ _) rfl (Ae ?_)
    repeat refine B9 ?_
    refine A8p 60 13 rfl rfl (Ae ?_)
    repeat refine B9 ?_
    (repeat refine An ?_)
    refine ⟨fun hw=>?_,fun hw=>?_⟩<;>conv=>whnf
    ·have hw:(Ag x (Ac x e).at_).black.getD e.toNat default=false:=by simpa [Ac,Ag] using hw
     repeat refine B9 ?_
     refine Ja A0 rfl rfl rfl rfl rfl rfl (jn:=(x.tokens.getD e.toNat default).at_.toNat) rfl (Ct _ _ _) rfl (Ae ?_)
     repeat refine B9 ?_
     refine A8p 74 12 rfl rfl (Ae ?_)
     repeat refine B9 ?_
     (repeat refine An ?_)
     refine ⟨by (rw [Sx.getD_set_self _ _ _ _ htk];have q: -1000000≤(Ac x e).sum∧(Ac x e).sum≤1000000:=hs1;show _≤(Ac x e).sum+_∧(Ac x e).sum+_≤_;omega),?_⟩
     conv=>whnf
     repeat refine B9 ?_
     refine ⟨fun hs=>?_,fun hs=>?_⟩<;>conv=>whnf
     ·have hs:(Ac x e).sum+(Ag x (Ac x e).at_).sums.getD e.toNat default=0:=by rw [Sx.getD_set_self _ _ _ _ htk] at hs;exact eq_of_beq hs
      have hyes:=And.intro hb (And.intro hw hs)
      have hz':∀c w,C0 c 0 w=C0 c (x.tokens.getD e.toNat default).at_ w:=fun c w=>by rw [hz]
      repeat refine B9 ?_
      refine ⟨fun hc=>?_,fun hc=>?_⟩<;>conv=>whnf
      ·have hc:(Ac x e).capped=true:=by rw [Sx.getD_set_self _ _ _ _ htk] at hc;exact hc
       have hcap:((Ac x e).capped||(Ag x (Ac x e).at_).caps.getD e.toNat default)=true:=by rw [hc];rfl
       repeat refine B9 ?_
       (repeat refine An ?_)
       refine Ja A0 rfl rfl rfl rfl rfl rfl (jn:=(x.tokens.getD e.toNat default).at_.toNat) rfl (Ct _ _ _) rfl (Ae ?_)
       refine A8p 98 15 rfl rfl (Ae ?_)
       (repeat refine An ?_)
       refine Bm A0 rfl rfl rfl rfl rfl rfl rfl rfl rfl rfl rfl (Er ((Ag x (Ac x e).at_).dones++[⟨e,true⟩])) (Bh rfl) Ef Ad (Ae ?_)
       (repeat refine An ?_)
       refine Bj (j:=(x.tokens.getD e.toNat default).at_) A0 rfl rfl rfl rfl rfl rfl rfl rfl _ A4t ?_
       refine Kv 3 ((x.tokens.getD e.toNat default).at_.toNat) [(0,8),(1,9),(2,10),(3,11),(4,12),(5,13),(6,14)] (Ap (x.workers.set (x.tokens.getD e.toNat default).at_.toNat (H8 (Ag x (Ac x e).at_) ⟨e,true⟩))) hj rfl rfl Lw rfl (Fx hj rfl) (Iy ?_)
       conv=>whnf
       refine B6 A0 false [11,12,13,14,15,16,17,18,19,20,21,22,23,24,25,26,27,28,29,30,31,32,33,34,35,36,37,38,39,40,41,42,43,44,45,46,47,48,49,50,51,52,53,54,55,56,57,58,59,60,61,62,63,64,65,66,67,68,69,70,71,72,73,74,75,76,77,78,79,80,81,82,83,84,85,86,87,88,89,90,91,92,93,94,95,96,97,98,99,100,101,102,103,104,105,106,107,108,109,110,111,112,113,114,115,116,117,118,119,120,121] (fun k:Nat=>[(10,.c (vi (k+1)))]) (fun k=>[⟨7,[.own 2,.c (vi x.graph.workers),.c (vi x.graph.cap),.own 3,.own 4,.own 5,.own 6]⟩,⟨1,[.c (.val (.slice none 0 0)),.c (vi 0),.c (vi 0),.c (.val (.slice none 0 0)),.c (.val (.slice none 0 0)),.c (.val (.slice none 0 0)),.c (.val (.slice none 0 0))]⟩,⟨0,[.c (Bb x.graph.nodes),.c (vi x.graph.workers),.c (vi x.graph.cap),.c (Ap x.workers),.c (Bu x.links),.c (Be x.tokens),.c (C3 x.news)]⟩]) (fun k=>[⟨2,Bb x.graph.nodes⟩,⟨3,Ap (x.workers.set (x.tokens.getD e.toNat default).at_.toNat (H8 (Ag x (Ac x e).at_) ⟨e,true⟩))⟩,⟨4,Bu x.links⟩,⟨5,Be (x.tokens.set e.toNat ⟨false,(Ac x e).at_,(Ac x e).sum,(Ac x e).black,(Ac x e).capped⟩)⟩,⟨6,C3 (x.news++Lo e (true) k)⟩])
        (fun k=>k≤(x.workers.length-1)) (fun k=>(x.workers.length-1)-k) 0 (Nat.zero_le _) ⟨by first|rfl|simp [Cr,ren2,ren1,ren0],trivial⟩ Cp ⟨by first|rfl|exact (congrArg (fun l=>Cb _ _ l) (List.append_nil _)).symm|(show (_:Ab)=_;simp)|simp,by first|rfl|exact (congrArg (fun l=>Cb _ _ l) (List.append_nil _)).symm|(show (_:Ab)=_;simp)|simp,by first|rfl|exact (congrArg (fun l=>Cb _ _ l) (List.append_nil _)).symm|(show (_:Ab)=_;simp)|simp,by first|rfl|exact (congrArg (fun l=>Cb _ _ l) (List.append_nil _)).symm|(show (_:Ab)=_;simp)|simp,by first|rfl|exact (congrArg (fun l=>Cb _ _ l) (List.append_nil _)).symm|(show (_:Ab)=_;simp)|simp,trivial⟩ Cc A5 (fun k hk=>?_)
       conv=>whnf
       refine F2 (fun hg2=>?_) fun hg2=>?_<;>conv=>whnf
       ·refine Bm A0 rfl rfl rfl rfl rfl rfl rfl rfl rfl rfl rfl (C3 (x.news++Lo e (true) k++[⟨k+1,e,true⟩])) (Bh rfl) Ef (by rw [List.length_append,Tb];omega) (Ae ?_)
        (repeat refine An ?_)
        refine At [(0,0),(1,1),(2,2),(3,3),(4,4),(5,5),(6,19),(7,7)] (k+1) Ad Ad ⟨by rw [Int.natCast_add];rfl,trivial⟩ ⟨rfl,rfl,rfl,rfl,by show (_:Ab)=_;rw [R7,←List.append_assoc],trivial⟩ Cp A5 Cc A5
       ·obtain rfl:k=x.workers.length-1:=by omega
        repeat refine B9 ?_
        rw [K5 hT hg hA,Ho,if_pos hyes,hcap,hz']
        refine Ah A0 rfl rfl ?_
        exact C1
      ·have hc:(Ac x e).capped=false:=by rw [Sx.getD_set_self _ _ _ _ htk] at hc;exact hc
       have hcap:((Ac x e).capped||(Ag x (Ac x e).at_).caps.getD e.toNat default)=(Ag x (Ac x e).at_).caps.getD e.toNat default:=by rw [hc];rfl
       repeat refine B9 ?_
       refine Ja A0 rfl rfl rfl rfl rfl rfl (jn:=(x.tokens.getD e.toNat default).at_.toNat) rfl (Ct _ _ _) rfl (Ae ?_)
       repeat refine B9 ?_
       refine A8p 89 14 rfl rfl (Ae ?_)
       repeat refine B9 ?_
       (repeat refine An ?_)
       refine Ja A0 rfl rfl rfl rfl rfl rfl (jn:=(x.tokens.getD e.toNat default).at_.toNat) rfl (Ct _ _ _) rfl (Ae ?_)
       refine A8p 98 15 rfl rfl (Ae ?_)
       (repeat refine An ?_)
       refine Bm A0 rfl rfl rfl rfl rfl rfl rfl rfl rfl rfl rfl (Er ((Ag x (Ac x e).at_).dones++[⟨e,((Ag x (Ac x e).at_).caps.getD e.toNat default)⟩])) (Bh rfl) Ef Ad (Ae ?_)
       (repeat refine An ?_)
       refine Bj (j:=(x.tokens.getD e.toNat default).at_) A0 rfl rfl rfl rfl rfl rfl rfl rfl _ A4t ?_
       refine Kv 3 ((x.tokens.getD e.toNat default).at_.toNat) [(0,8),(1,9),(2,10),(3,11),(4,12),(5,13),(6,14)] (Ap (x.workers.set (x.tokens.getD e.toNat default).at_.toNat (H8 (Ag x (Ac x e).at_) ⟨e,((Ag x (Ac x e).at_).caps.getD e.toNat default)⟩))) hj rfl rfl Lw rfl (Fx hj rfl) (Iy ?_)
       conv=>whnf
       refine B6 A0 false [11,12,13,14,15,16,17,18,19,20,21,22,23,24,25,26,27,28,29,30,31,32,33,34,35,36,37,38,39,40,41,42,43,44,45,46,47,48,49,50,51,52,53,54,55,56,57,58,59,60,61,62,63,64,65,66,67,68,69,70,71,72,73,74,75,76,77,78,79,80,81,82,83,84,85,86,87,88,89,90,91,92,93,94,95,96,97,98,99,100,101,102,103,104,105,106,107,108,109,110,111,112,113,114,115,116,117,118,119,120,121] (fun k:Nat=>[(10,.c (vi (k+1)))]) (fun k=>[⟨7,[.own 2,.c (vi x.graph.workers),.c (vi x.graph.cap),.own 3,.own 4,.own 5,.own 6]⟩,⟨1,[.c (.val (.slice none 0 0)),.c (vi 0),.c (vi 0),.c (.val (.slice none 0 0)),.c (.val (.slice none 0 0)),.c (.val (.slice none 0 0)),.c (.val (.slice none 0 0))]⟩,⟨0,[.c (Bb x.graph.nodes),.c (vi x.graph.workers),.c (vi x.graph.cap),.c (Ap x.workers),.c (Bu x.links),.c (Be x.tokens),.c (C3 x.news)]⟩]) (fun k=>[⟨2,Bb x.graph.nodes⟩,⟨3,Ap (x.workers.set (x.tokens.getD e.toNat default).at_.toNat (H8 (Ag x (Ac x e).at_) ⟨e,((Ag x (Ac x e).at_).caps.getD e.toNat default)⟩))⟩,⟨4,Bu x.links⟩,⟨5,Be (x.tokens.set e.toNat ⟨false,(Ac x e).at_,(Ac x e).sum,(Ac x e).black,(Ac x e).capped⟩)⟩,⟨6,C3 (x.news++Lo e (((Ag x (Ac x e).at_).caps.getD e.toNat default)) k)⟩])
        (fun k=>k≤(x.workers.length-1)) (fun k=>(x.workers.length-1)-k) 0 (Nat.zero_le _) ⟨by first|rfl|simp [Cr,ren2,ren1,ren0],trivial⟩ Cp ⟨by first|rfl|exact (congrArg (fun l=>Cb _ _ l) (List.append_nil _)).symm|(show (_:Ab)=_;simp)|simp,by first|rfl|exact (congrArg (fun l=>Cb _ _ l) (List.append_nil _)).symm|(show (_:Ab)=_;simp)|simp,by first|rfl|exact (congrArg (fun l=>Cb _ _ l) (List.append_nil _)).symm|(show (_:Ab)=_;simp)|simp,by first|rfl|exact (congrArg (fun l=>Cb _ _ l) (List.append_nil _)).symm|(show (_:Ab)=_;simp)|simp,by first|rfl|exact (congrArg (fun l=>Cb _ _ l) (List.append_nil _)).symm|(show (_:Ab)=_;simp)|simp,trivial⟩ Cc A5 (fun k hk=>?_)
       conv=>whnf
       refine F2 (fun hg2=>?_) fun hg2=>?_<;>conv=>whnf
       ·refine Bm A0 rfl rfl rfl rfl rfl rfl rfl rfl rfl rfl rfl (C3 (x.news++Lo e (((Ag x (Ac x e).at_).caps.getD e.toNat default)) k++[⟨k+1,e,((Ag x (Ac x e).at_).caps.getD e.toNat default)⟩])) (Bh rfl) Ef (by rw [List.length_append,Tb];omega) (Ae ?_)
        (repeat refine An ?_)
        refine At [(0,0),(1,1),(2,2),(3,3),(4,4),(5,5),(6,19),(7,7)] (k+1) Ad Ad ⟨by rw [Int.natCast_add];rfl,trivial⟩ ⟨rfl,rfl,rfl,rfl,by show (_:Ab)=_;rw [R7,←List.append_assoc],trivial⟩ Cp A5 Cc A5
       ·obtain rfl:k=x.workers.length-1:=by omega
        repeat refine B9 ?_
        rw [K5 hT hg hA,Ho,if_pos hyes,hcap,hz']
        refine Ah A0 rfl rfl ?_
        exact C1
     ·have hs:(Ac x e).sum+(Ag x (Ac x e).at_).sums.getD e.toNat default≠0:=by rw [Sx.getD_set_self _ _ _ _ htk] at hs;exact beq_eq_false_iff_ne.1 hs
      have hno:¬ ((Ac x e).black=false∧(Ag x (Ac x e).at_).black.getD e.toNat default=false∧(Ac x e).sum+(Ag x (Ac x e).at_).sums.getD e.toNat default=0):=fun p=>hs p.2.2
      repeat refine B9 ?_
      rw [K5 hT hg hA,Ho,if_neg hno]
      refine F6 Tryz.prog 3 ((x.tokens.getD e.toNat default).at_.toNat) [(0,8),(1,9),(2,10),(3,11),(4,12),(5,13),(6,14),(7,15)] (Ap (x.workers)) hj rfl rfl Lw rfl (Cm rfl) ?_
      refine Ah A0 rfl rfl ?_
      exact C1
    ·have hw:(Ag x (Ac x e).at_).black.getD e.toNat default=true:=by simpa [Ac,Ag] using hw
     have hno:¬ ((Ac x e).black=false∧(Ag x (Ac x e).at_).black.getD e.toNat default=false∧(Ac x e).sum+(Ag x (Ac x e).at_).sums.getD e.toNat default=0):=fun p=>by rw [hw] at p;exact absurd p.2.1 Bs
     repeat refine B9 ?_
     rw [K5 hT hg hA,Ho,if_neg hno]
     refine F6 Tryz.prog 3 ((x.tokens.getD e.toNat default).at_.toNat) [(0,8),(1,9),(2,10),(3,11),(4,12),(5,13),(6,14),(7,15)] (Ap (x.workers)) hj rfl rfl Lw rfl (Cm rfl) ?_
     refine Ah A0 rfl rfl ?_
     exact C1
   ·have hb:(Ac x e).black=true:=by rw [Sx.getD_set_self _ _ _ _ htk] at hb;simpa [Ac] using hb
    have hno:¬ ((Ac x e).black=false∧(Ag x (Ac x e).at_).black.getD e.toNat default=false∧(Ac x e).sum+(Ag x (Ac x e).at_).sums.getD e.toNat default=0):=fun p=>by rw [hb] at p;exact absurd p.1 Bs
    repeat refine B9 ?_
    rw [K5 hT hg hA,Ho,if_neg hno]
    refine F6 Tryz.prog 3 ((x.tokens.getD e.toNat default).at_.toNat) [(0,8),(1,9),(2,10),(3,11),(4,12),(5,13),(6,14),(7,15)] (Ap (x.workers)) hj rfl rfl Lw rfl (Cm rfl) ?_
    refine Ah A0 rfl rfl ?_
    exact C1
end Go.Proofs.YtlbmkgkmbjadcaaGreat
