/- Part 38 of the proof that each of the laws FnOneWorker returns true for every input. No conditions. -/
import Derived.Test.YtonodkjaoalfjaaGreatP37

set_option linter.unusedSimpArgs false
set_option linter.unusedVariables false
set_option maxRecDepth 100000
namespace Go.Proofs.YtonodkjaoalfjaaGreat
open Go.Sx
theorem A5m {n es:Nat}{row:Nat→List A8}{j off:Nat}{r cs:List A8}:Of n es (Fq row j r) j off cs (.sl n es (Fq row j (Dj r off cs))):=
 ⟨_,rfl,fun i _ hne=>by rw [Jp _ _ _ _ hne,Jp _ _ _ _ hne],by rw [Cv,Cv]⟩
set_option maxHeartbeats 8000000 in
theorem Y4 (x:A3)(e:Int)(h:x.w≤16000000)(hgo:J9 x):B0 Tryz.prog 171 [.agg x.c,.one (vi e)] [.agg (Bo x e).1.c,.one (vb (Bo x e).2)]:=by
 refine Ay A0 false Tryz.func171 rfl Bu fun W=>?_
 conv=>whnf
 refine B4 (Dz x Ac) rfl (Al ?_)
 refine Aw (Js x Ac hgo) rfl (Al ?_)
 refine ⟨fun hC=>?_,fun hC=>?_⟩<;>conv=>whnf
 ·repeat refine Bi ?_
  refine Ao A0 rfl rfl ?_
  rw [Tj (fun p=>by rw [show Fp x=true from decide_eq_true p.1] at hC;exact absurd hC Bu)]
  exact Ca
 have hC:Ap x:=of_decide_eq_true (show Fp x=true by simpa using hC)
 have hl0:1≤x.workers.length:=by have:=hC.1.2.1;have:=hC.1.1.2.1;omega
 have htl:x.tokens.length=4:=hC.1.2.2.2
 have hwl4:x.workers.length≤4:=by have:=hC.1.2.1;have:=hC.1.1.2.1;omega
 repeat refine Bi ?_
 refine Aw (He e 0 3) rfl (Al ?_)
 repeat refine Bi ?_
 refine ⟨fun hE=>?_,fun hE=>?_⟩<;>conv=>whnf
 ·repeat refine Bi ?_
  refine Ao A0 rfl rfl ?_
  rw [Tj (fun p=>by have:=p.2.1;clear hC hgo p;simp only [beq_iff_eq,beq_eq_false_iff_ne,bne_iff_ne,bne_eq_false_iff_eq,Bool.not_eq_true',Bool.not_eq_false',Go.Sx.Am,Go.Sx.Az,decide_eq_true_eq,decide_eq_false_iff_not,ne_eq,Int.not_lt,Int.not_le,ge_iff_le,gt_iff_lt,Int.toNat_zero,Int.toNat_one,Int.toNat_natCast] at *;omega)]
  exact Ca
 have hE:0≤e∧e≤3:=by clear hC hgo;simp only [beq_iff_eq,beq_eq_false_iff_ne,bne_iff_ne,bne_eq_false_iff_eq,Bool.not_eq_true',Bool.not_eq_false',Go.Sx.Am,Go.Sx.Az,decide_eq_true_eq,decide_eq_false_iff_not,ne_eq,Int.not_lt,Int.not_le,ge_iff_le,gt_iff_lt,Int.toNat_zero,Int.toNat_one,Int.toNat_natCast] at *;omega
 repeat refine Bi ?_
 (repeat refine Ar ?_)
 refine Aw (Wa (A6 x 0) e (by have:=A3.worker_le h (show 0<x.workers.length by omega);show (x.workers.getD 0 default).w≤_;omega)) rfl (Al ?_)
 repeat refine Bi ?_
 refine ⟨fun hD=>?_,fun hD=>?_⟩<;>conv=>whnf
 ·repeat refine Bi ?_
  refine Ao A0 rfl rfl ?_
  rw [Tj (fun p=>by rw [p.2.2.1] at hD;cases hD)]
  exact Ca
 have hE1:e<x.tokens.length:=by omega
 have htk:e.toNat<x.tokens.length:=by omega
 have hTP:=hC.2.2.2.1 _ (Aq (d:=default) htk)
 have hat:0≤(x.tokens.getD e.toNat default).at_∧(x.tokens.getD e.toNat default).at_<x.workers.length:=by
  have:=hC.1.2.1
  have:=hTP.1
  omega
 have hj:(x.tokens.getD e.toNat default).at_.toNat<x.workers.length:=by omega
 have hWP:=hC.2.1 _ (Aq (d:=default) hj)
 (repeat refine Ar ?_)
 first|(refine B9 5 rfl [0,1,2,3,4,5,6,7] Aa (Al ?_))|(refine B9 17 rfl [0,1,2,3,4,5,6,7,8,9,10,11,12,13,14] Aa (Al ?_))|(refine B9 20 rfl [0,1,2,3,4,5,6,7,8,9,10,11,12,13] Aa (Al ?_))|(refine B9 22 rfl [0,1,2,3,4,5,6,7,8,9,10,11,12,13,14] Aa (Al ?_))|(refine B9 9 rfl [0,1,2,3,4,5,6,7,8,9,10,11,12,13,14,15,16,17,18,19,20,21,22,23,24,25,26,27,28,29] Aa (Al ?_))
 refine ⟨by exact hat,?_⟩
 conv=>whnf
 (repeat refine Ar ?_)
 refine B90 A0 rfl rfl rfl rfl rfl (jn:=(x.tokens.getD e.toNat default).at_.toNat) rfl (r:=Ab.c ((x.workers).getD ((x.tokens.getD e.toNat default).at_.toNat) default)) rfl hj rfl rfl (fun u=>go A0 false ?_)
 conv=>whnf
 refine Aw (Y2 (x.workers.getD (x.tokens.getD e.toNat default).at_.toNat default) e (by have:=A3.worker_le h hj;omega)) rfl ?_
 refine go A0 false ?_
 conv=>whnf
 refine ⟨fun hP=>?_,fun hP=>?_⟩<;>conv=>whnf
 ·repeat refine Bi ?_
  rw [Tj (fun p=>by have q:=p.2.2.2;rw [show A6 x (A4 x e).at_=x.workers.getD (x.tokens.getD e.toNat default).at_.toNat default from rfl] at q;rw [q] at hP;cases hP)]
  refine M9 Tryz.prog 3 ((x.tokens.getD e.toNat default).at_.toNat) [(0,8),(1,9),(2,10),(3,11),(4,12),(5,13),(6,14),(7,15)] (Be (x.workers)) hj rfl rfl ab8 rfl (Mg rfl) ?_
  refine Ao A0 rfl rfl ?_
  exact Ca
 have hP:De (x.workers.getD (x.tokens.getD e.toNat default).at_.toNat default) e=true:=by simpa using hP
 have hT:Kv x e:=⟨hC,hE,hD,hP⟩
 obtain ⟨hL1,hL2,hL3⟩:=hWP.2.1
 have hs1:=hTP.2.2
 have hbl:e.toNat<(A6 x (A4 x e).at_).black.length:=by
  show e.toNat<(x.workers.getD (x.tokens.getD e.toNat default).at_.toNat default).black.length
  omega
 have hs2:Jy ((x.workers.getD (x.tokens.getD e.toNat default).at_.toNat default).sums.getD e.toNat default):=hWP.2.2.2.1 _ (Aq Ac)
 simp only [Jy] at hs2
 have hdl:(x.workers.getD (x.tokens.getD e.toNat default).at_.toNat default).dones.length≤16000000:=by have:=A3.worker_le h hj;simp only [Ab.w] at this;omega
 have hnl:=A3.news_le h
 have hwl:=A3.workers_le h
 repeat refine Bi ?_
 refine ⟨fun hg=>?_,fun hg=>?_⟩<;>conv=>whnf
 ·have hg:(A4 x e).going=false:=by simpa [A4] using hg
  first|(refine B9 5 rfl [0,1,2,3,4,5,6,7] Aa (Al ?_))|(refine B9 17 rfl [0,1,2,3,4,5,6,7,8,9,10,11,12,13,14] Aa (Al ?_))|(refine B9 20 rfl [0,1,2,3,4,5,6,7,8,9,10,11,12,13] Aa (Al ?_))|(refine B9 22 rfl [0,1,2,3,4,5,6,7,8,9,10,11,12,13,14] Aa (Al ?_))|(refine B9 9 rfl [0,1,2,3,4,5,6,7,8,9,10,11,12,13,14,15,16,17,18,19,20,21,22,23,24,25,26,27,28,29] Aa (Al ?_))
  (repeat refine Ar ?_)
  refine Ke A0 rfl rfl rfl rfl rfl rfl (jn:=(x.tokens.getD e.toNat default).at_.toNat) rfl (Cv _ _ _) rfl (Al ?_)
  refine Je 132 14 rfl rfl (Al ?_)
  (repeat refine Ar ?_)
  refine D7 (j:=e) A0 rfl rfl rfl rfl rfl rfl rfl rfl (C0 (x.tokens.set e.toNat ⟨true,(x.workers.length:Int)-1,0,false,(A6 x (A4 x e).at_).caps.getD e.toNat default⟩)) (E4 htk rfl) (Al ?_)
  refine Ke A0 rfl rfl rfl rfl rfl rfl (jn:=(x.tokens.getD e.toNat default).at_.toNat) rfl (Cv _ _ _) rfl (Al ?_)
  refine Je 145 13 rfl rfl (Al ?_)
  (repeat refine Ar ?_)
  refine D7 (j:=e) A0 rfl rfl rfl rfl rfl rfl rfl rfl (Gm ((A6 x (A4 x e).at_).black.set e.toNat false)) (E4 hbl rfl) (Al ?_)
  rw [Zy hT hg]
  refine M9 Tryz.prog 3 ((x.tokens.getD e.toNat default).at_.toNat) [(0,8),(1,9),(2,10),(3,11),(4,12),(5,13),(6,14),(7,15)] (Be ((x.workers.set (x.tokens.getD e.toNat default).at_.toNat (G8 (A6 x (A4 x e).at_) e)))) hj rfl rfl ab8 rfl (Kz hj rfl) ?_
  refine Ao A0 rfl rfl ?_
  exact Ca
 ·have hg:(A4 x e).going=true:=by simpa [A4] using hg
  refine ⟨fun hA=>?_,fun hA=>?_⟩<;>conv=>whnf
  ·have hA:(A4 x e).at_>0:=of_decide_eq_true hA
   first|(refine B9 5 rfl [0,1,2,3,4,5,6,7] Aa (Al ?_))|(refine B9 17 rfl [0,1,2,3,4,5,6,7,8,9,10,11,12,13,14] Aa (Al ?_))|(refine B9 20 rfl [0,1,2,3,4,5,6,7,8,9,10,11,12,13] Aa (Al ?_))|(refine B9 22 rfl [0,1,2,3,4,5,6,7,8,9,10,11,12,13,14] Aa (Al ?_))|(refine B9 9 rfl [0,1,2,3,4,5,6,7,8,9,10,11,12,13,14,15,16,17,18,19,20,21,22,23,24,25,26,27,28,29] Aa (Al ?_))
   (repeat refine Ar ?_)
   refine Ke A0 rfl rfl rfl rfl rfl rfl (jn:=(x.tokens.getD e.toNat default).at_.toNat) rfl (Cv _ _ _) rfl (Al ?_)
   refine Je 161 12 rfl rfl (Al ?_)
   (repeat refine Ar ?_)
   refine Aw (He _ (-1000000) 1000000) rfl ?_
   refine go A0 false ?_
   conv=>whnf
   refine ⟨fun hS=>?_,fun hS=>?_⟩<;>conv=>whnf
   ·repeat refine Bi ?_
    rw [B7m hT hg hA (fun p=>by have q:Eg _ (-1000000) 1000000=false:=(Bool.not_eq_true' _).mp hS;exact absurd ((Go.Sx.Am.2 p).symm.trans q) Bu)]
    refine M9 Tryz.prog 3 ((x.tokens.getD e.toNat default).at_.toNat) [(0,8),(1,9),(2,10),(3,11),(4,12),(5,13),(6,14),(7,15)] (Be (x.workers)) hj rfl rfl ab8 rfl (Mg rfl) ?_
    refine Ao A0 rfl rfl ?_
    exact Ca
   have hS:Jy ((A4 x e).sum+(A6 x (A4 x e).at_).sums.getD e.toNat default):=Go.Sx.Am.1 ((Bool.not_eq_false' _).mp hS)
   repeat refine Bi ?_
   first|(refine B9 5 rfl [0,1,2,3,4,5,6,7] Aa (Al ?_))|(refine B9 17 rfl [0,1,2,3,4,5,6,7,8,9,10,11,12,13,14] Aa (Al ?_))|(refine B9 20 rfl [0,1,2,3,4,5,6,7,8,9,10,11,12,13] Aa (Al ?_))|(refine B9 22 rfl [0,1,2,3,4,5,6,7,8,9,10,11,12,13,14] Aa (Al ?_))|(refine B9 9 rfl [0,1,2,3,4,5,6,7,8,9,10,11,12,13,14,15,16,17,18,19,20,21,22,23,24,25,26,27,28,29] Aa (Al ?_))
   (repeat refine Ar ?_)
   refine Ke A0 rfl rfl rfl rfl rfl rfl (jn:=(x.tokens.getD e.toNat default).at_.toNat) rfl (Cv _ _ _) rfl (Al ?_)
   refine Je 176 12 rfl rfl (Al ?_)
   (repeat refine Ar ?_)
   refine D7 (j:=e) A0 rfl rfl rfl rfl rfl rfl rfl rfl (C0 (x.tokens.set e.toNat ⟨(A4 x e).going,(A4 x e).at_,(A4 x e).sum+(A6 x (A4 x e).at_).sums.getD e.toNat default,(A4 x e).black,(A4 x e).capped⟩)) (E4 htk rfl) (Al ?_)
   refine ⟨fun hb=>?_,fun hb=>?_⟩<;>conv=>whnf
   ·have hb:(A4 x e).black=true:=by rw [Sx.getD_set_self _ _ _ _ htk] at hb;exact hb
    repeat refine Bi ?_
    (repeat refine Ar ?_)
    refine D7 (j:=e) A0 rfl rfl rfl rfl rfl rfl rfl rfl (C0 (x.tokens.set e.toNat ⟨(A4 x e).going,(A4 x e).at_,(A4 x e).sum+(A6 x (A4 x e).at_).sums.getD e.toNat default,(A4 x e).black||(A6 x (A4 x e).at_).black.getD e.toNat default,(A4 x e).capped⟩)) (Hx htk (by rw [hb];rfl)) (Al ?_)
    refine ⟨fun hc=>?_,fun hc=>?_⟩<;>conv=>whnf
    ·have hc:(A4 x e).capped=true:=by rw [Sx.getD_set_self _ _ _ _ htk] at hc;exact hc
     repeat refine Bi ?_
     (repeat refine Ar ?_)
     refine D7 (j:=e) A0 rfl rfl rfl rfl rfl rfl rfl rfl (C0 (x.tokens.set e.toNat ⟨(A4 x e).going,(A4 x e).at_,(A4 x e).sum+(A6 x (A4 x e).at_).sums.getD e.toNat default,(A4 x e).black||(A6 x (A4 x e).at_).black.getD e.toNat default,(A4 x e).capped||(A6 x (A4 x e).at_).caps.getD e.toNat default⟩)) (Hx htk (by rw [hc];rfl)) (Al ?_)
     refine Ke A0 rfl rfl rfl rfl rfl rfl (jn:=(x.tokens.getD e.toNat default).at_.toNat) rfl (Cv _ _ _) rfl (Al ?_)
     refine Je 218 13 rfl rfl (Al ?_)
     (repeat refine Ar ?_)
     refine D7 (j:=e) A0 rfl rfl rfl rfl rfl rfl rfl rfl (Gm ((A6 x (A4 x e).at_).black.set e.toNat false)) (E4 hbl rfl) (Al ?_)
     refine ⟨by (rw [Sx.getD_set_self _ _ _ _ htk];have q:0≤(A4 x e).at_∧(A4 x e).at_<x.workers.length:=hat;show _≤(A4 x e).at_-1∧(A4 x e).at_-1≤_;omega),?_⟩
     conv=>whnf
     refine D7 (j:=e) A0 rfl rfl rfl rfl rfl rfl rfl rfl (C0 (x.tokens.set e.toNat ⟨true,(A4 x e).at_-1,(A4 x e).sum+(A6 x (A4 x e).at_).sums.getD e.toNat default,(A4 x e).black||(A6 x (A4 x e).at_).black.getD e.toNat default,(A4 x e).capped||(A6 x (A4 x e).at_).caps.getD e.toNat default⟩)) (Hx htk (by rw [Sx.getD_set_self _ _ _ _ htk,hg];rfl)) (Al ?_)
     rw [Pj hT hg hA hS]
     refine M9 Tryz.prog 3 ((x.tokens.getD e.toNat default).at_.toNat) [(0,8),(1,9),(2,10),(3,11),(4,12),(5,13),(6,14),(7,15)] (Be ((x.workers.set (x.tokens.getD e.toNat default).at_.toNat (G8 (A6 x (A4 x e).at_) e)))) hj rfl rfl ab8 rfl (Kz hj rfl) ?_
     refine Ao A0 rfl rfl ?_
     exact Ca
    ·have hc:(A4 x e).capped=false:=by rw [Sx.getD_set_self _ _ _ _ htk] at hc;exact hc
     repeat refine Bi ?_
     refine Ke A0 rfl rfl rfl rfl rfl rfl (jn:=(x.tokens.getD e.toNat default).at_.toNat) rfl (Cv _ _ _) rfl (Al ?_)
     repeat refine Bi ?_
     refine Je 208 14 rfl rfl (Al ?_)
     repeat refine Bi ?_
     (repeat refine Ar ?_)
     refine D7 (j:=e) A0 rfl rfl rfl rfl rfl rfl rfl rfl (C0 (x.tokens.set e.toNat ⟨(A4 x e).going,(A4 x e).at_,(A4 x e).sum+(A6 x (A4 x e).at_).sums.getD e.toNat default,(A4 x e).black||(A6 x (A4 x e).at_).black.getD e.toNat default,(A4 x e).capped||(A6 x (A4 x e).at_).caps.getD e.toNat default⟩)) (Hx htk (by rw [hc];rfl)) (Al ?_)
     refine Ke A0 rfl rfl rfl rfl rfl rfl (jn:=(x.tokens.getD e.toNat default).at_.toNat) rfl (Cv _ _ _) rfl (Al ?_)
     refine Je 218 13 rfl rfl (Al ?_)
     (repeat refine Ar ?_)
     refine D7 (j:=e) A0 rfl rfl rfl rfl rfl rfl rfl rfl (Gm ((A6 x (A4 x e).at_).black.set e.toNat false)) (E4 hbl rfl) (Al ?_)
     refine ⟨by (rw [Sx.getD_set_self _ _ _ _ htk];have q:0≤(A4 x e).at_∧(A4 x e).at_<x.workers.length:=hat;show _≤(A4 x e).at_-1∧(A4 x e).at_-1≤_;omega),?_⟩
     conv=>whnf
     refine D7 (j:=e) A0 rfl rfl rfl rfl rfl rfl rfl rfl (C0 (x.tokens.set e.toNat ⟨true,(A4 x e).at_-1,(A4 x e).sum+(A6 x (A4 x e).at_).sums.getD e.toNat default,(A4 x e).black||(A6 x (A4 x e).at_).black.getD e.toNat default,(A4 x e).capped||(A6 x (A4 x e).at_).caps.getD e.toNat default⟩)) (Hx htk (by rw [Sx.getD_set_self _ _ _ _ htk,hg];rfl)) (Al ?_)
     rw [Pj hT hg hA hS]
     refine M9 Tryz.prog 3 ((x.tokens.getD e.toNat default).at_.toNat) [(0,8),(1,9),(2,10),(3,11),(4,12),(5,13),(6,14),(7,15)] (Be ((x.workers.set (x.tokens.getD e.toNat default).at_.toNat (G8 (A6 x (A4 x e).at_) e)))) hj rfl rfl ab8 rfl (Kz hj rfl) ?_
     refine Ao A0 rfl rfl ?_
     exact Ca
   ·have hb:(A4 x e).black=false:=by rw [Sx.getD_set_self _ _ _ _ htk] at hb;exact hb
    repeat refine Bi ?_
    refine Ke A0 rfl rfl rfl rfl rfl rfl (jn:=(x.tokens.getD e.toNat default).at_.toNat) rfl (Cv _ _ _) rfl (Al ?_)
    repeat refine Bi ?_
    refine Je 192 13 rfl rfl (Al ?_)
    repeat refine Bi ?_
    (repeat refine Ar ?_)
    refine D7 (j:=e) A0 rfl rfl rfl rfl rfl rfl rfl rfl (C0 (x.tokens.set e.toNat ⟨(A4 x e).going,(A4 x e).at_,(A4 x e).sum+(A6 x (A4 x e).at_).sums.getD e.toNat default,(A4 x e).black||(A6 x (A4 x e).at_).black.getD e.toNat default,(A4 x e).capped⟩)) (Hx htk (by rw [hb];rfl)) (Al ?_)
    refine ⟨fun hc=>?_,fun hc=>?_⟩<;>conv=>whnf
    ·have hc:(A4 x e).capped=true:=by rw [Sx.getD_set_self _ _ _ _ htk] at hc;exact hc
     repeat refine Bi ?_
     (repeat refine Ar ?_)
     refine D7 (j:=e) A0 rfl rfl rfl rfl rfl rfl rfl rfl (C0 (x.tokens.set e.toNat ⟨(A4 x e).going,(A4 x e).at_,(A4 x e).sum+(A6 x (A4 x e).at_).sums.getD e.toNat default,(A4 x e).black||(A6 x (A4 x e).at_).black.getD e.toNat default,(A4 x e).capped||(A6 x (A4 x e).at_).caps.getD e.toNat default⟩)) (Hx htk (by rw [hc];rfl)) (Al ?_)
     refine Ke A0 rfl rfl rfl rfl rfl rfl (jn:=(x.tokens.getD e.toNat default).at_.toNat) rfl (Cv _ _ _) rfl (Al ?_)
     refine Je 218 13 rfl rfl (Al ?_)
     (repeat refine Ar ?_)
     refine D7 (j:=e) A0 rfl rfl rfl rfl rfl rfl rfl rfl (Gm ((A6 x (A4 x e).at_).black.set e.toNat false)) (E4 hbl rfl) (Al ?_)
     refine ⟨by (rw [Sx.getD_set_self _ _ _ _ htk];have q:0≤(A4 x e).at_∧(A4 x e).at_<x.workers.length:=hat;show _≤(A4 x e).at_-1∧(A4 x e).at_-1≤_;omega),?_⟩
     conv=>whnf
     refine D7 (j:=e) A0 rfl rfl rfl rfl rfl rfl rfl rfl (C0 (x.tokens.set e.toNat ⟨true,(A4 x e).at_-1,(A4 x e).sum+(A6 x (A4 x e).at_).sums.getD e.toNat default,(A4 x e).black||(A6 x (A4 x e).at_).black.getD e.toNat default,(A4 x e).capped||(A6 x (A4 x e).at_).caps.getD e.toNat default⟩)) (Hx htk (by rw [Sx.getD_set_self _ _ _ _ htk,hg];rfl)) (Al ?_)
     rw [Pj hT hg hA hS]
     refine M9 Tryz.prog 3 ((x.tokens.getD e.toNat default).at_.toNat) [(0,8),(1,9),(2,10),(3,11),(4,12),(5,13),(6,14),(7,15)] (Be ((x.workers.set (x.tokens.getD e.toNat default).at_.toNat (G8 (A6 x (A4 x e).at_) e)))) hj rfl rfl ab8 rfl (Kz hj rfl) ?_
     refine Ao A0 rfl rfl ?_
     exact Ca
    ·have hc:(A4 x e).capped=false:=by rw [Sx.getD_set_self _ _ _ _ htk] at hc;exact hc
     repeat refine Bi ?_
     refine Ke A0 rfl rfl rfl rfl rfl rfl (jn:=(x.tokens.getD e.toNat default).at_.toNat) rfl (Cv _ _ _) rfl (Al ?_)
     repeat refine Bi ?_
     refine Je 208 14 rfl rfl (Al ?_)
     repeat refine Bi ?_
     (repeat refine Ar ?_)
     refine D7 (j:=e) A0 rfl rfl rfl rfl rfl rfl rfl rfl (C0 (x.tokens.set e.toNat ⟨(A4 x e).going,(A4 x e).at_,(A4 x e).sum+(A6 x (A4 x e).at_).sums.getD e.toNat default,(A4 x e).black||(A6 x (A4 x e).at_).black.getD e.toNat default,(A4 x e).capped||(A6 x (A4 x e).at_).caps.getD e.toNat default⟩)) (Hx htk (by rw [hc];rfl)) (Al ?_)
     refine Ke A0 rfl rfl rfl rfl rfl rfl (jn:=(x.tokens.getD e.toNat default).at_.toNat) rfl (Cv _ _ _) rfl (Al ?_)
     refine Je 218 13 rfl rfl (Al ?_)
     (repeat refine Ar ?_)
     refine D7 (j:=e) A0 rfl rfl rfl rfl rfl rfl rfl rfl (Gm ((A6 x (A4 x e).at_).black.set e.toNat false)) (E4 hbl rfl) (Al ?_)
     refine ⟨by (rw [Sx.getD_set_self _ _ _ _ htk];have q:0≤(A4 x e).at_∧(A4 x e).at_<x.workers.length:=hat;show _≤(A4 x e).at_-1∧(A4 x e).at_-1≤_;omega),?_⟩
     conv=>whnf
     refine D7 (j:=e) A0 rfl rfl rfl rfl rfl rfl rfl rfl (C0 (x.tokens.set e.toNat ⟨true,(A4 x e).at_-1,(A4 x e).sum+(A6 x (A4 x e).at_).sums.getD e.toNat default,(A4 x e).black||(A6 x (A4 x e).at_).black.getD e.toNat default,(A4 x e).capped||(A6 x (A4 x e).at_).caps.getD e.toNat default⟩)) (Hx htk (by rw [Sx.getD_set_self _ _ _ _ htk,hg];rfl)) (Al ?_)
     rw [Pj hT hg hA hS]
     refine M9 Tryz.prog 3 ((x.tokens.getD e.toNat default).at_.toNat) [(0,8),(1,9),(2,10),(3,11),(4,12),(5,13),(6,14),(7,15)] (Be ((x.workers.set (x.tokens.getD e.toNat default).at_.toNat (G8 (A6 x (A4 x e).at_) e)))) hj rfl rfl ab8 rfl (Kz hj rfl) ?_
     refine Ao A0 rfl rfl ?_
     exact Ca
  ·have hA:¬ (A4 x e).at_>0:=of_decide_eq_false hA
   have hz:(x.tokens.getD e.toNat default).at_=0:=by
    have:¬ (x.tokens.getD e.toNat default).at_>0:=hA
    omega
   (repeat refine Ar ?_)
   refine D7 (j:=e) A0 rfl rfl rfl rfl rfl rfl rfl rfl (C0 (x.tokens.set e.toNat ⟨false,(A4 x e).at_,(A4 x e).sum,(A4 x e).black,(A4 x e).capped⟩)) (E4 htk rfl) (Al ?_)
   first|(refine B9 5 rfl [0,1,2,3,4,5,6,7] Aa (Al ?_))|(refine B9 17 rfl [0,1,2,3,4,5,6,7,8,9,10,11,12,13,14] Aa (Al ?_))|(refine B9 20 rfl [0,1,2,3,4,5,6,7,8,9,10,11,12,13] Aa (Al ?_))|(refine B9 22 rfl [0,1,2,3,4,5,6,7,8,9,10,11,12,13,14] Aa (Al ?_))|(refine B9 9 rfl [0,1,2,3,4,5,6,7,8,9,10,11,12,13,14,15,16,17,18,19,20,21,22,23,24,25,26,27,28,29] Aa (Al ?_))
   (repeat refine Ar ?_)
   refine ⟨fun hb=>?_,fun hb=>?_⟩<;>conv=>whnf
   ·have hb:(A4 x e).black=false:=by rw [Sx.getD_set_self _ _ _ _ htk] at hb;simpa [A4] using hb
    repeat refine Bi ?_
    refine Ke A0 rfl rfl rfl rfl rfl rfl (jn:=(x.tokens.getD e.toNat default).at_.toNat) rfl (Cv _ _ _) rfl (Al ?_)
    repeat refine Bi ?_
    refine Je 60 13 rfl rfl (Al ?_)
    repeat refine Bi ?_
    (repeat refine Ar ?_)
    refine ⟨fun hw=>?_,fun hw=>?_⟩<;>conv=>whnf
    ·have hw:(A6 x (A4 x e).at_).black.getD e.toNat default=false:=by simpa [A4,A6] using hw
     repeat refine Bi ?_
     refine Ke A0 rfl rfl rfl rfl rfl rfl (jn:=(x.tokens.getD e.toNat default).at_.toNat) rfl (Cv _ _ _) rfl (Al ?_)
     repeat refine Bi ?_
     refine Je 74 12 rfl rfl (Al ?_)
     repeat refine Bi ?_
     (repeat refine Ar ?_)
     refine ⟨by (rw [Sx.getD_set_self _ _ _ _ htk];have q: -1000000≤(A4 x e).sum∧(A4 x e).sum≤1000000:=hs1;show _≤(A4 x e).sum+_∧(A4 x e).sum+_≤_;omega),?_⟩
     conv=>whnf
     repeat refine Bi ?_
     refine ⟨fun hs=>?_,fun hs=>?_⟩<;>conv=>whnf
     ·have hs:(A4 x e).sum+(A6 x (A4 x e).at_).sums.getD e.toNat default=0:=by rw [Sx.getD_set_self _ _ _ _ htk] at hs;exact eq_of_beq hs
      have hyes:=And.intro hb (And.intro hw hs)
      have hz':∀c w,Av c 0 w=Av c (x.tokens.getD e.toNat default).at_ w:=fun c w=>by rw [hz]
      repeat refine Bi ?_
      refine ⟨fun hc=>?_,fun hc=>?_⟩<;>conv=>whnf
      ·have hc:(A4 x e).capped=true:=by rw [Sx.getD_set_self _ _ _ _ htk] at hc;exact hc
       have hcap:((A4 x e).capped||(A6 x (A4 x e).at_).caps.getD e.toNat default)=true:=by rw [hc];rfl
       repeat refine Bi ?_
       (repeat refine Ar ?_)
       refine Ke A0 rfl rfl rfl rfl rfl rfl (jn:=(x.tokens.getD e.toNat default).at_.toNat) rfl (Cv _ _ _) rfl (Al ?_)
       refine Je 98 15 rfl rfl (Al ?_)
       (repeat refine Ar ?_)
       refine Dp A0 rfl rfl rfl rfl rfl rfl rfl rfl rfl rfl rfl (Jn ((A6 x (A4 x e).at_).dones++[⟨e,true⟩])) (Bf rfl) Kc Ac (Al ?_)
       (repeat refine Ar ?_)
       refine D7 (j:=(x.tokens.getD e.toNat default).at_) A0 rfl rfl rfl rfl rfl rfl rfl rfl _ A5m ?_
       refine B5c 3 ((x.tokens.getD e.toNat default).at_.toNat) [(0,8),(1,9),(2,10),(3,11),(4,12),(5,13),(6,14)] (Be (x.workers.set (x.tokens.getD e.toNat default).at_.toNat (Cx (A6 x (A4 x e).at_) ⟨e,true⟩))) hj rfl rfl ab8 rfl (Kz hj rfl) (Tt ?_)
       conv=>whnf
       refine Bw A0 false [11,12,13,14,15,16,17,18,19,20,21,22,23,24,25,26,27,28,29,30,31,32,33,34,35,36,37,38,39,40,41,42,43,44,45,46,47,48,49,50,51,52,53,54,55,56,57,58,59,60,61,62,63,64,65,66,67,68,69,70,71,72,73,74,75,76,77,78,79,80,81,82,83,84,85,86,87,88,89,90,91,92,93,94,95,96,97,98,99,100,101,102,103,104,105,106,107,108,109,110,111,112,113,114,115,116,117,118,119,120,121] (fun k:Nat=>[(10,.c (vi (k+1)))]) (fun k=>[⟨7,[.own 2,.c (vi x.graph.workers),.c (vi x.graph.cap),.own 3,.own 4,.own 5,.own 6]⟩,⟨1,[.c (.val (.slice none 0 0)),.c (vi 0),.c (vi 0),.c (.val (.slice none 0 0)),.c (.val (.slice none 0 0)),.c (.val (.slice none 0 0)),.c (.val (.slice none 0 0))]⟩,⟨0,[.c (Bp x.graph.nodes),.c (vi x.graph.workers),.c (vi x.graph.cap),.c (Be x.workers),.c (Dt x.links),.c (C0 x.tokens),.c (Ef x.news)]⟩]) (fun k=>[⟨2,Bp x.graph.nodes⟩,⟨3,Be (x.workers.set (x.tokens.getD e.toNat default).at_.toNat (Cx (A6 x (A4 x e).at_) ⟨e,true⟩))⟩,⟨4,Dt x.links⟩,⟨5,C0 (x.tokens.set e.toNat ⟨false,(A4 x e).at_,(A4 x e).sum,(A4 x e).black,(A4 x e).capped⟩)⟩,⟨6,Ef (x.news++H1 e (true) k)⟩])
        (fun k=>k≤(x.workers.length-1)) (fun k=>(x.workers.length-1)-k) 0 (Nat.zero_le _) ⟨by first|rfl|simp [Dl,ren2,ren1,ren0],trivial⟩ Dh ⟨by first|rfl|exact (congrArg (fun l=>Du _ _ l) (List.append_nil _)).symm|(show (_:A8)=_;simp)|simp,by first|rfl|exact (congrArg (fun l=>Du _ _ l) (List.append_nil _)).symm|(show (_:A8)=_;simp)|simp,by first|rfl|exact (congrArg (fun l=>Du _ _ l) (List.append_nil _)).symm|(show (_:A8)=_;simp)|simp,by first|rfl|exact (congrArg (fun l=>Du _ _ l) (List.append_nil _)).symm|(show (_:A8)=_;simp)|simp,by first|rfl|exact (congrArg (fun l=>Du _ _ l) (List.append_nil _)).symm|(show (_:A8)=_;simp)|simp,trivial⟩ D0 Aa (fun k hk=>?_)
       conv=>whnf
       refine G5 (fun hg2=>?_) fun hg2=>?_<;>conv=>whnf
       ·refine Dp A0 rfl rfl rfl rfl rfl rfl rfl rfl rfl rfl rfl (Ef (x.news++H1 e (true) k++[⟨k+1,e,true⟩])) (Bf rfl) Kc (by rw [List.length_append,Zd];omega) (Al ?_)
        (repeat refine Ar ?_)
        refine B5 [(0,0),(1,1),(2,2),(3,3),(4,4),(5,5),(6,19),(7,7)] (k+1) Ac Ac ⟨by rw [Int.natCast_add];rfl,trivial⟩ ⟨rfl,rfl,rfl,rfl,by show (_:A8)=_;rw [Wp,←List.append_assoc],trivial⟩ Dh Aa D0 Aa
       ·obtain rfl:k=x.workers.length-1:=by omega
        repeat refine Bi ?_
        rw [Q5 hT hg hA,Gn,if_pos hyes,hcap,hz']
        refine Ao A0 rfl rfl ?_
        exact Ca
      ·have hc:(A4 x e).capped=false:=by rw [Sx.getD_set_self _ _ _ _ htk] at hc;exact hc
       have hcap:((A4 x e).capped||(A6 x (A4 x e).at_).caps.getD e.toNat default)=(A6 x (A4 x e).at_).caps.getD e.toNat default:=by rw [hc];rfl
       repeat refine Bi ?_
       refine Ke A0 rfl rfl rfl rfl rfl rfl (jn:=(x.tokens.getD e.toNat default).at_.toNat) rfl (Cv _ _ _) rfl (Al ?_)
       repeat refine Bi ?_
       refine Je 89 14 rfl rfl (Al ?_)
       repeat refine Bi ?_
       (repeat refine Ar ?_)
       refine Ke A0 rfl rfl rfl rfl rfl rfl (jn:=(x.tokens.getD e.toNat default).at_.toNat) rfl (Cv _ _ _) rfl (Al ?_)
       refine Je 98 15 rfl rfl (Al ?_)
       (repeat refine Ar ?_)
       refine Dp A0 rfl rfl rfl rfl rfl rfl rfl rfl rfl rfl rfl (Jn ((A6 x (A4 x e).at_).dones++[⟨e,((A6 x (A4 x e).at_).caps.getD e.toNat default)⟩])) (Bf rfl) Kc Ac (Al ?_)
       (repeat refine Ar ?_)
       refine D7 (j:=(x.tokens.getD e.toNat default).at_) A0 rfl rfl rfl rfl rfl rfl rfl rfl _ A5m ?_
       refine B5c 3 ((x.tokens.getD e.toNat default).at_.toNat) [(0,8),(1,9),(2,10),(3,11),(4,12),(5,13),(6,14)] (Be (x.workers.set (x.tokens.getD e.toNat default).at_.toNat (Cx (A6 x (A4 x e).at_) ⟨e,((A6 x (A4 x e).at_).caps.getD e.toNat default)⟩))) hj rfl rfl ab8 rfl (Kz hj rfl) (Tt ?_)
       conv=>whnf
       refine Bw A0 false [11,12,13,14,15,16,17,18,19,20,21,22,23,24,25,26,27,28,29,30,31,32,33,34,35,36,37,38,39,40,41,42,43,44,45,46,47,48,49,50,51,52,53,54,55,56,57,58,59,60,61,62,63,64,65,66,67,68,69,70,71,72,73,74,75,76,77,78,79,80,81,82,83,84,85,86,87,88,89,90,91,92,93,94,95,96,97,98,99,100,101,102,103,104,105,106,107,108,109,110,111,112,113,114,115,116,117,118,119,120,121] (fun k:Nat=>[(10,.c (vi (k+1)))]) (fun k=>[⟨7,[.own 2,.c (vi x.graph.workers),.c (vi x.graph.cap),.own 3,.own 4,.own 5,.own 6]⟩,⟨1,[.c (.val (.slice none 0 0)),.c (vi 0),.c (vi 0),.c (.val (.slice none 0 0)),.c (.val (.slice none 0 0)),.c (.val (.slice none 0 0)),.c (.val (.slice none 0 0))]⟩,⟨0,[.c (Bp x.graph.nodes),.c (vi x.graph.workers),.c (vi x.graph.cap),.c (Be x.workers),.c (Dt x.links),.c (C0 x.tokens),.c (Ef x.news)]⟩]) (fun k=>[⟨2,Bp x.graph.nodes⟩,⟨3,Be (x.workers.set (x.tokens.getD e.toNat default).at_.toNat (Cx (A6 x (A4 x e).at_) ⟨e,((A6 x (A4 x e).at_).caps.getD e.toNat default)⟩))⟩,⟨4,Dt x.links⟩,⟨5,C0 (x.tokens.set e.toNat ⟨false,(A4 x e).at_,(A4 x e).sum,(A4 x e).black,(A4 x e).capped⟩)⟩,⟨6,Ef (x.news++H1 e (((A6 x (A4 x e).at_).caps.getD e.toNat default)) k)⟩])
        (fun k=>k≤(x.workers.length-1)) (fun k=>(x.workers.length-1)-k) 0 (Nat.zero_le _) ⟨by first|rfl|simp [Dl,ren2,ren1,ren0],trivial⟩ Dh ⟨by first|rfl|exact (congrArg (fun l=>Du _ _ l) (List.append_nil _)).symm|(show (_:A8)=_;simp)|simp,by first|rfl|exact (congrArg (fun l=>Du _ _ l) (List.append_nil _)).symm|(show (_:A8)=_;simp)|simp,by first|rfl|exact (congrArg (fun l=>Du _ _ l) (List.append_nil _)).symm|(show (_:A8)=_;simp)|simp,by first|rfl|exact (congrArg (fun l=>Du _ _ l) (List.append_nil _)).symm|(show (_:A8)=_;simp)|simp,by first|rfl|exact (congrArg (fun l=>Du _ _ l) (List.append_nil _)).symm|(show (_:A8)=_;simp)|simp,trivial⟩ D0 Aa (fun k hk=>?_)
       conv=>whnf
       refine G5 (fun hg2=>?_) fun hg2=>?_<;>conv=>whnf
       ·refine Dp A0 rfl rfl rfl rfl rfl rfl rfl rfl rfl rfl rfl (Ef (x.news++H1 e (((A6 x (A4 x e).at_).caps.getD e.toNat default)) k++[⟨k+1,e,((A6 x (A4 x e).at_).caps.getD e.toNat default)⟩])) (Bf rfl) Kc (by rw [List.length_append,Zd];omega) (Al ?_)
        (repeat refine Ar ?_)
        refine B5 [(0,0),(1,1),(2,2),(3,3),(4,4),(5,5),(6,19),(7,7)] (k+1) Ac Ac ⟨by rw [Int.natCast_add];rfl,trivial⟩ ⟨rfl,rfl,rfl,rfl,by show (_:A8)=_;rw [Wp,←List.append_assoc],trivial⟩ Dh Aa D0 Aa
       ·obtain rfl:k=x.workers.length-1:=by omega
        repeat refine Bi ?_
        rw [Q5 hT hg hA,Gn,if_pos hyes,hcap,hz']
        refine Ao A0 rfl rfl ?_
        exact Ca
     ·have hs:(A4 x e).sum+(A6 x (A4 x e).at_).sums.getD e.toNat default≠0:=by rw [Sx.getD_set_self _ _ _ _ htk] at hs;exact beq_eq_false_iff_ne.1 hs
      have hno:¬ ((A4 x e).black=false∧(A6 x (A4 x e).at_).black.getD e.toNat default=false∧(A4 x e).sum+(A6 x (A4 x e).at_).sums.getD e.toNat default=0):=fun p=>hs p.2.2
      repeat refine Bi ?_
      rw [Q5 hT hg hA,Gn,if_neg hno]
      refine M9 Tryz.prog 3 ((x.tokens.getD e.toNat default).at_.toNat) [(0,8),(1,9),(2,10),(3,11),(4,12),(5,13),(6,14),(7,15)] (Be (x.workers)) hj rfl rfl ab8 rfl (Mg rfl) ?_
      refine Ao A0 rfl rfl ?_
      exact Ca
    ·have hw:(A6 x (A4 x e).at_).black.getD e.toNat default=true:=by simpa [A4,A6] using hw
     have hno:¬ ((A4 x e).black=false∧(A6 x (A4 x e).at_).black.getD e.toNat default=false∧(A4 x e).sum+(A6 x (A4 x e).at_).sums.getD e.toNat default=0):=fun p=>by rw [hw] at p;exact absurd p.2.1 Bu
     repeat refine Bi ?_
     rw [Q5 hT hg hA,Gn,if_neg hno]
     refine M9 Tryz.prog 3 ((x.tokens.getD e.toNat default).at_.toNat) [(0,8),(1,9),(2,10),(3,11),(4,12),(5,13),(6,14),(7,15)] (Be (x.workers)) hj rfl rfl ab8 rfl (Mg rfl) ?_
     refine Ao A0 rfl rfl ?_
     exact Ca
   ·have hb:(A4 x e).black=true:=by rw [Sx.getD_set_self _ _ _ _ htk] at hb;simpa [A4] using hb
    have hno:¬ ((A4 x e).black=false∧(A6 x (A4 x e).at_).black.getD e.toNat default=false∧(A4 x e).sum+(A6 x (A4 x e).at_).sums.getD e.toNat default=0):=fun p=>by rw [hb] at p;exact absurd p.1 Bu
    repeat refine Bi ?_
    rw [Q5 hT hg hA,Gn,if_neg hno]
    refine M9 Tryz.prog 3 ((x.tokens.getD e.toNat default).at_.toNat) [(0,8),(1,9),(2,10),(3,11),(4,12),(5,13),(6,14),(7,15)] (Be (x.workers)) hj rfl rfl ab8 rfl (Mg rfl) ?_
    refine Ao A0 rfl rfl ?_
    exact Ca
end Go.Proofs.YtonodkjaoalfjaaGreat
