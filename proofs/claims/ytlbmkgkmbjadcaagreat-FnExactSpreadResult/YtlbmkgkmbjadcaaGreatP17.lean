/- Part 17 of the proof that each of the laws FnExactRunScriptOf, FnExactSpreadResult returns true for every input. No conditions. -/
import Derived.Test.YtlbmkgkmbjadcaaGreatP16

set_option linter.unusedSimpArgs false
set_option linter.unusedVariables false
set_option maxRecDepth 100000
namespace Go.Proofs.YtlbmkgkmbjadcaaGreat
open Go.Sx
theorem B5d (c:A4)(e:Int)(t:Ay):(Ff c e t).w=c.w:=by simp only [A4.w,Ff,List.length_set]
set_option maxHeartbeats 4000000 in
theorem B0d (x:A4)(e:Int)(h:x.w≤16000000):J0 Tryz.prog (fun _=>True) 130 [] (rc x) [.one (vi e)] (fun _:Unit=>True) (fun _=>Te (D3 x e).1 (B8 x)) (fun _=>[.one (vb (D3 x e).2)]):=by
 refine Kl A0 false Tryz.func130 rfl Bs fun B b hH hp=>?_
 conv=>whnf
 refine ⟨fun hC=>?_,fun hC=>?_⟩<;>conv=>whnf
 ·repeat refine B9 ?_
  rw [O9 (fun p=>by rw [show B8 x=true from decide_eq_true p.1] at hC;exact absurd hC Bs)]
  exact Ez A0 () trivial rfl rfl rfl rfl C1
 have hC:Bg x:=of_decide_eq_true (show B8 x=true by simpa using hC)
 have hl0:1≤x.workers.length:=by have:=hC.1.2.1;have:=hC.1.1.2.1;omega
 have htl:x.tokens.length=4:=hC.1.2.2.2
 have hwl4:x.workers.length≤4:=by have:=hC.1.2.1;have:=hC.1.1.2.1;omega
 repeat refine B9 ?_
 refine Ai (Gv e 0 3) rfl (Ae ?_)
 repeat refine B9 ?_
 refine ⟨fun hE=>?_,fun hE=>?_⟩<;>conv=>whnf
 ·repeat refine B9 ?_
  rw [O9 (fun p=>by have:=p.2.1;clear hC p;simp only [beq_iff_eq,beq_eq_false_iff_ne,bne_iff_ne,bne_eq_false_iff_eq,Bool.not_eq_true',Bool.not_eq_false',Go.Sx.Am,Go.Sx.Aw,decide_eq_true_eq,decide_eq_false_iff_not,ne_eq,Int.not_lt,Int.not_le,ge_iff_le,gt_iff_lt,Int.toNat_zero,Int.toNat_one,Int.toNat_natCast] at *;omega)]
  exact Ez A0 () trivial rfl rfl rfl rfl C1
 have hE:0≤e∧e≤3:=by clear hC;simp only [beq_iff_eq,beq_eq_false_iff_ne,bne_iff_ne,bne_eq_false_iff_eq,Bool.not_eq_true',Bool.not_eq_false',Go.Sx.Am,Go.Sx.Aw,decide_eq_true_eq,decide_eq_false_iff_not,ne_eq,Int.not_lt,Int.not_le,ge_iff_le,gt_iff_lt,Int.toNat_zero,Int.toNat_one,Int.toNat_natCast] at *;omega
 repeat refine B9 ?_
 refine Ai (Xv x e Ad) rfl (Ae ?_)
 repeat refine B9 ?_
 refine ⟨fun hD=>?_,fun hD=>?_⟩<;>conv=>whnf
 ·rw [O9 (fun p=>by have hd:Gp (x.workers.getD 0 default) e=false:=p.2.2.1;rw [Lt,if_pos Ad,hd] at hD;cases hD)]
  exact Ez A0 () trivial rfl rfl rfl rfl C1
 have hD:Gp (Ag x 0) e=false:=by rw [Lt,if_pos Ad] at hD;exact hD
 have hTP:=hC.2.2.2.1 _ (B2 (d:=default) (show e.toNat<x.tokens.length by omega))
 have hat:0≤(x.tokens.getD e.toNat default).at_∧(x.tokens.getD e.toNat default).at_<x.workers.length:=by
  have:=hC.1.2.1
  have:=hTP.1
  omega
 have hj:(x.tokens.getD e.toNat default).at_.toNat<x.workers.length:=by omega
 have hWP:=hC.2.1 _ (B2 (d:=default) hj)
 (repeat refine An ?_)
 refine Qg A0 rfl rfl rfl rfl rfl (jn:=(x.tokens.getD e.toNat default).at_.toNat) rfl (r:=A6.c ((x.workers).getD ((x.tokens.getD e.toNat default).at_.toNat) default)) rfl hj rfl rfl (fun u=>go A0 false ?_)
 conv=>whnf
 refine Ai (Yn (x.workers.getD (x.tokens.getD e.toNat default).at_.toNat default) e (by have:=A4.worker_le h hj;omega)) rfl ?_
 cases hP:Hv (x.workers.getD (x.tokens.getD e.toNat default).at_.toNat default) e
 ·refine Kv 2 ((x.tokens.getD e.toNat default).at_.toNat) [(0,7),(1,8),(2,9),(3,10),(4,11),(5,12),(6,13),(7,14)] (Ap x.workers) hj rfl rfl Lw rfl (Cm rfl) (Iy ?_)
  conv=>whnf
  repeat refine B9 ?_
  rw [O9 (fun p=>by have q:=p.2.2.2;rw [show Ag x (Ac x e).at_=x.workers.getD (x.tokens.getD e.toNat default).at_.toNat default from rfl,hP] at q;cases q)]
  exact Ez A0 () trivial rfl rfl rfl rfl C1
 have hT:Q7 x e:=⟨hC,hE,hD,hP⟩
 obtain ⟨hL1,hL2,hL3⟩:=hWP.2.1
 have hs1:=hTP.2.2
 have htk:e.toNat<x.tokens.length:=by omega
 have hbl:e.toNat<(Ag x (Ac x e).at_).black.length:=by
  show e.toNat<(x.workers.getD (x.tokens.getD e.toNat default).at_.toNat default).black.length
  omega
 have hs2:Hc ((x.workers.getD (x.tokens.getD e.toNat default).at_.toNat default).sums.getD e.toNat default):=hWP.2.2.2.1 _ (B2 Ad)
 simp only [Hc] at hs2
 refine go A0 false ?_
 conv=>whnf
 repeat refine B9 ?_
 first|(refine Ak 8 rfl [0,1,2,3,4,5,6,7,8] A5 (Ae ?_))|(refine Ak 14 rfl [0,1,2,3,4,5,6,7,8,9,10,11,12,13,14,15,16,17,18,19,20] A5 (Ae ?_))|(refine Ak 19 rfl [0,1,2,3,4,5,6,7,8,9,10,11,12,13,14,15,16,17,18,19,20,21,22,23,24,25,26,27,28,29] A5 (Ae ?_))|(refine Ak 10 rfl [0,1,2,3,4,5,6,7,8] A5 (Ae ?_))
 refine ⟨by (show _∧_;omega),?_⟩
 conv=>whnf
 refine ⟨by (show _∧_;omega),?_⟩
 conv=>whnf
 refine ⟨fun hg=>?_,fun hg=>?_⟩<;>conv=>whnf
 ·have hg:(Ac x e).going=false:=by simpa [Ac] using hg
  have hA:(Ac x e).at_=0:=hTP.2.1 hg
  first|(refine Ak 8 rfl [0,1,2,3,4,5,6,7,8] A5 (Ae ?_))|(refine Ak 14 rfl [0,1,2,3,4,5,6,7,8,9,10,11,12,13,14,15,16,17,18,19,20] A5 (Ae ?_))|(refine Ak 19 rfl [0,1,2,3,4,5,6,7,8,9,10,11,12,13,14,15,16,17,18,19,20,21,22,23,24,25,26,27,28,29] A5 (Ae ?_))|(refine Ak 10 rfl [0,1,2,3,4,5,6,7,8] A5 (Ae ?_))
  (repeat refine An ?_)
  refine Bj (j:=e) A0 rfl rfl rfl rfl rfl rfl rfl rfl (Be (x.tokens.set e.toNat ⟨true,(x.workers.length:Int)-1,0,false,(Ag x (Ac x e).at_).caps.getD e.toNat default⟩)) (Cz htk rfl) ?_
  refine Kv 2 ((x.tokens.getD e.toNat default).at_.toNat) [(0,7),(1,8),(2,9),(3,10),(4,11),(5,12),(6,13),(7,14)] (Ap x.workers) hj rfl rfl Lw rfl (Cm rfl) (Iy ?_)
  conv=>whnf
  refine ⟨by exact ⟨Int.le_refl 0,by show (0:Int)<(x.workers.length:Int);omega⟩,?_⟩
  conv=>whnf
  refine Ij A0 rfl rfl rfl rfl rfl rfl (jn:=(x.tokens.getD e.toNat default).at_.toNat) (by rw [show (x.tokens.getD e.toNat default).at_=0 from hA]) rfl rfl (fun v=>go A0 false ?_)
  conv=>whnf
  (repeat refine An ?_)
  refine Bj (j:=e) A0 rfl rfl rfl rfl rfl rfl rfl rfl (Cx ((Ag x (Ac x e).at_).black.set e.toNat false)) (Cz hbl rfl) (Ae ?_)
  rw [A0b hT hg]
  refine F6 Tryz.prog 2 ((x.tokens.getD e.toNat default).at_.toNat) [(5,16)] (Ap (x.workers.set (x.tokens.getD e.toNat default).at_.toNat (Hf (Ag x (Ac x e).at_) e))) hj rfl rfl Lw rfl (Fx hj rfl) ?_
  exact Ez A0 () trivial rfl rfl rfl rfl C1
 ·have hg:(Ac x e).going=true:=by simpa [Ac] using hg
  refine ⟨fun hA=>?_,fun hA=>?_⟩<;>conv=>whnf
  ·have hA:(Ac x e).at_>0:=of_decide_eq_true hA
   refine Ai (Gv ((x.tokens.getD e.toNat default).sum+(x.workers.getD (x.tokens.getD e.toNat default).at_.toNat default).sums.getD e.toNat default) (-1000000) 1000000) rfl (Ae ?_)
   repeat refine B9 ?_
   refine ⟨fun hS=>?_,fun hS=>?_⟩<;>conv=>whnf
   ·rw [A8e hT hg hA (fun p=>by simp only [Hc,Ac,Ag] at p;simp only [beq_iff_eq,beq_eq_false_iff_ne,bne_iff_ne,bne_eq_false_iff_eq,Bool.not_eq_true',Bool.not_eq_false',Go.Sx.Am,Go.Sx.Aw,decide_eq_true_eq,decide_eq_false_iff_not,ne_eq,Int.not_lt,Int.not_le,ge_iff_le,gt_iff_lt,Int.toNat_zero,Int.toNat_one,Int.toNat_natCast] at *;omega)]
    refine F6 Tryz.prog 2 ((x.tokens.getD e.toNat default).at_.toNat) [(0,7),(1,8),(2,9),(3,10),(4,11),(5,12),(6,13),(7,14)] (Ap x.workers) hj rfl rfl Lw rfl (Cm rfl) ?_
    exact Ez A0 () trivial rfl rfl rfl rfl C1
   ·have hS:Hc ((Ac x e).sum+(Ag x (Ac x e).at_).sums.getD e.toNat default):=by simp only [Hc,Ac,Ag];simp only [beq_iff_eq,beq_eq_false_iff_ne,bne_iff_ne,bne_eq_false_iff_eq,Bool.not_eq_true',Bool.not_eq_false',Go.Sx.Am,Go.Sx.Aw,decide_eq_true_eq,decide_eq_false_iff_not,ne_eq,Int.not_lt,Int.not_le,ge_iff_le,gt_iff_lt,Int.toNat_zero,Int.toNat_one,Int.toNat_natCast] at *;omega
    first|(refine Ak 8 rfl [0,1,2,3,4,5,6,7,8] A5 (Ae ?_))|(refine Ak 14 rfl [0,1,2,3,4,5,6,7,8,9,10,11,12,13,14,15,16,17,18,19,20] A5 (Ae ?_))|(refine Ak 19 rfl [0,1,2,3,4,5,6,7,8,9,10,11,12,13,14,15,16,17,18,19,20,21,22,23,24,25,26,27,28,29] A5 (Ae ?_))|(refine Ak 10 rfl [0,1,2,3,4,5,6,7,8] A5 (Ae ?_))
    (repeat refine An ?_)
    refine ⟨fun hb=>?_,fun hb=>?_⟩<;>conv=>whnf
    ·have hb:(Ac x e).black=true:=hb
     repeat refine B9 ?_
     refine ⟨fun hc=>?_,fun hc=>?_⟩<;>conv=>whnf
     ·have hc:(Ac x e).capped=true:=hc
      repeat refine B9 ?_
      (repeat refine An ?_)
      refine Bj (j:=e) A0 rfl rfl rfl rfl rfl rfl rfl rfl (Be (x.tokens.set e.toNat ⟨true,(Ac x e).at_-1,(Ac x e).sum+(Ag x (Ac x e).at_).sums.getD e.toNat default,(Ac x e).black||(Ag x (Ac x e).at_).black.getD e.toNat default,(Ac x e).capped||(Ag x (Ac x e).at_).caps.getD e.toNat default⟩)) (Cz htk (by rw [hb,hc];rfl)) ?_
      refine Kv 2 ((x.tokens.getD e.toNat default).at_.toNat) [(0,7),(1,8),(2,9),(3,10),(4,11),(5,12),(6,13),(7,14)] (Ap x.workers) hj rfl rfl Lw rfl (Cm rfl) (Iy ?_)
      conv=>whnf
      (repeat refine An ?_)
      refine Ij A0 rfl rfl rfl rfl rfl rfl (jn:=(x.tokens.getD e.toNat default).at_.toNat) rfl rfl rfl (fun v=>go A0 false ?_)
      conv=>whnf
      (repeat refine An ?_)
      refine Bj (j:=e) A0 rfl rfl rfl rfl rfl rfl rfl rfl (Cx ((Ag x (Ac x e).at_).black.set e.toNat false)) (Cz hbl rfl) (Ae ?_)
      rw [Kg hT hg hA hS]
      refine F6 Tryz.prog 2 ((x.tokens.getD e.toNat default).at_.toNat) [(5,16)] (Ap (x.workers.set (x.tokens.getD e.toNat default).at_.toNat (Hf (Ag x (Ac x e).at_) e))) hj rfl rfl Lw rfl (Fx hj rfl) ?_
      exact Ez A0 () trivial rfl rfl rfl rfl C1
     ·have hc:(Ac x e).capped=false:=hc
      repeat refine B9 ?_
      (repeat refine An ?_)
      refine Bj (j:=e) A0 rfl rfl rfl rfl rfl rfl rfl rfl (Be (x.tokens.set e.toNat ⟨true,(Ac x e).at_-1,(Ac x e).sum+(Ag x (Ac x e).at_).sums.getD e.toNat default,(Ac x e).black||(Ag x (Ac x e).at_).black.getD e.toNat default,(Ac x e).capped||(Ag x (Ac x e).at_).caps.getD e.toNat default⟩)) (Cz htk (by rw [hb,hc];rfl)) ?_
      refine Kv 2 ((x.tokens.getD e.toNat default).at_.toNat) [(0,7),(1,8),(2,9),(3,10),(4,11),(5,12),(6,13),(7,14)] (Ap x.workers) hj rfl rfl Lw rfl (Cm rfl) (Iy ?_)
      conv=>whnf
      (repeat refine An ?_)
      refine Ij A0 rfl rfl rfl rfl rfl rfl (jn:=(x.tokens.getD e.toNat default).at_.toNat) rfl rfl rfl (fun v=>go A0 false ?_)
      conv=>whnf
      (repeat refine An ?_)
      refine Bj (j:=e) A0 rfl rfl rfl rfl rfl rfl rfl rfl (Cx ((Ag x (Ac x e).at_).black.set e.toNat false)) (Cz hbl rfl) (Ae ?_)
      rw [Kg hT hg hA hS]
      refine F6 Tryz.prog 2 ((x.tokens.getD e.toNat default).at_.toNat) [(5,16)] (Ap (x.workers.set (x.tokens.getD e.toNat default).at_.toNat (Hf (Ag x (Ac x e).at_) e))) hj rfl rfl Lw rfl (Fx hj rfl) ?_
      exact Ez A0 () trivial rfl rfl rfl rfl C1
    ·have hb:(Ac x e).black=false:=hb
     repeat refine B9 ?_
     refine ⟨fun hc=>?_,fun hc=>?_⟩<;>conv=>whnf
     ·have hc:(Ac x e).capped=true:=hc
      repeat refine B9 ?_
      (repeat refine An ?_)
      refine Bj (j:=e) A0 rfl rfl rfl rfl rfl rfl rfl rfl (Be (x.tokens.set e.toNat ⟨true,(Ac x e).at_-1,(Ac x e).sum+(Ag x (Ac x e).at_).sums.getD e.toNat default,(Ac x e).black||(Ag x (Ac x e).at_).black.getD e.toNat default,(Ac x e).capped||(Ag x (Ac x e).at_).caps.getD e.toNat default⟩)) (Cz htk (by rw [hb,hc];rfl)) ?_
      refine Kv 2 ((x.tokens.getD e.toNat default).at_.toNat) [(0,7),(1,8),(2,9),(3,10),(4,11),(5,12),(6,13),(7,14)] (Ap x.workers) hj rfl rfl Lw rfl (Cm rfl) (Iy ?_)
      conv=>whnf
      (repeat refine An ?_)
      refine Ij A0 rfl rfl rfl rfl rfl rfl (jn:=(x.tokens.getD e.toNat default).at_.toNat) rfl rfl rfl (fun v=>go A0 false ?_)
      conv=>whnf
      (repeat refine An ?_)
      refine Bj (j:=e) A0 rfl rfl rfl rfl rfl rfl rfl rfl (Cx ((Ag x (Ac x e).at_).black.set e.toNat false)) (Cz hbl rfl) (Ae ?_)
      rw [Kg hT hg hA hS]
      refine F6 Tryz.prog 2 ((x.tokens.getD e.toNat default).at_.toNat) [(5,16)] (Ap (x.workers.set (x.tokens.getD e.toNat default).at_.toNat (Hf (Ag x (Ac x e).at_) e))) hj rfl rfl Lw rfl (Fx hj rfl) ?_
      exact Ez A0 () trivial rfl rfl rfl rfl C1
     ·have hc:(Ac x e).capped=false:=hc
      repeat refine B9 ?_
      (repeat refine An ?_)
      refine Bj (j:=e) A0 rfl rfl rfl rfl rfl rfl rfl rfl (Be (x.tokens.set e.toNat ⟨true,(Ac x e).at_-1,(Ac x e).sum+(Ag x (Ac x e).at_).sums.getD e.toNat default,(Ac x e).black||(Ag x (Ac x e).at_).black.getD e.toNat default,(Ac x e).capped||(Ag x (Ac x e).at_).caps.getD e.toNat default⟩)) (Cz htk (by rw [hb,hc];rfl)) ?_
      refine Kv 2 ((x.tokens.getD e.toNat default).at_.toNat) [(0,7),(1,8),(2,9),(3,10),(4,11),(5,12),(6,13),(7,14)] (Ap x.workers) hj rfl rfl Lw rfl (Cm rfl) (Iy ?_)
      conv=>whnf
      (repeat refine An ?_)
      refine Ij A0 rfl rfl rfl rfl rfl rfl (jn:=(x.tokens.getD e.toNat default).at_.toNat) rfl rfl rfl (fun v=>go A0 false ?_)
      conv=>whnf
      (repeat refine An ?_)
      refine Bj (j:=e) A0 rfl rfl rfl rfl rfl rfl rfl rfl (Cx ((Ag x (Ac x e).at_).black.set e.toNat false)) (Cz hbl rfl) (Ae ?_)
      rw [Kg hT hg hA hS]
      refine F6 Tryz.prog 2 ((x.tokens.getD e.toNat default).at_.toNat) [(5,16)] (Ap (x.workers.set (x.tokens.getD e.toNat default).at_.toNat (Hf (Ag x (Ac x e).at_) e))) hj rfl rfl Lw rfl (Fx hj rfl) ?_
      exact Ez A0 () trivial rfl rfl rfl rfl C1
  ·have hA:¬ (Ac x e).at_>0:=of_decide_eq_false hA
   have hz:(x.tokens.getD e.toNat default).at_=0:=by
    have:¬ (x.tokens.getD e.toNat default).at_>0:=hA
    omega
   have hsw:(Ff x e ⟨false,(Ac x e).at_,(Ac x e).sum,(Ac x e).black,(Ac x e).capped⟩).w≤16000000:=by rw [B5d];exact h
   first|(refine Ak 8 rfl [0,1,2,3,4,5,6,7,8] A5 (Ae ?_))|(refine Ak 14 rfl [0,1,2,3,4,5,6,7,8,9,10,11,12,13,14,15,16,17,18,19,20] A5 (Ae ?_))|(refine Ak 19 rfl [0,1,2,3,4,5,6,7,8,9,10,11,12,13,14,15,16,17,18,19,20,21,22,23,24,25,26,27,28,29] A5 (Ae ?_))|(refine Ak 10 rfl [0,1,2,3,4,5,6,7,8] A5 (Ae ?_))
   (repeat refine An ?_)
   refine Bj (j:=e) A0 rfl rfl rfl rfl rfl rfl rfl rfl (Be (x.tokens.set e.toNat ⟨false,(Ac x e).at_,(Ac x e).sum,(Ac x e).black,(Ac x e).capped⟩)) (Cz htk rfl) ?_
   refine go A0 false ?_
   conv=>whnf
   refine ⟨fun hb=>?_,fun hb=>?_⟩<;>conv=>whnf
   ·have hb:(Ac x e).black=false:=by simpa [Ac] using hb
    repeat refine B9 ?_
    (repeat refine An ?_)
    refine ⟨fun hw=>?_,fun hw=>?_⟩<;>conv=>whnf
    ·have hw:(Ag x (Ac x e).at_).black.getD e.toNat default=false:=by simpa [Ac,Ag] using hw
     repeat refine B9 ?_
     refine ⟨fun hs=>?_,fun hs=>?_⟩<;>conv=>whnf
     ·have hs:(Ac x e).sum+(Ag x (Ac x e).at_).sums.getD e.toNat default=0:=eq_of_beq hs
      have hyes:=And.intro hb (And.intro hw hs)
      repeat refine B9 ?_
      have hw0:Ag x (Ac x e).at_=x.workers.getD 0 default:=by
       show x.workers.getD (x.tokens.getD e.toNat default).at_.toNat default=_
       rw [hz]
       rfl
      refine ⟨fun hc=>?_,fun hc=>?_⟩<;>conv=>whnf
      ·have hc:(Ac x e).capped=true:=hc
       have hcap:((Ac x e).capped||(Ag x (Ac x e).at_).caps.getD e.toNat default)=true:=by rw [hc];rfl
       repeat refine B9 ?_
       (repeat refine An ?_)
       refine A6d 2 ((x.tokens.getD e.toNat default).at_.toNat) [(0,7),(1,8),(2,9),(3,10),(4,11),(5,12),(6,13),(7,14)] (Ap x.workers) hj rfl rfl Lw rfl (Cm rfl) ?_
       refine K8 (A4g (Ff x e ⟨false,(Ac x e).at_,(Ac x e).sum,(Ac x e).black,(Ac x e).capped⟩) e true (B8 x) hsw hl0) hH hp rfl C1 rfl rfl (fun r hr=>go A0 false ?_)
       conv=>whnf
       rw [K5 hT hg hA,Ho,if_pos hyes,hcap,show H8 (Ag x (Ac x e).at_)=H8 (x.workers.getD 0 default) by rw [hw0]]
       exact Ez A0 () trivial rfl rfl rfl rfl C1
      ·have hc:(Ac x e).capped=false:=hc
       have hcap:((Ac x e).capped||(Ag x (Ac x e).at_).caps.getD e.toNat default)=(Ag x (Ac x e).at_).caps.getD e.toNat default:=by rw [hc];rfl
       repeat refine B9 ?_
       (repeat refine An ?_)
       refine A6d 2 ((x.tokens.getD e.toNat default).at_.toNat) [(0,7),(1,8),(2,9),(3,10),(4,11),(5,12),(6,13),(7,14)] (Ap x.workers) hj rfl rfl Lw rfl (Cm rfl) ?_
       refine K8 (A4g (Ff x e ⟨false,(Ac x e).at_,(Ac x e).sum,(Ac x e).black,(Ac x e).capped⟩) e ((Ag x (Ac x e).at_).caps.getD e.toNat default) (B8 x) hsw hl0) hH hp rfl C1 rfl rfl (fun r hr=>go A0 false ?_)
       conv=>whnf
       rw [K5 hT hg hA,Ho,if_pos hyes,hcap,show H8 (Ag x (Ac x e).at_)=H8 (x.workers.getD 0 default) by rw [hw0]]
       exact Ez A0 () trivial rfl rfl rfl rfl C1
     ·have hs:(Ac x e).sum+(Ag x (Ac x e).at_).sums.getD e.toNat default≠0:=beq_eq_false_iff_ne.1 hs
      have hno:¬ ((Ac x e).black=false∧(Ag x (Ac x e).at_).black.getD e.toNat default=false∧(Ac x e).sum+(Ag x (Ac x e).at_).sums.getD e.toNat default=0):=fun p=>hs p.2.2
      repeat refine B9 ?_
      rw [K5 hT hg hA,Ho,if_neg hno]
      refine F6 Tryz.prog 2 ((x.tokens.getD e.toNat default).at_.toNat) [(0,7),(1,8),(2,9),(3,10),(4,11),(5,12),(6,13),(7,14)] (Ap x.workers) hj rfl rfl Lw rfl (Cm rfl) ?_
      exact Ez A0 () trivial rfl rfl rfl rfl C1
    ·have hw:(Ag x (Ac x e).at_).black.getD e.toNat default=true:=by simpa [Ac,Ag] using hw
     have hno:¬ ((Ac x e).black=false∧(Ag x (Ac x e).at_).black.getD e.toNat default=false∧(Ac x e).sum+(Ag x (Ac x e).at_).sums.getD e.toNat default=0):=fun p=>by rw [hw] at p;exact absurd p.2.1 Bs
     repeat refine B9 ?_
     rw [K5 hT hg hA,Ho,if_neg hno]
     refine F6 Tryz.prog 2 ((x.tokens.getD e.toNat default).at_.toNat) [(0,7),(1,8),(2,9),(3,10),(4,11),(5,12),(6,13),(7,14)] (Ap x.workers) hj rfl rfl Lw rfl (Cm rfl) ?_
     exact Ez A0 () trivial rfl rfl rfl rfl C1
   ·have hb:(Ac x e).black=true:=by simpa [Ac] using hb
    have hno:¬ ((Ac x e).black=false∧(Ag x (Ac x e).at_).black.getD e.toNat default=false∧(Ac x e).sum+(Ag x (Ac x e).at_).sums.getD e.toNat default=0):=fun p=>by rw [hb] at p;exact absurd p.1 Bs
    repeat refine B9 ?_
    rw [K5 hT hg hA,Ho,if_neg hno]
    refine F6 Tryz.prog 2 ((x.tokens.getD e.toNat default).at_.toNat) [(0,7),(1,8),(2,9),(3,10),(4,11),(5,12),(6,13),(7,14)] (Ap x.workers) hj rfl rfl Lw rfl (Cm rfl) ?_
    exact Ez A0 () trivial rfl rfl rfl rfl C1
theorem Zx (x:A4)(h:x.w≤16000000):A40 Tryz.prog 91 [] [.agg x.c] (fun _:Unit=>True) (fun _=>rc x):=by
 refine B51 A0 false Tryz.func91 rfl Bs fun W hp=>?_
 conv=>whnf
 first|(refine Ak 1 rfl [0,2,1,3,4,5,6] A5 (Ae ?_))
 refine Av (Uo x Ad) rfl (Ae ?_)
 refine Ai (Ym x Ad) rfl (Ae ?_)
 exact B7p A0 () trivial rfl rfl rfl (by repeat' (first|exact trivial|exact rfl|exact .inr ⟨rfl,rfl,_,_,rfl⟩|refine ⟨?_,?_⟩))
end Go.Proofs.YtlbmkgkmbjadcaaGreat
