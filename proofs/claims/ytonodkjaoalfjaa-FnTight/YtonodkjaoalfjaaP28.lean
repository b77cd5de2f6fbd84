/- Part 28 of the proof that each of the laws FnTight returns true for every input. No conditions. -/
import Derived.Test.YtonodkjaoalfjaaP27
import Derived.Test.YtonodkjaoalfjaaP24
import Derived.Test.YtonodkjaoalfjaaP9
import Derived.Test.YtonodkjaoalfjaaP7

set_option linter.unusedSimpArgs false
set_option linter.unusedVariables false
set_option maxRecDepth 100000
namespace Go.Proofs.Ytonodkjaoalfjaa
open Go.Sx
theorem A5s (c:A3)(e:Int)(t:Dw):(Cs c e t).w=c.w:=by simp only [A3.w,Cs,List.length_set]
set_option maxHeartbeats 4000000 in
theorem A04 (x:A3)(e:Int)(h:x.w≤16000000):Dq Try.prog (fun _=>True) 59 [] (rc x) [.one (vi e)] (fun _:Unit=>True) (fun _=>O4 (C2 x e).1 (Aq x)) (fun _=>[.one (vb (C2 x e).2)]):=by
 refine Ex A0 false Try.func59 rfl Cb fun B b hH hp=>?_
 conv=>whnf
 refine ⟨fun hC=>?_,fun hC=>?_⟩<;>conv=>whnf
 ·repeat refine Bg ?_
  rw [Rl (fun p=>by rw [show Aq x=true from decide_eq_true p.1] at hC;exact absurd hC Cb)]
  exact C9 A0 () trivial rfl rfl rfl rfl C1
 have hC:Ar x:=of_decide_eq_true (show Aq x=true by simpa using hC)
 have hl0:1≤x.workers.length:=by have:=hC.1.2.1;have:=hC.1.1.2.1;omega
 have htl:x.tokens.length=4:=hC.1.2.2.2
 have hwl4:x.workers.length≤4:=by have:=hC.1.2.1;have:=hC.1.1.2.1;omega
 repeat refine Bg ?_
 refine B7 (Er e 0 3) rfl (Af ?_)
 repeat refine Bg ?_
 refine ⟨fun hE=>?_,fun hE=>?_⟩<;>conv=>whnf
 ·repeat refine Bg ?_
  rw [Rl (fun p=>by have:=p.2.1;clear hC p;simp only [beq_iff_eq,beq_eq_false_iff_ne,bne_iff_ne,bne_eq_false_iff_eq,Bool.not_eq_true',Bool.not_eq_false',Go.Sx.Al,Go.Sx.B3,decide_eq_true_eq,decide_eq_false_iff_not,ne_eq,Int.not_lt,Int.not_le,ge_iff_le,gt_iff_lt,Int.toNat_zero,Int.toNat_one,Int.toNat_natCast] at *;omega)]
  exact C9 A0 () trivial rfl rfl rfl rfl C1
 have hE:0≤e∧e≤3:=by clear hC;simp only [beq_iff_eq,beq_eq_false_iff_ne,bne_iff_ne,bne_eq_false_iff_eq,Bool.not_eq_true',Bool.not_eq_false',Go.Sx.Al,Go.Sx.B3,decide_eq_true_eq,decide_eq_false_iff_not,ne_eq,Int.not_lt,Int.not_le,ge_iff_le,gt_iff_lt,Int.toNat_zero,Int.toNat_one,Int.toNat_natCast] at *;omega
 repeat refine Bg ?_
 refine B7 (Kz x e Ag) rfl (Af ?_)
 repeat refine Bg ?_
 refine ⟨fun hD=>?_,fun hD=>?_⟩<;>conv=>whnf
 ·rw [Rl (fun p=>by have hd:En (x.workers.getD 0 default) e=false:=p.2.2.1;rw [Fl,if_pos Ag,hd] at hD;cases hD)]
  exact C9 A0 () trivial rfl rfl rfl rfl C1
 have hD:En (A9 x 0) e=false:=by rw [Fl,if_pos Ag] at hD;exact hD
 have hTP:=hC.2.2.2.1 _ (B9 (d:=default) (show e.toNat<x.tokens.length by omega))
 have hat:0≤(x.tokens.getD e.toNat default).at_∧(x.tokens.getD e.toNat default).at_<x.workers.length:=by
  have:=hC.1.2.1
  have:=hTP.1
  omega
 have hj:(x.tokens.getD e.toNat default).at_.toNat<x.workers.length:=by omega
 have hWP:=hC.2.1 _ (B9 (d:=default) hj)
 (repeat refine Ak ?_)
 refine Qv A0 rfl rfl rfl rfl rfl (jn:=(x.tokens.getD e.toNat default).at_.toNat) rfl (r:=Ad.c ((x.workers).getD ((x.tokens.getD e.toNat default).at_.toNat) default)) rfl hj rfl rfl (fun u=>go A0 false ?_)
 conv=>whnf
 refine B7 (S6 (x.workers.getD (x.tokens.getD e.toNat default).at_.toNat default) e (by have:=A3.worker_le h hj;omega)) rfl ?_
 cases hP:Hu (x.workers.getD (x.tokens.getD e.toNat default).at_.toNat default) e
 ·refine K8 2 ((x.tokens.getD e.toNat default).at_.toNat) [(0,7),(1,8),(2,9),(3,10),(4,11),(5,12),(6,13),(7,14)] (Ap x.workers) hj rfl rfl Lt rfl (C7 rfl) (J4 ?_)
  conv=>whnf
  repeat refine Bg ?_
  rw [Rl (fun p=>by have q:=p.2.2.2;rw [show A9 x (Ab x e).at_=x.workers.getD (x.tokens.getD e.toNat default).at_.toNat default from rfl,hP] at q;cases q)]
  exact C9 A0 () trivial rfl rfl rfl rfl C1
 have hT:Mf x e:=⟨hC,hE,hD,hP⟩
 obtain ⟨hL1,hL2,hL3⟩:=hWP.2.1
 have hs1:=hTP.2.2
 have htk:e.toNat<x.tokens.length:=by omega
 have hbl:e.toNat<(A9 x (Ab x e).at_).black.length:=by
  show e.toNat<(x.workers.getD (x.tokens.getD e.toNat default).at_.toNat default).black.length
  omega
 have hs2:Gu ((x.workers.getD (x.tokens.getD e.toNat default).at_.toNat default).sums.getD e.toNat default):=hWP.2.2.2.1 _ (B9 Ag)
 simp only [Gu] at hs2
 refine go A0 false ?_
 conv=>whnf
 repeat refine Bg ?_
 first|(refine At 8 rfl [0,1,2,3,4,5,6,7,8] A6 (Af ?_))|(refine At 14 rfl [0,1,2,3,4,5,6,7,8,9,10,11,12,13,14,15,16,17,18,19,20] A6 (Af ?_))|(refine At 19 rfl [0,1,2,3,4,5,6,7,8,9,10,11,12,13,14,15,16,17,18,19,20,21,22,23,24,25,26,27,28,29] A6 (Af ?_))|(refine At 10 rfl [0,1,2,3,4,5,6,7,8] A6 (Af ?_))
 refine ⟨by (show _∧_;omega),?_⟩
 conv=>whnf
 refine ⟨by (show _∧_;omega),?_⟩
 conv=>whnf
 refine ⟨fun hg=>?_,fun hg=>?_⟩<;>conv=>whnf
 ·have hg:(Ab x e).going=false:=by simpa [Ab] using hg
  have hA:(Ab x e).at_=0:=hTP.2.1 hg
  first|(refine At 8 rfl [0,1,2,3,4,5,6,7,8] A6 (Af ?_))|(refine At 14 rfl [0,1,2,3,4,5,6,7,8,9,10,11,12,13,14,15,16,17,18,19,20] A6 (Af ?_))|(refine At 19 rfl [0,1,2,3,4,5,6,7,8,9,10,11,12,13,14,15,16,17,18,19,20,21,22,23,24,25,26,27,28,29] A6 (Af ?_))|(refine At 10 rfl [0,1,2,3,4,5,6,7,8] A6 (Af ?_))
  (repeat refine Ak ?_)
  refine Cu (j:=e) A0 rfl rfl rfl rfl rfl rfl rfl rfl (Cl (x.tokens.set e.toNat ⟨true,(x.workers.length:Int)-1,0,false,(A9 x (Ab x e).at_).caps.getD e.toNat default⟩)) (Do htk rfl) ?_
  refine K8 2 ((x.tokens.getD e.toNat default).at_.toNat) [(0,7),(1,8),(2,9),(3,10),(4,11),(5,12),(6,13),(7,14)] (Ap x.workers) hj rfl rfl Lt rfl (C7 rfl) (J4 ?_)
  conv=>whnf
  refine ⟨by exact ⟨Int.le_refl 0,by show (0:Int)<(x.workers.length:Int);omega⟩,?_⟩
  conv=>whnf
  refine Gk A0 rfl rfl rfl rfl rfl rfl (jn:=(x.tokens.getD e.toNat default).at_.toNat) (by rw [show (x.tokens.getD e.toNat default).at_=0 from hA]) rfl rfl (fun v=>go A0 false ?_)
  conv=>whnf
  (repeat refine Ak ?_)
  refine Cu (j:=e) A0 rfl rfl rfl rfl rfl rfl rfl rfl (Ei ((A9 x (Ab x e).at_).black.set e.toNat false)) (Do hbl rfl) (Af ?_)
  rw [A09 hT hg]
  refine Fb Try.prog 2 ((x.tokens.getD e.toNat default).at_.toNat) [(5,16)] (Ap (x.workers.set (x.tokens.getD e.toNat default).at_.toNat (H3 (A9 x (Ab x e).at_) e))) hj rfl rfl Lt rfl (Hc hj rfl) ?_
  exact C9 A0 () trivial rfl rfl rfl rfl C1
 ·have hg:(Ab x e).going=true:=by simpa [Ab] using hg
  refine ⟨fun hA=>?_,fun hA=>?_⟩<;>conv=>whnf
  ·have hA:(Ab x e).at_>0:=of_decide_eq_true hA
   refine B7 (Er ((x.tokens.getD e.toNat default).sum+(x.workers.getD (x.tokens.getD e.toNat default).at_.toNat default).sums.getD e.toNat default) (-1000000) 1000000) rfl (Af ?_)
   repeat refine Bg ?_
   refine ⟨fun hS=>?_,fun hS=>?_⟩<;>conv=>whnf
   ·rw [A5x hT hg hA (fun p=>by simp only [Gu,Ab,A9] at p;simp only [beq_iff_eq,beq_eq_false_iff_ne,bne_iff_ne,bne_eq_false_iff_eq,Bool.not_eq_true',Bool.not_eq_false',Go.Sx.Al,Go.Sx.B3,decide_eq_true_eq,decide_eq_false_iff_not,ne_eq,Int.not_lt,Int.not_le,ge_iff_le,gt_iff_lt,Int.toNat_zero,Int.toNat_one,Int.toNat_natCast] at *;omega)]
    refine Fb Try.prog 2 ((x.tokens.getD e.toNat default).at_.toNat) [(0,7),(1,8),(2,9),(3,10),(4,11),(5,12),(6,13),(7,14)] (Ap x.workers) hj rfl rfl Lt rfl (C7 rfl) ?_
    exact C9 A0 () trivial rfl rfl rfl rfl C1
   ·have hS:Gu ((Ab x e).sum+(A9 x (Ab x e).at_).sums.getD e.toNat default):=by simp only [Gu,Ab,A9];simp only [beq_iff_eq,beq_eq_false_iff_ne,bne_iff_ne,bne_eq_false_iff_eq,Bool.not_eq_true',Bool.not_eq_false',Go.Sx.Al,Go.Sx.B3,decide_eq_true_eq,decide_eq_false_iff_not,ne_eq,Int.not_lt,Int.not_le,ge_iff_le,gt_iff_lt,Int.toNat_zero,Int.toNat_one,Int.toNat_natCast] at *;omega
    first|(refine At 8 rfl [0,1,2,3,4,5,6,7,8] A6 (Af ?_))|(refine At 14 rfl [0,1,2,3,4,5,6,7,8,9,10,11,12,13,14,15,16,17,18,19,20] A6 (Af ?_))|(refine At 19 rfl [0,1,2,3,4,5,6,7,8,9,10,11,12,13,14,15,16,17,18,19,20,21,22,23,24,25,26,27,28,29] A6 (Af ?_))|(refine At 10 rfl [0,1,2,3,4,5,6,7,8] A6 (Af ?_))
    (repeat refine Ak ?_)
    refine ⟨fun hb=>?_,fun hb=>?_⟩<;>conv=>whnf
    ·have hb:(Ab x e).black=true:=hb
     repeat refine Bg ?_
     refine ⟨fun hc=>?_,fun hc=>?_⟩<;>conv=>whnf
     ·have hc:(Ab x e).capped=true:=hc
      repeat refine Bg ?_
      (repeat refine Ak ?_)
      refine Cu (j:=e) A0 rfl rfl rfl rfl rfl rfl rfl rfl (Cl (x.tokens.set e.toNat ⟨true,(Ab x e).at_-1,(Ab x e).sum+(A9 x (Ab x e).at_).sums.getD e.toNat default,(Ab x e).black||(A9 x (Ab x e).at_).black.getD e.toNat default,(Ab x e).capped||(A9 x (Ab x e).at_).caps.getD e.toNat default⟩)) (Do htk (by rw [hb,hc];rfl)) ?_
      refine K8 2 ((x.tokens.getD e.toNat default).at_.toNat) [(0,7),(1,8),(2,9),(3,10),(4,11),(5,12),(6,13),(7,14)] (Ap x.workers) hj rfl rfl Lt rfl (C7 rfl) (J4 ?_)
      conv=>whnf
      (repeat refine Ak ?_)
      refine Gk A0 rfl rfl rfl rfl rfl rfl (jn:=(x.tokens.getD e.toNat default).at_.toNat) rfl rfl rfl (fun v=>go A0 false ?_)
      conv=>whnf
      (repeat refine Ak ?_)
      refine Cu (j:=e) A0 rfl rfl rfl rfl rfl rfl rfl rfl (Ei ((A9 x (Ab x e).at_).black.set e.toNat false)) (Do hbl rfl) (Af ?_)
      rw [Ng hT hg hA hS]
      refine Fb Try.prog 2 ((x.tokens.getD e.toNat default).at_.toNat) [(5,16)] (Ap (x.workers.set (x.tokens.getD e.toNat default).at_.toNat (H3 (A9 x (Ab x e).at_) e))) hj rfl rfl Lt rfl (Hc hj rfl) ?_
      exact C9 A0 () trivial rfl rfl rfl rfl C1
     ·have hc:(Ab x e).capped=false:=hc
      repeat refine Bg ?_
      (repeat refine Ak ?_)
      refine Cu (j:=e) A0 rfl rfl rfl rfl rfl rfl rfl rfl (Cl (x.tokens.set e.toNat ⟨true,(Ab x e).at_-1,(Ab x e).sum+(A9 x (Ab x e).at_).sums.getD e.toNat default,(Ab x e).black||(A9 x (Ab x e).at_).black.getD e.toNat default,(Ab x e).capped||(A9 x (Ab x e).at_).caps.getD e.toNat default⟩)) (Do htk (by rw [hb,hc];rfl)) ?_
      refine K8 2 ((x.tokens.getD e.toNat default).at_.toNat) [(0,7),(1,8),(2,9),(3,10),(4,11),(5,12),(6,13),(7,14)] (Ap x.workers) hj rfl rfl Lt rfl (C7 rfl) (J4 ?_)
      conv=>whnf
      (repeat refine Ak ?_)
      refine Gk A0 rfl rfl rfl rfl rfl rfl (jn:=(x.tokens.getD e.toNat default).at_.toNat) rfl rfl rfl (fun v=>go A0 false ?_)
      conv=>whnf
      (repeat refine Ak ?_)
      refine Cu (j:=e) A0 rfl rfl rfl rfl rfl rfl rfl rfl (Ei ((A9 x (Ab x e).at_).black.set e.toNat false)) (Do hbl rfl) (Af ?_)
      rw [Ng hT hg hA hS]
      refine Fb Try.prog 2 ((x.tokens.getD e.toNat default).at_.toNat) [(5,16)] (Ap (x.workers.set (x.tokens.getD e.toNat default).at_.toNat (H3 (A9 x (Ab x e).at_) e))) hj rfl rfl Lt rfl (Hc hj rfl) ?_
      exact C9 A0 () trivial rfl rfl rfl rfl C1
    ·have hb:(Ab x e).black=false:=hb
     repeat refine Bg ?_
     refine ⟨fun hc=>?_,fun hc=>?_⟩<;>conv=>whnf
     ·have hc:(Ab x e).capped=true:=hc
      repeat refine Bg ?_
      (repeat refine Ak ?_)
      refine Cu (j:=e) A0 rfl rfl rfl rfl rfl rfl rfl rfl (Cl (x.tokens.set e.toNat ⟨true,(Ab x e).at_-1,(Ab x e).sum+(A9 x (Ab x e).at_).sums.getD e.toNat default,(Ab x e).black||(A9 x (Ab x e).at_).black.getD e.toNat default,(Ab x e).capped||(A9 x (Ab x e).at_).caps.getD e.toNat default⟩)) (Do htk (by rw [hb,hc];rfl)) ?_
      refine K8 2 ((x.tokens.getD e.toNat default).at_.toNat) [(0,7),(1,8),(2,9),(3,10),(4,11),(5,12),(6,13),(7,14)] (Ap x.workers) hj rfl rfl Lt rfl (C7 rfl) (J4 ?_)
      conv=>whnf
      (repeat refine Ak ?_)
      refine Gk A0 rfl rfl rfl rfl rfl rfl (jn:=(x.tokens.getD e.toNat default).at_.toNat) rfl rfl rfl (fun v=>go A0 false ?_)
      conv=>whnf
      (repeat refine Ak ?_)
      refine Cu (j:=e) A0 rfl rfl rfl rfl rfl rfl rfl rfl (Ei ((A9 x (Ab x e).at_).black.set e.toNat false)) (Do hbl rfl) (Af ?_)
      rw [Ng hT hg hA hS]
      refine Fb Try.prog 2 ((x.tokens.getD e.toNat default).at_.toNat) [(5,16)] (Ap (x.workers.set (x.tokens.getD e.toNat default).at_.toNat (H3 (A9 x (Ab x e).at_) e))) hj rfl rfl Lt rfl (Hc hj rfl) ?_
      exact C9 A0 () trivial rfl rfl rfl rfl C1
     ·have hc:(Ab x e).capped=false:=hc
      repeat refine Bg ?_
      (repeat refine Ak ?_)
      refine Cu (j:=e) A0 rfl rfl rfl rfl rfl rfl rfl rfl (Cl (x.tokens.set e.toNat ⟨true,(Ab x e).at_-1,(Ab x e).sum+(A9 x (Ab x e).at_).sums.getD e.toNat default,(Ab x e).black||(A9 x (Ab x e).at_).black.getD e.toNat default,(Ab x e).capped||(A9 x (Ab x e).at_).caps.getD e.toNat default⟩)) (Do htk (by rw [hb,hc];rfl)) ?_
      refine K8 2 ((x.tokens.getD e.toNat default).at_.toNat) [(0,7),(1,8),(2,9),(3,10),(4,11),(5,12),(6,13),(7,14)] (Ap x.workers) hj rfl rfl Lt rfl (C7 rfl) (J4 ?_)
      conv=>whnf
      (repeat refine Ak ?_)
      refine Gk A0 rfl rfl rfl rfl rfl rfl (jn:=(x.tokens.getD e.toNat default).at_.toNat) rfl rfl rfl (fun v=>go A0 false ?_)
      conv=>whnf
      (repeat refine Ak ?_)
      refine Cu (j:=e) A0 rfl rfl rfl rfl rfl rfl rfl rfl (Ei ((A9 x (Ab x e).at_).black.set e.toNat false)) (Do hbl rfl) (Af ?_)
      rw [Ng hT hg hA hS]
      refine Fb Try.prog 2 ((x.tokens.getD e.toNat default).at_.toNat) [(5,16)] (Ap (x.workers.set (x.tokens.getD e.toNat default).at_.toNat (H3 (A9 x (Ab x e).at_) e))) hj rfl rfl Lt rfl (Hc hj rfl) ?_
      exact C9 A0 () trivial rfl rfl rfl rfl C1
  ·have hA:¬ (Ab x e).at_>0:=of_decide_eq_false hA
   have hz:(x.tokens.getD e.toNat default).at_=0:=by
    have:¬ (x.tokens.getD e.toNat default).at_>0:=hA
    omega
   have hsw:(Cs x e ⟨false,(Ab x e).at_,(Ab x e).sum,(Ab x e).black,(Ab x e).capped⟩).w≤16000000:=by rw [A5s];exact h
   first|(refine At 8 rfl [0,1,2,3,4,5,6,7,8] A6 (Af ?_))|(refine At 14 rfl [0,1,2,3,4,5,6,7,8,9,10,11,12,13,14,15,16,17,18,19,20] A6 (Af ?_))|(refine At 19 rfl [0,1,2,3,4,5,6,7,8,9,10,11,12,13,14,15,16,17,18,19,20,21,22,23,24,25,26,27,28,29] A6 (Af ?_))|(refine At 10 rfl [0,1,2,3,4,5,6,7,8] A6 (Af ?_))
   (repeat refine Ak ?_)
   refine Cu (j:=e) A0 rfl rfl rfl rfl rfl rfl rfl rfl (Cl (x.tokens.set e.toNat ⟨false,(Ab x e).at_,(Ab x e).sum,(Ab x e).black,(Ab x e).capped⟩)) (Do htk rfl) ?_
   refine go A0 false ?_
   conv=>whnf
   refine ⟨fun hb=>?_,fun hb=>?_⟩<;>conv=>whnf
   ·have hb:(Ab x e).black=false:=by simpa [Ab] using hb
    repeat refine Bg ?_
    (repeat refine Ak ?_)
    refine ⟨fun hw=>?_,fun hw=>?_⟩<;>conv=>whnf
    ·have hw:(A9 x (Ab x e).at_).black.getD e.toNat default=false:=by simpa [Ab,A9] using hw
     repeat refine Bg ?_
     refine ⟨fun hs=>?_,fun hs=>?_⟩<;>conv=>whnf
     ·have hs:(Ab x e).sum+(A9 x (Ab x e).at_).sums.getD e.toNat default=0:=eq_of_beq hs
      have hyes:=And.intro hb (And.intro hw hs)
      repeat refine Bg ?_
      have hw0:A9 x (Ab x e).at_=x.workers.getD 0 default:=by
       show x.workers.getD (x.tokens.getD e.toNat default).at_.toNat default=_
       rw [hz]
       rfl
      refine ⟨fun hc=>?_,fun hc=>?_⟩<;>conv=>whnf
      ·have hc:(Ab x e).capped=true:=hc
       have hcap:((Ab x e).capped||(A9 x (Ab x e).at_).caps.getD e.toNat default)=true:=by rw [hc];rfl
       repeat refine Bg ?_
       (repeat refine Ak ?_)
       refine Xb 2 ((x.tokens.getD e.toNat default).at_.toNat) [(0,7),(1,8),(2,9),(3,10),(4,11),(5,12),(6,13),(7,14)] (Ap x.workers) hj rfl rfl Lt rfl (C7 rfl) ?_
       refine Cm (Vz (Cs x e ⟨false,(Ab x e).at_,(Ab x e).sum,(Ab x e).black,(Ab x e).capped⟩) e true (Aq x) hsw hl0) hH hp rfl C1 rfl rfl (fun r hr=>go A0 false ?_)
       conv=>whnf
       rw [Nf hT hg hA,H2,if_pos hyes,hcap,show Fj (A9 x (Ab x e).at_)=Fj (x.workers.getD 0 default) by rw [hw0]]
       exact C9 A0 () trivial rfl rfl rfl rfl C1
      ·have hc:(Ab x e).capped=false:=hc
       have hcap:((Ab x e).capped||(A9 x (Ab x e).at_).caps.getD e.toNat default)=(A9 x (Ab x e).at_).caps.getD e.toNat default:=by rw [hc];rfl
       repeat refine Bg ?_
       (repeat refine Ak ?_)
       refine Xb 2 ((x.tokens.getD e.toNat default).at_.toNat) [(0,7),(1,8),(2,9),(3,10),(4,11),(5,12),(6,13),(7,14)] (Ap x.workers) hj rfl rfl Lt rfl (C7 rfl) ?_
       refine Cm (Vz (Cs x e ⟨false,(Ab x e).at_,(Ab x e).sum,(Ab x e).black,(Ab x e).capped⟩) e ((A9 x (Ab x e).at_).caps.getD e.toNat default) (Aq x) hsw hl0) hH hp rfl C1 rfl rfl (fun r hr=>go A0 false ?_)
       conv=>whnf
       rw [Nf hT hg hA,H2,if_pos hyes,hcap,show Fj (A9 x (Ab x e).at_)=Fj (x.workers.getD 0 default) by rw [hw0]]
       exact C9 A0 () trivial rfl rfl rfl rfl C1
     ·have hs:(Ab x e).sum+(A9 x (Ab x e).at_).sums.getD e.toNat default≠0:=beq_eq_false_iff_ne.1 hs
      have hno:¬ ((Ab x e).black=false∧(A9 x (Ab x e).at_).black.getD e.toNat default=false∧(Ab x e).sum+(A9 x (Ab x e).at_).sums.getD e.toNat default=0):=fun p=>hs p.2.2
      repeat refine Bg ?_
      rw [Nf hT hg hA,H2,if_neg hno]
      refine Fb Try.prog 2 ((x.tokens.getD e.toNat default).at_.toNat) [(0,7),(1,8),(2,9),(3,10),(4,11),(5,12),(6,13),(7,14)] (Ap x.workers) hj rfl rfl Lt rfl (C7 rfl) ?_
      exact C9 A0 () trivial rfl rfl rfl rfl C1
    ·have hw:(A9 x (Ab x e).at_).black.getD e.toNat default=true:=by simpa [Ab,A9] using hw
     have hno:¬ ((Ab x e).black=false∧(A9 x (Ab x e).at_).black.getD e.toNat default=false∧(Ab x e).sum+(A9 x (Ab x e).at_).sums.getD e.toNat default=0):=fun p=>by rw [hw] at p;exact absurd p.2.1 Cb
     repeat refine Bg ?_
     rw [Nf hT hg hA,H2,if_neg hno]
     refine Fb Try.prog 2 ((x.tokens.getD e.toNat default).at_.toNat) [(0,7),(1,8),(2,9),(3,10),(4,11),(5,12),(6,13),(7,14)] (Ap x.workers) hj rfl rfl Lt rfl (C7 rfl) ?_
     exact C9 A0 () trivial rfl rfl rfl rfl C1
   ·have hb:(Ab x e).black=true:=by simpa [Ab] using hb
    have hno:¬ ((Ab x e).black=false∧(A9 x (Ab x e).at_).black.getD e.toNat default=false∧(Ab x e).sum+(A9 x (Ab x e).at_).sums.getD e.toNat default=0):=fun p=>by rw [hb] at p;exact absurd p.1 Cb
    repeat refine Bg ?_
    rw [Nf hT hg hA,H2,if_neg hno]
    refine Fb Try.prog 2 ((x.tokens.getD e.toNat default).at_.toNat) [(0,7),(1,8),(2,9),(3,10),(4,11),(5,12),(6,13),(7,14)] (Ap x.workers) hj rfl rfl Lt rfl (C7 rfl) ?_
    exact C9 A0 () trivial rfl rfl rfl rfl C1
theorem A03 (x:A3)(h:x.w≤16000000):Ta Try.prog 33 [] [.agg x.c] (fun _:Unit=>True) (fun _=>rc x):=by
 refine A16 A0 false Try.func33 rfl Cb fun W hp=>?_
 conv=>whnf
 first|(refine At 1 rfl [0,2,1,3,4,5,6] A6 (Af ?_))
 refine Dk (P9 x Ag) rfl (Af ?_)
 refine B7 (S5 x Ag) rfl (Af ?_)
 exact A6v A0 () trivial rfl rfl rfl (by repeat' (first|exact trivial|exact rfl|exact .inr ⟨rfl,rfl,_,_,rfl⟩|refine ⟨?_,?_⟩))
theorem Pg {l:C0}{r:Ac}(h:¬ Uv l r):C6 l r=(l,false):=if_neg h
theorem A3o {l:C0}{r:Ac}(h:Uv l r):C6 l r=(⟨l.cap,l.queue++[r],l.credits-1,l.back,l.sent+1,l.got⟩,true):=if_pos h
theorem Uk {l:C0}(h:¬ (Fc l∧0<l.queue.length)):Bn l=(l,default,false):=if_neg h
theorem W6 {l:C0}(h:Fc l∧0<l.queue.length):Bn l=(⟨l.cap,l.queue.drop 1,l.credits,l.back+1,l.sent,l.got+1⟩,l.queue.getD 0 default,true):=if_pos h
theorem Y5 {l:C0}(h:¬ (Fc l∧l.back≠0)):D4 l=(l,false):=if_neg h
theorem A1w {l:C0}(h:Fc l∧l.back≠0):D4 l=(⟨l.cap,l.queue,l.credits+1,l.back-1,l.sent,l.got⟩,true):=if_pos h
set_option maxHeartbeats 1000000 in
theorem Rj (l:C0)(r:Ac)(hl:l.w≤16777216):Bp Try.prog 66 [.agg l.c,.agg r.c] [.agg (C6 l r).1.c,.one (vb (C6 l r).2)]:=by
 have hq:l.queue.length≤16777216:=hl
 refine Bm A0 false Try.func66 rfl Cb fun W=>?_
 conv=>whnf
 refine Dk (Hq l Ag) rfl (Af ?_)
 refine B7 (Jx l Ag) rfl (Af ?_)
 refine ⟨fun h1=>?_,fun h1=>?_⟩<;>conv=>whnf
 ·have h1:Jr l=false:=by simpa using h1
  repeat refine Bg ?_
  rw [Pg (fun p=>absurd p.1 (of_decide_eq_false h1))]
  refine B1 A0 rfl rfl ?_
  exact C1
 have h1:Fc l:=of_decide_eq_true (show Jr l=true by simpa using h1)
 obtain ⟨⟨n1,n2,n3,n4,n5,n6,n7⟩,nA⟩:=id h1
 repeat refine Bg ?_
 refine B7 (Ft r) rfl (Af ?_)
 repeat refine Bg ?_
 refine ⟨fun h2=>?_,fun h2=>?_⟩<;>conv=>whnf
 ·have h2:Gp r=false:=by simpa using h2
  repeat refine Bg ?_
  rw [Pg (fun p=>absurd p.2.1 (of_decide_eq_false h2))]
  refine B1 A0 rfl rfl ?_
  exact C1
 have h2:Gt r:=of_decide_eq_true (show Gp r=true by simpa using h2)
 repeat refine Bg ?_
 refine ⟨fun h3=>have h3:=eq_of_beq h3;?_,fun h3=>have h3:=beq_eq_false_iff_ne.1 h3;?_⟩<;>conv=>whnf
 ·repeat refine Bg ?_
  rw [Pg (fun p=>p.2.2.1 h3)]
  refine B1 A0 rfl rfl ?_
  exact C1
 repeat refine Bg ?_
 refine ⟨fun h4=>?_,fun h4=>?_⟩<;>conv=>whnf
 ·have h4:l.sent=1000000000:=by (have:=of_decide_eq_true h4;omega)
  repeat refine Bg ?_
  rw [Pg (fun p=>p.2.2.2 h4)]
  refine B1 A0 rfl rfl ?_
  exact C1
 have h4:l.sent≠1000000000:=by (have:=of_decide_eq_false h4;omega)
 repeat refine Bg ?_
 refine B4 A0 rfl rfl rfl rfl rfl rfl rfl rfl rfl rfl rfl (A8 (l.queue++[r])) (B5 rfl) Rt Ag (Af ?_)
 (repeat refine Ak ?_)
 rw [A3o ⟨h1,h2,h3,h4⟩]
 refine B1 A0 rfl rfl ?_
 exact C1
set_option maxHeartbeats 1000000 in
theorem Ud (l:C0)(hl:l.w≤16777216):Bp Try.prog 77 [.agg l.c] [.agg (Bn l).1.c,.agg (Bn l).2.1.c,.one (vb (Bn l).2.2)]:=by
 have hq:l.queue.length≤16777216:=hl
 refine Bm A0 false Try.func77 rfl Cb fun W=>?_
 conv=>whnf
 refine Dk (Hq l Ag) rfl (Af ?_)
 refine B7 (Jx l Ag) rfl (Af ?_)
 refine ⟨fun h1=>?_,fun h1=>?_⟩<;>conv=>whnf
 ·have h1:Jr l=false:=by simpa using h1
  repeat refine Bg ?_
  rw [Uk (fun p=>absurd p.1 (of_decide_eq_false h1))]
  refine B1 A0 rfl rfl ?_
  exact C1
 have h1:Fc l:=of_decide_eq_true (show Jr l=true by simpa using h1)
 obtain ⟨⟨n1,n2,n3,n4,n5,n6,n7⟩,nA⟩:=id h1
 repeat refine Bg ?_
 refine ⟨fun h2=>have h2:=eq_of_beq h2;?_,fun h2=>have h2:=beq_eq_false_iff_ne.1 h2;?_⟩<;>conv=>whnf
 ·repeat refine Bg ?_
  rw [Uk (fun p=>by omega)]
  refine B1 A0 rfl rfl ?_
  exact C1
 have h2:0<l.queue.length:=by omega
 repeat refine Bg ?_
 (repeat refine Ak ?_)
 refine A33 A0 rfl rfl rfl rfl rfl rfl rfl rfl (l:=1) rfl rfl (⟨by omega,by omega,by omega⟩) (A8 (l.queue.drop 1)) (G5 (k:=1) h2) (Af ?_)
 refine B4 A0 rfl rfl rfl rfl rfl rfl rfl rfl rfl rfl rfl (A8 (l.queue.drop 1)) (Ah) (fun _=>Aj _) (by (rw [List.length_drop];omega)) (Af ?_)
 (repeat refine Ak ?_)
 refine J7 rfl ?_
 refine Eh (s':=?_) 0 rfl A6 ?_ ?_
 rotate_left
 refine go A0 false ?_
 conv=>whnf
 (repeat refine Ak ?_)
 exact Ay
 refine Jy [1,2] A6 ⟨?_,?_,trivial⟩
 focus
  refine go A0 false ?_
  conv=>whnf
  (repeat refine Ak ?_)
  refine Kn ?_
  refine Jy [2] A6 ⟨?_,trivial⟩
  refine go A0 false ?_
  conv=>whnf
  (repeat refine Ak ?_)
  refine Kn ?_
  refine Jy [3] A6 ⟨?_,trivial⟩
  refine go A0 false ?_
  conv=>whnf
  (repeat refine Ak ?_)
  refine Kn ?_
  refine Bi A0 false 4 rfl rfl A6 rfl (Aa D3) ?_
  refine Y6 A6 (Af ?_)
 rotate_left 1
 focus
  refine go A0 false ?_
  conv=>whnf
  (repeat refine Ak ?_)
  refine Kn ?_
  refine Eh (s':=?_) 1 rfl A6 ?_ ?_
  rotate_left
  refine go A0 false ?_
  conv=>whnf
  (repeat refine Ak ?_)
  exact Ay
  refine Jy [3] A6 ⟨?_,trivial⟩
  refine go A0 false ?_
  conv=>whnf
  (repeat refine Ak ?_)
  refine Kn ?_
  refine Bi A0 false 4 rfl rfl A6 rfl (Aa D3) ?_
  refine Y6 A6 (Af ?_)
 all_goals
  rw [W6 ⟨h1,h2⟩]
  refine B1 A0 rfl rfl ?_
  exact C1
theorem Rd (l:C0)(hl:l.w≤16777216):Bp Try.prog 78 [.agg l.c] [.agg (D4 l).1.c,.one (vb (D4 l).2)]:=by
 refine Bm A0 false Try.func78 rfl Cb fun W=>?_
 conv=>whnf
 refine Dk (Hq l Ag) rfl (Af ?_)
 refine B7 (Jx l Ag) rfl (Af ?_)
 refine ⟨fun h1=>?_,fun h1=>?_⟩<;>conv=>whnf
 ·have h1:Jr l=false:=by simpa using h1
  repeat refine Bg ?_
  rw [Y5 (fun p=>absurd p.1 (of_decide_eq_false h1))]
  refine B1 A0 rfl rfl ?_
  exact C1
 have h1:Fc l:=of_decide_eq_true (show Jr l=true by simpa using h1)
 obtain ⟨⟨n1,n2,n3,n4,n5,n6,n7⟩,nA⟩:=id h1
 repeat refine Bg ?_
 refine ⟨fun h2=>have h2:=eq_of_beq h2;?_,fun h2=>have h2:=beq_eq_false_iff_ne.1 h2;?_⟩<;>conv=>whnf
 ·repeat refine Bg ?_
  rw [Y5 (fun p=>p.2 h2)]
  refine B1 A0 rfl rfl ?_
  exact C1
 repeat refine Bg ?_
 (repeat refine Ak ?_)
 rw [A1w ⟨h1,h2⟩]
 refine B1 A0 rfl rfl ?_
 exact C1
end Go.Proofs.Ytonodkjaoalfjaa
