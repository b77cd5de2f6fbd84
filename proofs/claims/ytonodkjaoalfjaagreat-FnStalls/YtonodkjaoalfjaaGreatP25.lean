/- Part 25 of the proof that each of the laws FnStalls returns true for every input. No conditions. -/
import Derived.Test.YtonodkjaoalfjaaGreatP24
import Derived.Test.YtonodkjaoalfjaaGreatP21
import Derived.Test.YtonodkjaoalfjaaGreatP8
import Derived.Test.YtonodkjaoalfjaaGreatP13
import Derived.Test.YtonodkjaoalfjaaGreatP17
import Derived.Test.YtonodkjaoalfjaaGreatP10

set_option linter.unusedSimpArgs false
set_option linter.unusedVariables false
set_option maxRecDepth 100000
namespace Go.Proofs.YtonodkjaoalfjaaGreat
open Go.Sx
theorem C5l (c:A3)(e:Int)(t:Es):(Cp c e t).w=c.w:=by simp only [A3.w,Cp,List.length_set]
set_option maxHeartbeats 4000000 in
theorem C4k (x:A3)(e:Int)(h:x.w≤16000000):Iv Tryz.prog (fun _=>True) 214 [] (rc x) [.one (vi e)] (fun _:Unit=>True) (fun _=>rcb (Bo x e).1 (Fp x)) (fun _=>[.one (vb (Bo x e).2)]):=by
 refine Ol A0 false Tryz.func214 rfl Bu fun B b hH hp=>?_
 conv=>whnf
 refine ⟨fun hC=>?_,fun hC=>?_⟩<;>conv=>whnf
 ·repeat refine Bi ?_
  rw [Tj (fun p=>by rw [show Fp x=true from decide_eq_true p.1] at hC;exact absurd hC Bu)]
  exact Kk A0 () trivial rfl rfl rfl rfl Ca
 have hC:Ap x:=of_decide_eq_true (show Fp x=true by simpa using hC)
 have hl0:1≤x.workers.length:=by have:=hC.1.2.1;have:=hC.1.1.2.1;omega
 have htl:x.tokens.length=4:=hC.1.2.2.2
 have hwl4:x.workers.length≤4:=by have:=hC.1.2.1;have:=hC.1.1.2.1;omega
 repeat refine Bi ?_
 refine Aw (Jo e 0 3) rfl (Al ?_)
 repeat refine Bi ?_
 refine ⟨fun hE=>?_,fun hE=>?_⟩<;>conv=>whnf
 ·repeat refine Bi ?_
  rw [Tj (fun p=>by have:=p.2.1;clear hC p;simp only [beq_iff_eq,beq_eq_false_iff_ne,bne_iff_ne,bne_eq_false_iff_eq,Bool.not_eq_true',Bool.not_eq_false',Go.Sx.Am,Go.Sx.Az,decide_eq_true_eq,decide_eq_false_iff_not,ne_eq,Int.not_lt,Int.not_le,ge_iff_le,gt_iff_lt,Int.toNat_zero,Int.toNat_one,Int.toNat_natCast] at *;omega)]
  exact Kk A0 () trivial rfl rfl rfl rfl Ca
 have hE:0≤e∧e≤3:=by clear hC;simp only [beq_iff_eq,beq_eq_false_iff_ne,bne_iff_ne,bne_eq_false_iff_eq,Bool.not_eq_true',Bool.not_eq_false',Go.Sx.Am,Go.Sx.Az,decide_eq_true_eq,decide_eq_false_iff_not,ne_eq,Int.not_lt,Int.not_le,ge_iff_le,gt_iff_lt,Int.toNat_zero,Int.toNat_one,Int.toNat_natCast] at *;omega
 repeat refine Bi ?_
 refine Aw (C09 x e Ac) rfl (Al ?_)
 repeat refine Bi ?_
 refine ⟨fun hD=>?_,fun hD=>?_⟩<;>conv=>whnf
 ·rw [Tj (fun p=>by have hd:B1 (x.workers.getD 0 default) e=false:=p.2.2.1;rw [B1z,if_pos Ac,hd] at hD;cases hD)]
  exact Kk A0 () trivial rfl rfl rfl rfl Ca
 have hD:B1 (A6 x 0) e=false:=by rw [B1z,if_pos Ac] at hD;exact hD
 have hTP:=hC.2.2.2.1 _ (Aq (d:=default) (show e.toNat<x.tokens.length by omega))
 have hat:0≤(x.tokens.getD e.toNat default).at_∧(x.tokens.getD e.toNat default).at_<x.workers.length:=by
  have:=hC.1.2.1
  have:=hTP.1
  omega
 have hj:(x.tokens.getD e.toNat default).at_.toNat<x.workers.length:=by omega
 have hWP:=hC.2.1 _ (Aq (d:=default) hj)
 (repeat refine Ar ?_)
 refine B90 A0 rfl rfl rfl rfl rfl (jn:=(x.tokens.getD e.toNat default).at_.toNat) rfl (r:=Ab.c ((x.workers).getD ((x.tokens.getD e.toNat default).at_.toNat) default)) rfl hj rfl rfl (fun u=>go A0 false ?_)
 conv=>whnf
 refine Aw (C1f (x.workers.getD (x.tokens.getD e.toNat default).at_.toNat default) e (by have:=A3.worker_le h hj;omega)) rfl ?_
 cases hP:De (x.workers.getD (x.tokens.getD e.toNat default).at_.toNat default) e
 ·refine B5c 2 ((x.tokens.getD e.toNat default).at_.toNat) [(0,7),(1,8),(2,9),(3,10),(4,11),(5,12),(6,13),(7,14)] (Be x.workers) hj rfl rfl Kc rfl (Mg rfl) (Tt ?_)
  conv=>whnf
  repeat refine Bi ?_
  rw [Tj (fun p=>by have q:=p.2.2.2;rw [show A6 x (A4 x e).at_=x.workers.getD (x.tokens.getD e.toNat default).at_.toNat default from rfl,hP] at q;cases q)]
  exact Kk A0 () trivial rfl rfl rfl rfl Ca
 have hT:Kv x e:=⟨hC,hE,hD,hP⟩
 obtain ⟨hL1,hL2,hL3⟩:=hWP.2.1
 have hs1:=hTP.2.2
 have htk:e.toNat<x.tokens.length:=by omega
 have hbl:e.toNat<(A6 x (A4 x e).at_).black.length:=by
  show e.toNat<(x.workers.getD (x.tokens.getD e.toNat default).at_.toNat default).black.length
  omega
 have hs2:Jy ((x.workers.getD (x.tokens.getD e.toNat default).at_.toNat default).sums.getD e.toNat default):=hWP.2.2.2.1 _ (Aq Ac)
 simp only [Jy] at hs2
 refine go A0 false ?_
 conv=>whnf
 repeat refine Bi ?_
 first|(refine B9 8 rfl [0,1,2,3,4,5,6,7,8] Aa (Al ?_))|(refine B9 14 rfl [0,1,2,3,4,5,6,7,8,9,10,11,12,13,14,15,16,17,18,19,20] Aa (Al ?_))|(refine B9 19 rfl [0,1,2,3,4,5,6,7,8,9,10,11,12,13,14,15,16,17,18,19,20,21,22,23,24,25,26,27,28,29] Aa (Al ?_))|(refine B9 10 rfl [0,1,2,3,4,5,6,7,8] Aa (Al ?_))
 refine ⟨by (show _∧_;omega),?_⟩
 conv=>whnf
 refine ⟨by (show _∧_;omega),?_⟩
 conv=>whnf
 refine ⟨fun hg=>?_,fun hg=>?_⟩<;>conv=>whnf
 ·have hg:(A4 x e).going=false:=by simpa [A4] using hg
  have hA:(A4 x e).at_=0:=hTP.2.1 hg
  first|(refine B9 8 rfl [0,1,2,3,4,5,6,7,8] Aa (Al ?_))|(refine B9 14 rfl [0,1,2,3,4,5,6,7,8,9,10,11,12,13,14,15,16,17,18,19,20] Aa (Al ?_))|(refine B9 19 rfl [0,1,2,3,4,5,6,7,8,9,10,11,12,13,14,15,16,17,18,19,20,21,22,23,24,25,26,27,28,29] Aa (Al ?_))|(refine B9 10 rfl [0,1,2,3,4,5,6,7,8] Aa (Al ?_))
  (repeat refine Ar ?_)
  refine D7 (j:=e) A0 rfl rfl rfl rfl rfl rfl rfl rfl (C0 (x.tokens.set e.toNat ⟨true,(x.workers.length:Int)-1,0,false,(A6 x (A4 x e).at_).caps.getD e.toNat default⟩)) (E4 htk rfl) ?_
  refine B5c 2 ((x.tokens.getD e.toNat default).at_.toNat) [(0,7),(1,8),(2,9),(3,10),(4,11),(5,12),(6,13),(7,14)] (Be x.workers) hj rfl rfl Kc rfl (Mg rfl) (Tt ?_)
  conv=>whnf
  refine ⟨by exact ⟨Int.le_refl 0,by show (0:Int)<(x.workers.length:Int);omega⟩,?_⟩
  conv=>whnf
  refine B8f A0 rfl rfl rfl rfl rfl rfl (jn:=(x.tokens.getD e.toNat default).at_.toNat) (by rw [show (x.tokens.getD e.toNat default).at_=0 from hA]) rfl rfl (fun v=>go A0 false ?_)
  conv=>whnf
  (repeat refine Ar ?_)
  refine D7 (j:=e) A0 rfl rfl rfl rfl rfl rfl rfl rfl (Gm ((A6 x (A4 x e).at_).black.set e.toNat false)) (E4 hbl rfl) (Al ?_)
  rw [Zy hT hg]
  refine M9 Tryz.prog 2 ((x.tokens.getD e.toNat default).at_.toNat) [(5,16)] (Be (x.workers.set (x.tokens.getD e.toNat default).at_.toNat (G8 (A6 x (A4 x e).at_) e))) hj rfl rfl Kc rfl (Kz hj rfl) ?_
  exact Kk A0 () trivial rfl rfl rfl rfl Ca
 ·have hg:(A4 x e).going=true:=by simpa [A4] using hg
  refine ⟨fun hA=>?_,fun hA=>?_⟩<;>conv=>whnf
  ·have hA:(A4 x e).at_>0:=of_decide_eq_true hA
   refine Aw (Jo ((x.tokens.getD e.toNat default).sum+(x.workers.getD (x.tokens.getD e.toNat default).at_.toNat default).sums.getD e.toNat default) (-1000000) 1000000) rfl (Al ?_)
   repeat refine Bi ?_
   refine ⟨fun hS=>?_,fun hS=>?_⟩<;>conv=>whnf
   ·rw [B7m hT hg hA (fun p=>by simp only [Jy,A4,A6] at p;simp only [beq_iff_eq,beq_eq_false_iff_ne,bne_iff_ne,bne_eq_false_iff_eq,Bool.not_eq_true',Bool.not_eq_false',Go.Sx.Am,Go.Sx.Az,decide_eq_true_eq,decide_eq_false_iff_not,ne_eq,Int.not_lt,Int.not_le,ge_iff_le,gt_iff_lt,Int.toNat_zero,Int.toNat_one,Int.toNat_natCast] at *;omega)]
    refine M9 Tryz.prog 2 ((x.tokens.getD e.toNat default).at_.toNat) [(0,7),(1,8),(2,9),(3,10),(4,11),(5,12),(6,13),(7,14)] (Be x.workers) hj rfl rfl Kc rfl (Mg rfl) ?_
    exact Kk A0 () trivial rfl rfl rfl rfl Ca
   ·have hS:Jy ((A4 x e).sum+(A6 x (A4 x e).at_).sums.getD e.toNat default):=by simp only [Jy,A4,A6];simp only [beq_iff_eq,beq_eq_false_iff_ne,bne_iff_ne,bne_eq_false_iff_eq,Bool.not_eq_true',Bool.not_eq_false',Go.Sx.Am,Go.Sx.Az,decide_eq_true_eq,decide_eq_false_iff_not,ne_eq,Int.not_lt,Int.not_le,ge_iff_le,gt_iff_lt,Int.toNat_zero,Int.toNat_one,Int.toNat_natCast] at *;omega
    first|(refine B9 8 rfl [0,1,2,3,4,5,6,7,8] Aa (Al ?_))|(refine B9 14 rfl [0,1,2,3,4,5,6,7,8,9,10,11,12,13,14,15,16,17,18,19,20] Aa (Al ?_))|(refine B9 19 rfl [0,1,2,3,4,5,6,7,8,9,10,11,12,13,14,15,16,17,18,19,20,21,22,23,24,25,26,27,28,29] Aa (Al ?_))|(refine B9 10 rfl [0,1,2,3,4,5,6,7,8] Aa (Al ?_))
    (repeat refine Ar ?_)
    refine ⟨fun hb=>?_,fun hb=>?_⟩<;>conv=>whnf
    ·have hb:(A4 x e).black=true:=hb
     repeat refine Bi ?_
     refine ⟨fun hc=>?_,fun hc=>?_⟩<;>conv=>whnf
     ·have hc:(A4 x e).capped=true:=hc
      repeat refine Bi ?_
      (repeat refine Ar ?_)
      refine D7 (j:=e) A0 rfl rfl rfl rfl rfl rfl rfl rfl (C0 (x.tokens.set e.toNat ⟨true,(A4 x e).at_-1,(A4 x e).sum+(A6 x (A4 x e).at_).sums.getD e.toNat default,(A4 x e).black||(A6 x (A4 x e).at_).black.getD e.toNat default,(A4 x e).capped||(A6 x (A4 x e).at_).caps.getD e.toNat default⟩)) (E4 htk (by rw [hb,hc];rfl)) ?_
      refine B5c 2 ((x.tokens.getD e.toNat default).at_.toNat) [(0,7),(1,8),(2,9),(3,10),(4,11),(5,12),(6,13),(7,14)] (Be x.workers) hj rfl rfl Kc rfl (Mg rfl) (Tt ?_)
      conv=>whnf
      (repeat refine Ar ?_)
      refine B8f A0 rfl rfl rfl rfl rfl rfl (jn:=(x.tokens.getD e.toNat default).at_.toNat) rfl rfl rfl (fun v=>go A0 false ?_)
      conv=>whnf
      (repeat refine Ar ?_)
      refine D7 (j:=e) A0 rfl rfl rfl rfl rfl rfl rfl rfl (Gm ((A6 x (A4 x e).at_).black.set e.toNat false)) (E4 hbl rfl) (Al ?_)
      rw [Pj hT hg hA hS]
      refine M9 Tryz.prog 2 ((x.tokens.getD e.toNat default).at_.toNat) [(5,16)] (Be (x.workers.set (x.tokens.getD e.toNat default).at_.toNat (G8 (A6 x (A4 x e).at_) e))) hj rfl rfl Kc rfl (Kz hj rfl) ?_
      exact Kk A0 () trivial rfl rfl rfl rfl Ca
     ·have hc:(A4 x e).capped=false:=hc
      repeat refine Bi ?_
      (repeat refine Ar ?_)
      refine D7 (j:=e) A0 rfl rfl rfl rfl rfl rfl rfl rfl (C0 (x.tokens.set e.toNat ⟨true,(A4 x e).at_-1,(A4 x e).sum+(A6 x (A4 x e).at_).sums.getD e.toNat default,(A4 x e).black||(A6 x (A4 x e).at_).black.getD e.toNat default,(A4 x e).capped||(A6 x (A4 x e).at_).caps.getD e.toNat default⟩)) (E4 htk (by rw [hb,hc];rfl)) ?_
      refine B5c 2 ((x.tokens.getD e.toNat default).at_.toNat) [(0,7),(1,8),(2,9),(3,10),(4,11),(5,12),(6,13),(7,14)] (Be x.workers) hj rfl rfl Kc rfl (Mg rfl) (Tt ?_)
      conv=>whnf
      (repeat refine Ar ?_)
      refine B8f A0 rfl rfl rfl rfl rfl rfl (jn:=(x.tokens.getD e.toNat default).at_.toNat) rfl rfl rfl (fun v=>go A0 false ?_)
      conv=>whnf
      (repeat refine Ar ?_)
      refine D7 (j:=e) A0 rfl rfl rfl rfl rfl rfl rfl rfl (Gm ((A6 x (A4 x e).at_).black.set e.toNat false)) (E4 hbl rfl) (Al ?_)
      rw [Pj hT hg hA hS]
      refine M9 Tryz.prog 2 ((x.tokens.getD e.toNat default).at_.toNat) [(5,16)] (Be (x.workers.set (x.tokens.getD e.toNat default).at_.toNat (G8 (A6 x (A4 x e).at_) e))) hj rfl rfl Kc rfl (Kz hj rfl) ?_
      exact Kk A0 () trivial rfl rfl rfl rfl Ca
    ·have hb:(A4 x e).black=false:=hb
     repeat refine Bi ?_
     refine ⟨fun hc=>?_,fun hc=>?_⟩<;>conv=>whnf
     ·have hc:(A4 x e).capped=true:=hc
      repeat refine Bi ?_
      (repeat refine Ar ?_)
      refine D7 (j:=e) A0 rfl rfl rfl rfl rfl rfl rfl rfl (C0 (x.tokens.set e.toNat ⟨true,(A4 x e).at_-1,(A4 x e).sum+(A6 x (A4 x e).at_).sums.getD e.toNat default,(A4 x e).black||(A6 x (A4 x e).at_).black.getD e.toNat default,(A4 x e).capped||(A6 x (A4 x e).at_).caps.getD e.toNat default⟩)) (E4 htk (by rw [hb,hc];rfl)) ?_
      refine B5c 2 ((x.tokens.getD e.toNat default).at_.toNat) [(0,7),(1,8),(2,9),(3,10),(4,11),(5,12),(6,13),(7,14)] (Be x.workers) hj rfl rfl Kc rfl (Mg rfl) (Tt ?_)
      conv=>whnf
      (repeat refine Ar ?_)
      refine B8f A0 rfl rfl rfl rfl rfl rfl (jn:=(x.tokens.getD e.toNat default).at_.toNat) rfl rfl rfl (fun v=>go A0 false ?_)
      conv=>whnf
      (repeat refine Ar ?_)
      refine D7 (j:=e) A0 rfl rfl rfl rfl rfl rfl rfl rfl (Gm ((A6 x (A4 x e).at_).black.set e.toNat false)) (E4 hbl rfl) (Al ?_)
      rw [Pj hT hg hA hS]
      refine M9 Tryz.prog 2 ((x.tokens.getD e.toNat default).at_.toNat) [(5,16)] (Be (x.workers.set (x.tokens.getD e.toNat default).at_.toNat (G8 (A6 x (A4 x e).at_) e))) hj rfl rfl Kc rfl (Kz hj rfl) ?_
      exact Kk A0 () trivial rfl rfl rfl rfl Ca
     ·have hc:(A4 x e).capped=false:=hc
      repeat refine Bi ?_
      (repeat refine Ar ?_)
      refine D7 (j:=e) A0 rfl rfl rfl rfl rfl rfl rfl rfl (C0 (x.tokens.set e.toNat ⟨true,(A4 x e).at_-1,(A4 x e).sum+(A6 x (A4 x e).at_).sums.getD e.toNat default,(A4 x e).black||(A6 x (A4 x e).at_).black.getD e.toNat default,(A4 x e).capped||(A6 x (A4 x e).at_).caps.getD e.toNat default⟩)) (E4 htk (by rw [hb,hc];rfl)) ?_
      refine B5c 2 ((x.tokens.getD e.toNat default).at_.toNat) [(0,7),(1,8),(2,9),(3,10),(4,11),(5,12),(6,13),(7,14)] (Be x.workers) hj rfl rfl Kc rfl (Mg rfl) (Tt ?_)
      conv=>whnf
      (repeat refine Ar ?_)
      refine B8f A0 rfl rfl rfl rfl rfl rfl (jn:=(x.tokens.getD e.toNat default).at_.toNat) rfl rfl rfl (fun v=>go A0 false ?_)
      conv=>whnf
      (repeat refine Ar ?_)
      refine D7 (j:=e) A0 rfl rfl rfl rfl rfl rfl rfl rfl (Gm ((A6 x (A4 x e).at_).black.set e.toNat false)) (E4 hbl rfl) (Al ?_)
      rw [Pj hT hg hA hS]
      refine M9 Tryz.prog 2 ((x.tokens.getD e.toNat default).at_.toNat) [(5,16)] (Be (x.workers.set (x.tokens.getD e.toNat default).at_.toNat (G8 (A6 x (A4 x e).at_) e))) hj rfl rfl Kc rfl (Kz hj rfl) ?_
      exact Kk A0 () trivial rfl rfl rfl rfl Ca
  ·have hA:¬ (A4 x e).at_>0:=of_decide_eq_false hA
   have hz:(x.tokens.getD e.toNat default).at_=0:=by
    have:¬ (x.tokens.getD e.toNat default).at_>0:=hA
    omega
   have hsw:(Cp x e ⟨false,(A4 x e).at_,(A4 x e).sum,(A4 x e).black,(A4 x e).capped⟩).w≤16000000:=by rw [C5l];exact h
   first|(refine B9 8 rfl [0,1,2,3,4,5,6,7,8] Aa (Al ?_))|(refine B9 14 rfl [0,1,2,3,4,5,6,7,8,9,10,11,12,13,14,15,16,17,18,19,20] Aa (Al ?_))|(refine B9 19 rfl [0,1,2,3,4,5,6,7,8,9,10,11,12,13,14,15,16,17,18,19,20,21,22,23,24,25,26,27,28,29] Aa (Al ?_))|(refine B9 10 rfl [0,1,2,3,4,5,6,7,8] Aa (Al ?_))
   (repeat refine Ar ?_)
   refine D7 (j:=e) A0 rfl rfl rfl rfl rfl rfl rfl rfl (C0 (x.tokens.set e.toNat ⟨false,(A4 x e).at_,(A4 x e).sum,(A4 x e).black,(A4 x e).capped⟩)) (E4 htk rfl) ?_
   refine go A0 false ?_
   conv=>whnf
   refine ⟨fun hb=>?_,fun hb=>?_⟩<;>conv=>whnf
   ·have hb:(A4 x e).black=false:=by simpa [A4] using hb
    repeat refine Bi ?_
    (repeat refine Ar ?_)
    refine ⟨fun hw=>?_,fun hw=>?_⟩<;>conv=>whnf
    ·have hw:(A6 x (A4 x e).at_).black.getD e.toNat default=false:=by simpa [A4,A6] using hw
     repeat refine Bi ?_
     refine ⟨fun hs=>?_,fun hs=>?_⟩<;>conv=>whnf
     ·have hs:(A4 x e).sum+(A6 x (A4 x e).at_).sums.getD e.toNat default=0:=eq_of_beq hs
      have hyes:=And.intro hb (And.intro hw hs)
      repeat refine Bi ?_
      have hw0:A6 x (A4 x e).at_=x.workers.getD 0 default:=by
       show x.workers.getD (x.tokens.getD e.toNat default).at_.toNat default=_
       rw [hz]
       rfl
      refine ⟨fun hc=>?_,fun hc=>?_⟩<;>conv=>whnf
      ·have hc:(A4 x e).capped=true:=hc
       have hcap:((A4 x e).capped||(A6 x (A4 x e).at_).caps.getD e.toNat default)=true:=by rw [hc];rfl
       repeat refine Bi ?_
       (repeat refine Ar ?_)
       refine C3s 2 ((x.tokens.getD e.toNat default).at_.toNat) [(0,7),(1,8),(2,9),(3,10),(4,11),(5,12),(6,13),(7,14)] (Be x.workers) hj rfl rfl Kc rfl (Mg rfl) ?_
       refine Fg (C3i (Cp x e ⟨false,(A4 x e).at_,(A4 x e).sum,(A4 x e).black,(A4 x e).capped⟩) e true (Fp x) hsw hl0) hH hp rfl Ca rfl rfl (fun r hr=>go A0 false ?_)
       conv=>whnf
       rw [Q5 hT hg hA,Gn,if_pos hyes,hcap,show Cx (A6 x (A4 x e).at_)=Cx (x.workers.getD 0 default) by rw [hw0]]
       exact Kk A0 () trivial rfl rfl rfl rfl Ca
      ·have hc:(A4 x e).capped=false:=hc
       have hcap:((A4 x e).capped||(A6 x (A4 x e).at_).caps.getD e.toNat default)=(A6 x (A4 x e).at_).caps.getD e.toNat default:=by rw [hc];rfl
       repeat refine Bi ?_
       (repeat refine Ar ?_)
       refine C3s 2 ((x.tokens.getD e.toNat default).at_.toNat) [(0,7),(1,8),(2,9),(3,10),(4,11),(5,12),(6,13),(7,14)] (Be x.workers) hj rfl rfl Kc rfl (Mg rfl) ?_
       refine Fg (C3i (Cp x e ⟨false,(A4 x e).at_,(A4 x e).sum,(A4 x e).black,(A4 x e).capped⟩) e ((A6 x (A4 x e).at_).caps.getD e.toNat default) (Fp x) hsw hl0) hH hp rfl Ca rfl rfl (fun r hr=>go A0 false ?_)
       conv=>whnf
       rw [Q5 hT hg hA,Gn,if_pos hyes,hcap,show Cx (A6 x (A4 x e).at_)=Cx (x.workers.getD 0 default) by rw [hw0]]
       exact Kk A0 () trivial rfl rfl rfl rfl Ca
     ·have hs:(A4 x e).sum+(A6 x (A4 x e).at_).sums.getD e.toNat default≠0:=beq_eq_false_iff_ne.1 hs
      have hno:¬ ((A4 x e).black=false∧(A6 x (A4 x e).at_).black.getD e.toNat default=false∧(A4 x e).sum+(A6 x (A4 x e).at_).sums.getD e.toNat default=0):=fun p=>hs p.2.2
      repeat refine Bi ?_
      rw [Q5 hT hg hA,Gn,if_neg hno]
      refine M9 Tryz.prog 2 ((x.tokens.getD e.toNat default).at_.toNat) [(0,7),(1,8),(2,9),(3,10),(4,11),(5,12),(6,13),(7,14)] (Be x.workers) hj rfl rfl Kc rfl (Mg rfl) ?_
      exact Kk A0 () trivial rfl rfl rfl rfl Ca
    ·have hw:(A6 x (A4 x e).at_).black.getD e.toNat default=true:=by simpa [A4,A6] using hw
     have hno:¬ ((A4 x e).black=false∧(A6 x (A4 x e).at_).black.getD e.toNat default=false∧(A4 x e).sum+(A6 x (A4 x e).at_).sums.getD e.toNat default=0):=fun p=>by rw [hw] at p;exact absurd p.2.1 Bu
     repeat refine Bi ?_
     rw [Q5 hT hg hA,Gn,if_neg hno]
     refine M9 Tryz.prog 2 ((x.tokens.getD e.toNat default).at_.toNat) [(0,7),(1,8),(2,9),(3,10),(4,11),(5,12),(6,13),(7,14)] (Be x.workers) hj rfl rfl Kc rfl (Mg rfl) ?_
     exact Kk A0 () trivial rfl rfl rfl rfl Ca
   ·have hb:(A4 x e).black=true:=by simpa [A4] using hb
    have hno:¬ ((A4 x e).black=false∧(A6 x (A4 x e).at_).black.getD e.toNat default=false∧(A4 x e).sum+(A6 x (A4 x e).at_).sums.getD e.toNat default=0):=fun p=>by rw [hb] at p;exact absurd p.1 Bu
    repeat refine Bi ?_
    rw [Q5 hT hg hA,Gn,if_neg hno]
    refine M9 Tryz.prog 2 ((x.tokens.getD e.toNat default).at_.toNat) [(0,7),(1,8),(2,9),(3,10),(4,11),(5,12),(6,13),(7,14)] (Be x.workers) hj rfl rfl Kc rfl (Mg rfl) ?_
    exact Kk A0 () trivial rfl rfl rfl rfl Ca
theorem C1y (x:A3)(h:x.w≤16000000):A5w Tryz.prog 84 [] [.agg x.c] (fun _:Unit=>True) (fun _=>rc x):=by
 refine B79 A0 false Tryz.func84 rfl Bu fun W hp=>?_
 conv=>whnf
 first|(refine B9 1 rfl [0,2,1,3,4,5,6] Aa (Al ?_))
 refine B4 (C15 x Ac) rfl (Al ?_)
 refine Aw (C2o x Ac) rfl (Al ?_)
 exact B93 A0 () trivial rfl rfl rfl (by repeat' (first|exact trivial|exact rfl|exact .inr ⟨rfl,rfl,_,_,rfl⟩|refine ⟨?_,?_⟩))
theorem Q6 (x:Ab):x.queue.length≤x.w∧x.staged.length≤x.w∧x.inputs.length≤x.w∧x.cells.length≤x.w∧x.sums.length≤x.w∧x.black.length≤x.w∧x.caps.length≤x.w:=by simp only [Ab.w];omega
theorem A12 {w:Ab}{e:Int}(h:0≤e∧e<w.sums.length):Cs w e=Ib w e 1:=if_pos h
theorem A4p {w:Ab}{r:A5}(h1:w.sums.length=4)(h2:w.black.length=4)(he:0≤r.stamp.epoch∧r.stamp.epoch≤3):Cj w r=N2 (Ib (kept w r) r.stamp.epoch (-1)) r.stamp.epoch:=by
 unfold Cj
 rw [if_pos ⟨by omega,by omega,by omega⟩]
theorem Ov {g:Ad}{w:Ab}(h:¬ Sl g w):Dg g w=(w,false):=if_neg h
theorem B0j {g:Ad}{w:Ab}(h:Sl g w):Dg g w=(Jz w,true):=if_pos h
theorem Ur {g:Ad}{w:Ab}(h:¬ V5 g w):Fk g w=(w,false):=if_neg h
theorem A5o {g:Ad}{w:Ab}(h:V5 g w):Fk g w=(Fx g w,true):=if_pos h
theorem Qd {w f t:Int}(hw:1≤w∧w≤4)(hf:0≤f∧f<w)(ht:0≤t∧t<w):Ij w f t=f * w+t:=by
 unfold Ij
 rw [if_pos Ac]
 have e:w=1∨w=2∨w=3∨w=4:=by omega
 rcases e with rfl|rfl|rfl|rfl<;>rw [Hz (k:= .i64) (n:=f * _) (by show _∧_;omega),Hz (by show _∧_;omega)]
theorem A1e {w f t:Int}(h:¬ ((0≤f∧f<w)∧(0≤t∧t<w))):Ij w f t= -1:=by
 unfold Ij
 rw [if_neg Ac]
theorem T6 {c:A3}{f t:Int}(h:Ap c)(hf:0≤f∧f<c.graph.workers)(ht:0≤t∧t<c.graph.workers):0≤Ae c f t∧Ae c f t<c.links.length:=by
 have hl:=h.1.2.2.1
 have hw:=h.1.1.2.1
 clear h
 unfold Ae
 generalize c.graph.workers=n at *
 have e:n=1∨n=2∨n=3∨n=4:=by omega
 rcases e with rfl|rfl|rfl|rfl<;>omega
theorem A4h {c:A3}{w:Int}(h:¬ Hh c w):Cr c w=(c,false):=if_neg h
theorem A1t {c:A3}{w:Int}(h:Hh c w):Cr c w=(Av c w (Fk c.graph (A6 c w)).1,(Fk c.graph (A6 c w)).2):=if_pos h
theorem A1p {c:A3}{w:Int}(h:¬ Hh c w):Cg c w=(c,false):=if_neg h
theorem Y9 {c:A3}{w:Int}(h:Hh c w):Cg c w=(Av c w (Dg c.graph (A6 c w)).1,(Dg c.graph (A6 c w)).2):=if_pos h
theorem U0 {c:A3}{w:Int}(h:¬ (Hh c w∧0<(A6 c w).staged.length)):C6 c w=(c,false):=if_neg h
theorem A1r {c:A3}{w:Int}(h:Hh c w∧0<(A6 c w).staged.length)(h1:B8 c w=w):C6 c w=(Av c w (kept (Bt (A6 c w)) (B7 c w)),true):=by
 unfold C6
 rw [if_pos h,if_pos h1]
theorem Ya {c:A3}{w:Int}(h:Hh c w∧0<(A6 c w).staged.length)(h1:B8 c w≠w)(h2:(Dn (An c (Ae c w (B8 c w))) (B7 c w)).2=false):C6 c w=(c,false):=by
 unfold C6
 rw [if_pos h,if_neg h1,if_neg (by rw [h2];decide)]
theorem Yb {c:A3}{w:Int}(h:Hh c w∧0<(A6 c w).staged.length)(h1:B8 c w≠w)(h2:(Dn (An c (Ae c w (B8 c w))) (B7 c w)).2=true):C6 c w=(Av (B6 c (Ae c w (B8 c w)) (Dn (An c (Ae c w (B8 c w))) (B7 c w)).1) w (Cs (Bt (A6 c w)) (B7 c w).stamp.epoch),true):=by
 unfold C6
 rw [if_pos h,if_neg h1,if_pos h2]
theorem B4o {k n:Int}(hk:0≤k)(hn:1≤n):0≤Cf k n∧Cf k n<n:=by
 have h1:=Int.tmod_lt_of_pos k (show 0<n by omega)
 have h2:=Int.tmod_nonneg n hk
 unfold Cf
 (repeat' split)<;>omega
theorem A4f {c:A3}{f t:Int}(h:¬ Jw c f t):Cd c f t=(c,false):=if_neg fun p=>h p.1
theorem Yc {c:A3}{f t:Int}(h:(At (An c (Ae c f t))).2.2=false):Cd c f t=(c,false):=if_neg fun p=>by rw [p.2] at h;cases h
theorem A1s {c:A3}{f t:Int}(h:Jw c f t)(h1:(At (An c (Ae c f t))).2.2=true):Cd c f t=(Av (B6 c (Ae c f t) (At (An c (Ae c f t))).1) t (Cj (A6 c t) (At (An c (Ae c f t))).2.1),true):=if_pos ⟨h,h1⟩
theorem Y8 {c:A3}{f t:Int}(h:¬ Jw c f t):Br c f t=(c,false):=if_neg h
theorem Wz {c:A3}{f t:Int}(h:Jw c f t):Br c f t=(B6 c (Ae c f t) (Bn (An c (Ae c f t))).1,(Bn (An c (Ae c f t))).2):=if_pos h
def Nl (c:A3) (f t:Int):Int:=if Jw c f t then Ae c f t else-1
theorem B32 {c:A3}{f t:Int}(hC:Ap c)(hne:f≠t):Ij c.graph.workers f t=Nl c f t:=by
 unfold Nl
 by_cases h:Jw c f t
 ·rw [if_pos h,Qd hC.1.1.2.1 h.2.2.1 h.2.2.2]
  rfl
 ·rw [if_neg h,A1e (fun p=>h ⟨hC,hne,p⟩)]
end Go.Proofs.YtonodkjaoalfjaaGreat
