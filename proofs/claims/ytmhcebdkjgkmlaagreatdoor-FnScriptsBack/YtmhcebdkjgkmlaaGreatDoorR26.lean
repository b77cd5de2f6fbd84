/- Part 26 of the proof that each of the laws FnScriptsBack returns true for every input. No conditions. -/
import Derived.Test.YtmhcebdkjgkmlaaGreatDoorR24

set_option linter.unusedSimpArgs false
set_option linter.unusedVariables false
set_option maxRecDepth 100000
namespace Go.Proofs.YtmhcebdkjgkmlaaGreatDoor
open Go.Sx
theorem C91 (c:A3)(e:Int)(t:I9):(Gu c e t).w=c.w:=by simp only [A3.w,Gu,K1]
set_option maxHeartbeats 4000000 in
theorem C27 (x:A3)(e:Int)(h:x.w≤16000000):MtR (fun _=>True) 189 [] (rc x) [.one (vi e)] (fun _:Unit=>True) (fun _=>rcb (Dc x e).1 (Av x)) (fun _=>[.one (vb (Dc x e).2)]):=by
 refine zeP Tryz.func189 fun B b hH hp=>?_;refine C2 (fun hC=>?_) fun hC=>?_
 ·refine Ar ?_
  rw [Ua (fun p=>by rw [show Av x=true from D7 p.1] at hC;exact absurd hC Bk)]
  exact Iy () trivial
 have hC:B1 x:=Bp (show Av x=true by simpa using hC)
 have hl0:1≤x.aq.length:=by have:=hC.1.2.1;have:=hC.1.1.2.1;omega
 have htl:x.ar.length=4:=hC.1.2.2.2;have hwl4:x.aq.length≤4:=by have:=hC.1.2.1;have:=hC.1.1.2.1;omega
 refine Ar ?_;refine Ao (Hm e 0 3) rfl (Ft ?_);refine C2 (fun hE=>?_) fun hE=>?_
 ·refine Ar ?_
  rw [Ua (fun p=>by have:=p.2.1;clear hC p;simp only [Es] at *;omega)];exact Iy () trivial
 have hE:0≤e∧e≤3:=by clear hC;simp only [Es] at *;omega
 refine Ar ?_;refine Ao (A7o x e A7) rfl (Ft ?_);refine C2 (fun hD=>?_) fun hD=>?_
 ·rw [Ua (fun p=>by have hd:Lh (x.aq.getD 0 default) e=false:=p.2.2.1;rw [Qr,Ah A7,hd] at hD;cases hD)]
  exact Iy () trivial
 have hD:Lh (A8 x 0) e=false:=by rw [Qr,Ah A7] at hD;exact hD
 have hTP:=hC.2.2.2.1 _ (Am (d:=default) (show e.toNat<x.ar.length by omega))
 have hat:0≤(x.ar.getD e.toNat default).aj∧(x.ar.getD e.toNat default).aj<x.aq.length:=by
  have:=hC.1.2.1
  have:=hTP.1
  omega
 have hj:(x.ar.getD e.toNat default).aj.toNat<x.aq.length:=by omega
 have hWP:=hC.2.1 _ (Am (d:=default) hj);refine B6 ?_;refine A3a A0 rfl hj rfl (fun u=>go A0 false ?_);conv=>whnf
 refine Ao (A9e (x.aq.getD (x.ar.getD e.toNat default).aj.toNat default) e (by have:=A3.worker_le h hj;omega)) rfl ?_
 cases hP:L8 (x.aq.getD (x.ar.getD e.toNat default).aj.toNat default) e
 ·refine Rp 2 ((x.ar.getD e.toNat default).aj.toNat) [(0,7),(1,8),(2,9),(3,10),(4,11),(5,12),(6,13),(7,14)] (Ai x.aq) hj rfl rfl S0 rfl (Cv rfl) (I7 ?_)
  conv=>whnf
  refine Ar ?_;rw [Ua (fun p=>by have q:=p.2.2.2;rw [show A8 x (A5 x e).aj=x.aq.getD (x.ar.getD e.toNat default).aj.toNat default from rfl,hP] at q;cases q)]
  exact Iy () trivial
 have hT:Xk x e:=⟨hC,hE,hD,hP⟩;obtain ⟨hL1,hL2,hL3⟩:=hWP.2.1;have hs1:=hTP.2.2;have htk:e.toNat<x.ar.length:=by omega
 have hbl:e.toNat<(A8 x (A5 x e).aj).ah.length:=by
  show e.toNat<(x.aq.getD (x.ar.getD e.toNat default).aj.toNat default).ah.length
  omega
 have hs2:Kb ((x.aq.getD (x.ar.getD e.toNat default).aj.toNat default).ai.getD e.toNat default):=hWP.2.2.2.1 _ (Am A7);simp only [Kb] at hs2;refine Ft ?_
 first|(refine Ae 8 rfl [0,1,2,3,4,5,6,7,8] Ak (Ag ?_))|(refine Ae 14 rfl [0,1,2,3,4,5,6,7,8,9,10,11,12,13,14,15,16,17,18,19,20] Ak (Ag ?_))|(refine Ae 19 rfl [0,1,2,3,4,5,6,7,8,9,10,11,12,13,14,15,16,17,18,19,20,21,22,23,24,25,26,27,28,29] Ak (Ag ?_))|(refine Ae 10 rfl [0,1,2,3,4,5,6,7,8] Ak (Ag ?_))
 refine ⟨by (show _∧_;omega),?_⟩
 conv=>whnf
 refine ⟨by (show _∧_;omega),?_⟩
 conv=>whnf
 refine C2 (fun hg=>?_) fun hg=>?_
 ·have hg:(A5 x e).bj=false:=by simpa [A5] using hg
  have hA:(A5 x e).aj=0:=hTP.2.1 hg
  first|(refine Ae 8 rfl [0,1,2,3,4,5,6,7,8] Ak (Ag ?_))|(refine Ae 14 rfl [0,1,2,3,4,5,6,7,8,9,10,11,12,13,14,15,16,17,18,19,20] Ak (Ag ?_))|(refine Ae 19 rfl [0,1,2,3,4,5,6,7,8,9,10,11,12,13,14,15,16,17,18,19,20,21,22,23,24,25,26,27,28,29] Ak (Ag ?_))|(refine Ae 10 rfl [0,1,2,3,4,5,6,7,8] Ak (Ag ?_))
  refine B6 ?_;refine Bi (j:=e) A0 rfl (B4 (x.ar.set e.toNat ⟨true,(x.aq.length:Int)-1,0,false,(A8 x (A5 x e).aj).ao.getD e.toNat default⟩)) (Cn htk rfl) ?_;refine Rp 2 ((x.ar.getD e.toNat default).aj.toNat) [(0,7),(1,8),(2,9),(3,10),(4,11),(5,12),(6,13),(7,14)] (Ai x.aq) hj rfl rfl S0 rfl (Cv rfl) (I7 ?_);conv=>whnf
  refine ⟨by exact ⟨T8 0,by show (0:Int)<(x.aq.length:Int);omega⟩,?_⟩
  conv=>whnf
  refine Ma A0 rfl (jn:=(x.ar.getD e.toNat default).aj.toNat) (by rw [show (x.ar.getD e.toNat default).aj=0 from hA]) rfl (fun v=>go A0 false ?_)
  conv=>whnf
  refine B6 ?_;refine Bi (j:=e) A0 rfl (Dz ((A8 x (A5 x e).aj).ah.set e.toNat false)) (Cn hbl rfl) (Ag ?_);rw [B08 hT hg];refine Ge Tryz.prog 2 ((x.ar.getD e.toNat default).aj.toNat) [(5,16)] (Ai (x.aq.set (x.ar.getD e.toNat default).aj.toNat (Kf (A8 x (A5 x e).aj) e))) hj rfl S0 rfl (Hv hj rfl) ?_;exact Iy () trivial
 have hg:(A5 x e).bj=true:=by simpa [A5] using hg
 refine C2 (fun hA=>?_) fun hA=>?_
 ·have hA:(A5 x e).aj>0:=Bp hA
  refine Ao (Hm ((x.ar.getD e.toNat default).sum+(x.aq.getD (x.ar.getD e.toNat default).aj.toNat default).ai.getD e.toNat default) (-1000000) 1000000) rfl (Ft ?_);refine C2 (fun hS=>?_) fun hS=>?_
  ·rw [C0m hT hg hA (fun p=>by simp only [Kb,A5,A8] at p;simp only [Es] at *;omega)]
   refine Ge Tryz.prog 2 ((x.ar.getD e.toNat default).aj.toNat) [(0,7),(1,8),(2,9),(3,10),(4,11),(5,12),(6,13),(7,14)] (Ai x.aq) hj rfl S0 rfl (Cv rfl) ?_;exact Iy () trivial
  have hS:Kb ((A5 x e).sum+(A8 x (A5 x e).aj).ai.getD e.toNat default):=by simp only [Kb,A5,A8];simp only [Es] at *;omega
  first|(refine Ae 8 rfl [0,1,2,3,4,5,6,7,8] Ak (Ag ?_))|(refine Ae 14 rfl [0,1,2,3,4,5,6,7,8,9,10,11,12,13,14,15,16,17,18,19,20] Ak (Ag ?_))|(refine Ae 19 rfl [0,1,2,3,4,5,6,7,8,9,10,11,12,13,14,15,16,17,18,19,20,21,22,23,24,25,26,27,28,29] Ak (Ag ?_))|(refine Ae 10 rfl [0,1,2,3,4,5,6,7,8] Ak (Ag ?_))
  refine B6 ?_;refine C2 (fun hb=>?_) fun hb=>?_
  ·have hb:(A5 x e).ah=true:=hb
   refine Ar ?_;refine C2 (fun hc=>?_) fun hc=>?_
   ·have hc:(A5 x e).ae=true:=hc
    refine Ar ?_;refine Bi (j:=e) A0 rfl (B4 (x.ar.set e.toNat ⟨true,(A5 x e).aj-1,(A5 x e).sum+(A8 x (A5 x e).aj).ai.getD e.toNat default,(A5 x e).ah||(A8 x (A5 x e).aj).ah.getD e.toNat default,(A5 x e).ae||(A8 x (A5 x e).aj).ao.getD e.toNat default⟩)) (Cn htk (by rw [hb,hc];rfl)) ?_;refine Rp 2 ((x.ar.getD e.toNat default).aj.toNat) [(0,7),(1,8),(2,9),(3,10),(4,11),(5,12),(6,13),(7,14)] (Ai x.aq) hj rfl rfl S0 rfl (Cv rfl) (I7 ?_);conv=>whnf
    refine B6 ?_;refine Ma A0 rfl (jn:=(x.ar.getD e.toNat default).aj.toNat) rfl rfl (fun v=>go A0 false ?_);conv=>whnf
    refine B6 ?_;refine Bi (j:=e) A0 rfl (Dz ((A8 x (A5 x e).aj).ah.set e.toNat false)) (Cn hbl rfl) (Ag ?_);rw [Ox hT hg hA hS];refine Ge Tryz.prog 2 ((x.ar.getD e.toNat default).aj.toNat) [(5,16)] (Ai (x.aq.set (x.ar.getD e.toNat default).aj.toNat (Kf (A8 x (A5 x e).aj) e))) hj rfl S0 rfl (Hv hj rfl) ?_;exact Iy () trivial
   have hc:(A5 x e).ae=false:=hc;refine Ar ?_;refine Bi (j:=e) A0 rfl (B4 (x.ar.set e.toNat ⟨true,(A5 x e).aj-1,(A5 x e).sum+(A8 x (A5 x e).aj).ai.getD e.toNat default,(A5 x e).ah||(A8 x (A5 x e).aj).ah.getD e.toNat default,(A5 x e).ae||(A8 x (A5 x e).aj).ao.getD e.toNat default⟩)) (Cn htk (by rw [hb,hc];rfl)) ?_;refine Rp 2 ((x.ar.getD e.toNat default).aj.toNat) [(0,7),(1,8),(2,9),(3,10),(4,11),(5,12),(6,13),(7,14)] (Ai x.aq) hj rfl rfl S0 rfl (Cv rfl) (I7 ?_);conv=>whnf
   refine B6 ?_;refine Ma A0 rfl (jn:=(x.ar.getD e.toNat default).aj.toNat) rfl rfl (fun v=>go A0 false ?_);conv=>whnf
   refine B6 ?_;refine Bi (j:=e) A0 rfl (Dz ((A8 x (A5 x e).aj).ah.set e.toNat false)) (Cn hbl rfl) (Ag ?_);rw [Ox hT hg hA hS];refine Ge Tryz.prog 2 ((x.ar.getD e.toNat default).aj.toNat) [(5,16)] (Ai (x.aq.set (x.ar.getD e.toNat default).aj.toNat (Kf (A8 x (A5 x e).aj) e))) hj rfl S0 rfl (Hv hj rfl) ?_;exact Iy () trivial
  have hb:(A5 x e).ah=false:=hb;refine Ar ?_;refine C2 (fun hc=>?_) fun hc=>?_
  ·have hc:(A5 x e).ae=true:=hc
   refine Ar ?_;refine Bi (j:=e) A0 rfl (B4 (x.ar.set e.toNat ⟨true,(A5 x e).aj-1,(A5 x e).sum+(A8 x (A5 x e).aj).ai.getD e.toNat default,(A5 x e).ah||(A8 x (A5 x e).aj).ah.getD e.toNat default,(A5 x e).ae||(A8 x (A5 x e).aj).ao.getD e.toNat default⟩)) (Cn htk (by rw [hb,hc];rfl)) ?_;refine Rp 2 ((x.ar.getD e.toNat default).aj.toNat) [(0,7),(1,8),(2,9),(3,10),(4,11),(5,12),(6,13),(7,14)] (Ai x.aq) hj rfl rfl S0 rfl (Cv rfl) (I7 ?_);conv=>whnf
   refine B6 ?_;refine Ma A0 rfl (jn:=(x.ar.getD e.toNat default).aj.toNat) rfl rfl (fun v=>go A0 false ?_);conv=>whnf
   refine B6 ?_;refine Bi (j:=e) A0 rfl (Dz ((A8 x (A5 x e).aj).ah.set e.toNat false)) (Cn hbl rfl) (Ag ?_);rw [Ox hT hg hA hS];refine Ge Tryz.prog 2 ((x.ar.getD e.toNat default).aj.toNat) [(5,16)] (Ai (x.aq.set (x.ar.getD e.toNat default).aj.toNat (Kf (A8 x (A5 x e).aj) e))) hj rfl S0 rfl (Hv hj rfl) ?_;exact Iy () trivial
  have hc:(A5 x e).ae=false:=hc;refine Ar ?_;refine Bi (j:=e) A0 rfl (B4 (x.ar.set e.toNat ⟨true,(A5 x e).aj-1,(A5 x e).sum+(A8 x (A5 x e).aj).ai.getD e.toNat default,(A5 x e).ah||(A8 x (A5 x e).aj).ah.getD e.toNat default,(A5 x e).ae||(A8 x (A5 x e).aj).ao.getD e.toNat default⟩)) (Cn htk (by rw [hb,hc];rfl)) ?_;refine Rp 2 ((x.ar.getD e.toNat default).aj.toNat) [(0,7),(1,8),(2,9),(3,10),(4,11),(5,12),(6,13),(7,14)] (Ai x.aq) hj rfl rfl S0 rfl (Cv rfl) (I7 ?_);conv=>whnf
  refine B6 ?_;refine Ma A0 rfl (jn:=(x.ar.getD e.toNat default).aj.toNat) rfl rfl (fun v=>go A0 false ?_);conv=>whnf
  refine B6 ?_;refine Bi (j:=e) A0 rfl (Dz ((A8 x (A5 x e).aj).ah.set e.toNat false)) (Cn hbl rfl) (Ag ?_);rw [Ox hT hg hA hS];refine Ge Tryz.prog 2 ((x.ar.getD e.toNat default).aj.toNat) [(5,16)] (Ai (x.aq.set (x.ar.getD e.toNat default).aj.toNat (Kf (A8 x (A5 x e).aj) e))) hj rfl S0 rfl (Hv hj rfl) ?_;exact Iy () trivial
 have hA:¬ (A5 x e).aj>0:=Cy hA
 have hz:(x.ar.getD e.toNat default).aj=0:=by
  have:¬ (x.ar.getD e.toNat default).aj>0:=hA
  omega
 have hsw:(Gu x e ⟨false,(A5 x e).aj,(A5 x e).sum,(A5 x e).ah,(A5 x e).ae⟩).w≤16000000:=by rw [C91];exact h
 first|(refine Ae 8 rfl [0,1,2,3,4,5,6,7,8] Ak (Ag ?_))|(refine Ae 14 rfl [0,1,2,3,4,5,6,7,8,9,10,11,12,13,14,15,16,17,18,19,20] Ak (Ag ?_))|(refine Ae 19 rfl [0,1,2,3,4,5,6,7,8,9,10,11,12,13,14,15,16,17,18,19,20,21,22,23,24,25,26,27,28,29] Ak (Ag ?_))|(refine Ae 10 rfl [0,1,2,3,4,5,6,7,8] Ak (Ag ?_))
 refine B6 ?_;refine Bi (j:=e) A0 rfl (B4 (x.ar.set e.toNat ⟨false,(A5 x e).aj,(A5 x e).sum,(A5 x e).ah,(A5 x e).ae⟩)) (Cn htk rfl) ?_;refine Ag ?_;refine C2 (fun hb=>?_) fun hb=>?_
 ·have hb:(A5 x e).ah=false:=by simpa [A5] using hb
  refine Ar ?_;refine C2 (fun hw=>?_) fun hw=>?_
  ·have hw:(A8 x (A5 x e).aj).ah.getD e.toNat default=false:=by simpa [A5,A8] using hw
   refine Ar ?_;refine C2 (fun hs=>?_) fun hs=>?_
   ·have hs:(A5 x e).sum+(A8 x (A5 x e).aj).ai.getD e.toNat default=0:=eq_of_beq hs
    have hyes:=And.intro hb (And.intro hw hs);refine Ar ?_
    have hw0:A8 x (A5 x e).aj=x.aq.getD 0 default:=by
     show x.aq.getD (x.ar.getD e.toNat default).aj.toNat default=_
     rw [hz];rfl
    refine C2 (fun hc=>?_) fun hc=>?_
    ·have hc:(A5 x e).ae=true:=hc
     have hcap:((A5 x e).ae||(A8 x (A5 x e).aj).ao.getD e.toNat default)=true:=by rw [hc];rfl
     refine Ar ?_;refine B8i 2 ((x.ar.getD e.toNat default).aj.toNat) [(0,7),(1,8),(2,9),(3,10),(4,11),(5,12),(6,13),(7,14)] (Ai x.aq) hj rfl rfl S0 rfl (Cv rfl) ?_;refine Ix (B53 (Gu x e ⟨false,(A5 x e).aj,(A5 x e).sum,(A5 x e).ah,(A5 x e).ae⟩) e true (Av x) hsw hl0) hH hp fun r hr=>?_;rw [Of hT hg hA,Ll,Ah hyes,hcap,show Jq (A8 x (A5 x e).aj)=Jq (x.aq.getD 0 default) by rw [hw0]]
     exact Iy () trivial
    have hc:(A5 x e).ae=false:=hc;have hcap:((A5 x e).ae||(A8 x (A5 x e).aj).ao.getD e.toNat default)=(A8 x (A5 x e).aj).ao.getD e.toNat default:=by rw [hc];rfl
    refine Ar ?_;refine B8i 2 ((x.ar.getD e.toNat default).aj.toNat) [(0,7),(1,8),(2,9),(3,10),(4,11),(5,12),(6,13),(7,14)] (Ai x.aq) hj rfl rfl S0 rfl (Cv rfl) ?_;refine Ix (B53 (Gu x e ⟨false,(A5 x e).aj,(A5 x e).sum,(A5 x e).ah,(A5 x e).ae⟩) e ((A8 x (A5 x e).aj).ao.getD e.toNat default) (Av x) hsw hl0) hH hp fun r hr=>?_;rw [Of hT hg hA,Ll,Ah hyes,hcap,show Jq (A8 x (A5 x e).aj)=Jq (x.aq.getD 0 default) by rw [hw0]]
    exact Iy () trivial
   have hs:(A5 x e).sum+(A8 x (A5 x e).aj).ai.getD e.toNat default≠0:=Nh.1 hs;have hno:¬ ((A5 x e).ah=false∧(A8 x (A5 x e).aj).ah.getD e.toNat default=false∧(A5 x e).sum+(A8 x (A5 x e).aj).ai.getD e.toNat default=0):=fun p=>hs p.2.2
   refine Ar ?_;rw [Of hT hg hA,Ll,Ab hno];refine Ge Tryz.prog 2 ((x.ar.getD e.toNat default).aj.toNat) [(0,7),(1,8),(2,9),(3,10),(4,11),(5,12),(6,13),(7,14)] (Ai x.aq) hj rfl S0 rfl (Cv rfl) ?_;exact Iy () trivial
  have hw:(A8 x (A5 x e).aj).ah.getD e.toNat default=true:=by simpa [A5,A8] using hw
  have hno:¬ ((A5 x e).ah=false∧(A8 x (A5 x e).aj).ah.getD e.toNat default=false∧(A5 x e).sum+(A8 x (A5 x e).aj).ai.getD e.toNat default=0):=fun p=>by rw [hw] at p;exact absurd p.2.1 Bk
  refine Ar ?_;rw [Of hT hg hA,Ll,Ab hno];refine Ge Tryz.prog 2 ((x.ar.getD e.toNat default).aj.toNat) [(0,7),(1,8),(2,9),(3,10),(4,11),(5,12),(6,13),(7,14)] (Ai x.aq) hj rfl S0 rfl (Cv rfl) ?_;exact Iy () trivial
 have hb:(A5 x e).ah=true:=by simpa [A5] using hb
 have hno:¬ ((A5 x e).ah=false∧(A8 x (A5 x e).aj).ah.getD e.toNat default=false∧(A5 x e).sum+(A8 x (A5 x e).aj).ai.getD e.toNat default=0):=fun p=>by rw [hb] at p;exact absurd p.1 Bk
 refine Ar ?_;rw [Of hT hg hA,Ll,Ab hno];refine Ge Tryz.prog 2 ((x.ar.getD e.toNat default).aj.toNat) [(0,7),(1,8),(2,9),(3,10),(4,11),(5,12),(6,13),(7,14)] (Ai x.aq) hj rfl S0 rfl (Cv rfl) ?_;exact Iy () trivial
theorem B02 (x:A3)(h:x.w≤16000000):B1b Tryz.prog 96 [] [.agg x.c] (fun _:Unit=>True) (fun _=>rc x):=by
 refine C4z A0 false Tryz.func96 rfl Bk fun W hp=>?_;conv=>whnf
 first|(refine Ae 1 rfl [0,2,1,3,4,5,6] Ak (Ag ?_))
 refine Hp (A3r x A7) ?_;refine Fh (A9c x A7) ?_;exact D1j A0 () trivial rfl rfl rfl (by repeat' (first|exact trivial|exact rfl|exact .inr ⟨rfl,rfl,_,_,rfl⟩|refine ⟨?_,?_⟩))
end Go.Proofs.YtmhcebdkjgkmlaaGreatDoor
