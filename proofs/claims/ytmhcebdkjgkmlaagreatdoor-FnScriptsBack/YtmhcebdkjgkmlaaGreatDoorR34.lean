/- Part 34 of the proof that each of the laws FnScriptsBack returns true for every input. No conditions. -/
import Derived.Test.YtmhcebdkjgkmlaaGreatDoorR26

set_option linter.unusedSimpArgs false
set_option linter.unusedVariables false
set_option maxRecDepth 100000
namespace Go.Proofs.YtmhcebdkjgkmlaaGreatDoor
open Go.Sx
theorem B6j {n es:Nat}{row:Nat→List Ad}{j off:Nat}{r cs:List Ad}:V5 n es (Hf row j r) j off cs (.sl n es (Hf row j (E6 r off cs))):=
 ⟨_,rfl,fun i _ hne=>by rw [O4 _ _ _ _ hne,O4 _ _ _ _ hne],by rw [Cw,Cw]⟩
set_option maxHeartbeats 8000000 in
theorem A81 (x:A3)(e:Int)(h:x.w≤16000000)(hgo:Nj x):Df 180 [.agg x.c,.one (vi e)] [.agg (Dc x e).1.c,.one (vb (Dc x e).2)]:=by
 refine Dy Tryz.func180 fun W=>?_;refine Hp (Ev x A7) ?_;refine Fh (O9 x A7 hgo) ?_;refine C2 (fun hC=>?_) fun hC=>?_
 ·refine Ar ?_
  refine Af A0 rfl rfl ?_;rw [Ua (fun p=>by rw [show Av x=true from D7 p.1] at hC;exact absurd hC Bk)]
  exact I1
 have hC:B1 x:=Bp (show Av x=true by simpa using hC)
 have hl0:1≤x.aq.length:=by have:=hC.1.2.1;have:=hC.1.1.2.1;omega
 have htl:x.ar.length=4:=hC.1.2.2.2;have hwl4:x.aq.length≤4:=by have:=hC.1.2.1;have:=hC.1.1.2.1;omega
 refine Ar ?_;refine Ao (Hw e 0 3) rfl (Ft ?_);refine C2 (fun hE=>?_) fun hE=>?_
 ·refine Ar ?_
  refine Af A0 rfl rfl ?_;rw [Ua (fun p=>by have:=p.2.1;clear hC hgo p;simp only [Es] at *;omega)];exact I1
 have hE:0≤e∧e≤3:=by clear hC hgo;simp only [Es] at *;omega
 refine Ar ?_;refine Ao (A5u (A8 x 0) e (by have:=A3.worker_le h (show 0<x.aq.length by omega);show (x.aq.getD 0 default).w≤_;omega)) rfl (Ft ?_)
 refine C2 (fun hD=>?_) fun hD=>?_
 ·refine Ar ?_
  refine Af A0 rfl rfl ?_;rw [Ua (fun p=>by rw [p.2.2.1] at hD;cases hD)];exact I1
 have hE1:e<x.ar.length:=by omega
 have htk:e.toNat<x.ar.length:=by omega
 have hTP:=hC.2.2.2.1 _ (Am (d:=default) htk)
 have hat:0≤(x.ar.getD e.toNat default).aj∧(x.ar.getD e.toNat default).aj<x.aq.length:=by
  have:=hC.1.2.1
  have:=hTP.1
  omega
 have hj:(x.ar.getD e.toNat default).aj.toNat<x.aq.length:=by omega
 have hWP:=hC.2.1 _ (Am (d:=default) hj);refine B6 ?_
 first|(refine Ae 5 rfl [0,1,2,3,4,5,6,7] Ak (Ag ?_))|(refine Ae 17 rfl [0,1,2,3,4,5,6,7,8,9,10,11,12,13,14] Ak (Ag ?_))|(refine Ae 20 rfl [0,1,2,3,4,5,6,7,8,9,10,11,12,13] Ak (Ag ?_))|(refine Ae 22 rfl [0,1,2,3,4,5,6,7,8,9,10,11,12,13,14] Ak (Ag ?_))|(refine Ae 9 rfl [0,1,2,3,4,5,6,7,8,9,10,11,12,13,14,15,16,17,18,19,20,21,22,23,24,25,26,27,28,29] Ak (Ag ?_))
 refine ⟨by exact hat,?_⟩;conv=>whnf
 refine B6 ?_;refine A3a A0 rfl hj rfl (fun u=>go A0 false ?_);conv=>whnf
 refine Ao (A8x (x.aq.getD (x.ar.getD e.toNat default).aj.toNat default) e (by have:=A3.worker_le h hj;omega)) rfl ?_;refine Ag ?_;refine C2 (fun hP=>?_) fun hP=>?_
 ·refine Ar ?_
  rw [Ua (fun p=>by have q:=p.2.2.2;rw [show A8 x (A5 x e).aj=x.aq.getD (x.ar.getD e.toNat default).aj.toNat default from rfl] at q;rw [q] at hP;cases hP)]
  refine Ge Tryz.prog 3 ((x.ar.getD e.toNat default).aj.toNat) [(0,8),(1,9),(2,10),(3,11),(4,12),(5,13),(6,14),(7,15)] (Ai (x.aq)) hj rfl S0 rfl (Cv rfl) ?_;exact Dk
 have hP:L8 (x.aq.getD (x.ar.getD e.toNat default).aj.toNat default) e=true:=by simpa using hP
 have hT:Xk x e:=⟨hC,hE,hD,hP⟩;obtain ⟨hL1,hL2,hL3⟩:=hWP.2.1;have hs1:=hTP.2.2
 have hbl:e.toNat<(A8 x (A5 x e).aj).ah.length:=by
  show e.toNat<(x.aq.getD (x.ar.getD e.toNat default).aj.toNat default).ah.length
  omega
 have hs2:Kb ((x.aq.getD (x.ar.getD e.toNat default).aj.toNat default).ai.getD e.toNat default):=hWP.2.2.2.1 _ (Am A7);simp only [Kb] at hs2;have hdl:(x.aq.getD (x.ar.getD e.toNat default).aj.toNat default).bz.length≤16000000:=by have:=A3.worker_le h hj;simp only [Aj.w] at this;omega
 have hnl:=A3.news_le h;have hwl:=A3.workers_le h;refine Ar ?_;refine C2 (fun hg=>?_) fun hg=>?_
 ·have hg:(A5 x e).bj=false:=by simpa [A5] using hg
  first|(refine Ae 5 rfl [0,1,2,3,4,5,6,7] Ak (Ag ?_))|(refine Ae 17 rfl [0,1,2,3,4,5,6,7,8,9,10,11,12,13,14] Ak (Ag ?_))|(refine Ae 20 rfl [0,1,2,3,4,5,6,7,8,9,10,11,12,13] Ak (Ag ?_))|(refine Ae 22 rfl [0,1,2,3,4,5,6,7,8,9,10,11,12,13,14] Ak (Ag ?_))|(refine Ae 9 rfl [0,1,2,3,4,5,6,7,8,9,10,11,12,13,14,15,16,17,18,19,20,21,22,23,24,25,26,27,28,29] Ak (Ag ?_))
  refine B6 ?_;refine N3 A0 rfl (Cw _ _ _) rfl (Ag ?_);refine He 132 14 rfl (F1 ?_);refine Bi (j:=e) A0 rfl (B4 (x.ar.set e.toNat ⟨true,(x.aq.length:Int)-1,0,false,(A8 x (A5 x e).aj).ao.getD e.toNat default⟩)) (Cn htk rfl) (Ag ?_);refine N3 A0 rfl (Cw _ _ _) rfl (Ag ?_);refine He 145 13 rfl (F1 ?_);refine Bi (j:=e) A0 rfl (Dz ((A8 x (A5 x e).aj).ah.set e.toNat false)) (Cn hbl rfl) (Ag ?_);rw [B08 hT hg];refine Ge Tryz.prog 3 ((x.ar.getD e.toNat default).aj.toNat) [(0,8),(1,9),(2,10),(3,11),(4,12),(5,13),(6,14),(7,15)] (Ai ((x.aq.set (x.ar.getD e.toNat default).aj.toNat (Kf (A8 x (A5 x e).aj) e)))) hj rfl S0 rfl (Hv hj rfl) ?_;exact Dk
 have hg:(A5 x e).bj=true:=by simpa [A5] using hg
 refine C2 (fun hA=>?_) fun hA=>?_
 ·have hA:(A5 x e).aj>0:=Bp hA
  first|(refine Ae 5 rfl [0,1,2,3,4,5,6,7] Ak (Ag ?_))|(refine Ae 17 rfl [0,1,2,3,4,5,6,7,8,9,10,11,12,13,14] Ak (Ag ?_))|(refine Ae 20 rfl [0,1,2,3,4,5,6,7,8,9,10,11,12,13] Ak (Ag ?_))|(refine Ae 22 rfl [0,1,2,3,4,5,6,7,8,9,10,11,12,13,14] Ak (Ag ?_))|(refine Ae 9 rfl [0,1,2,3,4,5,6,7,8,9,10,11,12,13,14,15,16,17,18,19,20,21,22,23,24,25,26,27,28,29] Ak (Ag ?_))
  refine B6 ?_;refine N3 A0 rfl (Cw _ _ _) rfl (Ag ?_);refine He 161 12 rfl (F1 ?_);refine Ao (Hw _ (-1000000) 1000000) rfl ?_;refine Ag ?_;refine C2 (fun hS=>?_) fun hS=>?_
  ·refine Ar ?_
   rw [C0m hT hg hA (fun p=>by have q:F0 _ (-1000000) 1000000=false:=(Mp _).mp hS;exact absurd ((Go.Sx.Dj.2 p).symm.trans q) Bk)];refine Ge Tryz.prog 3 ((x.ar.getD e.toNat default).aj.toNat) [(0,8),(1,9),(2,10),(3,11),(4,12),(5,13),(6,14),(7,15)] (Ai (x.aq)) hj rfl S0 rfl (Cv rfl) ?_;exact Dk
  have hS:Kb ((A5 x e).sum+(A8 x (A5 x e).aj).ai.getD e.toNat default):=Go.Sx.Dj.1 ((Uj _).mp hS);refine Ar ?_
  first|(refine Ae 5 rfl [0,1,2,3,4,5,6,7] Ak (Ag ?_))|(refine Ae 17 rfl [0,1,2,3,4,5,6,7,8,9,10,11,12,13,14] Ak (Ag ?_))|(refine Ae 20 rfl [0,1,2,3,4,5,6,7,8,9,10,11,12,13] Ak (Ag ?_))|(refine Ae 22 rfl [0,1,2,3,4,5,6,7,8,9,10,11,12,13,14] Ak (Ag ?_))|(refine Ae 9 rfl [0,1,2,3,4,5,6,7,8,9,10,11,12,13,14,15,16,17,18,19,20,21,22,23,24,25,26,27,28,29] Ak (Ag ?_))
  refine B6 ?_;refine N3 A0 rfl (Cw _ _ _) rfl (Ag ?_);refine He 176 12 rfl (F1 ?_);refine Bi (j:=e) A0 rfl (B4 (x.ar.set e.toNat ⟨(A5 x e).bj,(A5 x e).aj,(A5 x e).sum+(A8 x (A5 x e).aj).ai.getD e.toNat default,(A5 x e).ah,(A5 x e).ae⟩)) (Cn htk rfl) (Ag ?_);refine C2 (fun hb=>?_) fun hb=>?_
  ·have hb:(A5 x e).ah=true:=by rw [Sx.getD_set_self _ _ _ _ htk] at hb;exact hb
   refine Ar ?_;refine Bi (j:=e) A0 rfl (B4 (x.ar.set e.toNat ⟨(A5 x e).bj,(A5 x e).aj,(A5 x e).sum+(A8 x (A5 x e).aj).ai.getD e.toNat default,(A5 x e).ah||(A8 x (A5 x e).aj).ah.getD e.toNat default,(A5 x e).ae⟩)) (Lx htk (by rw [hb];rfl)) (Ag ?_);refine C2 (fun hc=>?_) fun hc=>?_
   ·have hc:(A5 x e).ae=true:=by rw [Sx.getD_set_self _ _ _ _ htk] at hc;exact hc
    refine Ar ?_;refine Bi (j:=e) A0 rfl (B4 (x.ar.set e.toNat ⟨(A5 x e).bj,(A5 x e).aj,(A5 x e).sum+(A8 x (A5 x e).aj).ai.getD e.toNat default,(A5 x e).ah||(A8 x (A5 x e).aj).ah.getD e.toNat default,(A5 x e).ae||(A8 x (A5 x e).aj).ao.getD e.toNat default⟩)) (Lx htk (by rw [hc];rfl)) (Ag ?_);refine N3 A0 rfl (Cw _ _ _) rfl (Ag ?_);refine He 218 13 rfl (F1 ?_);refine Bi (j:=e) A0 rfl (Dz ((A8 x (A5 x e).aj).ah.set e.toNat false)) (Cn hbl rfl) (Ag ?_);refine ⟨by (rw [Sx.getD_set_self _ _ _ _ htk];have q:0≤(A5 x e).aj∧(A5 x e).aj<x.aq.length:=hat;show _≤(A5 x e).aj-1∧(A5 x e).aj-1≤_;omega),?_⟩
    conv=>whnf
    refine Bi (j:=e) A0 rfl (B4 (x.ar.set e.toNat ⟨true,(A5 x e).aj-1,(A5 x e).sum+(A8 x (A5 x e).aj).ai.getD e.toNat default,(A5 x e).ah||(A8 x (A5 x e).aj).ah.getD e.toNat default,(A5 x e).ae||(A8 x (A5 x e).aj).ao.getD e.toNat default⟩)) (Lx htk (by rw [Sx.getD_set_self _ _ _ _ htk,hg];rfl)) (Ag ?_);rw [Ox hT hg hA hS];refine Ge Tryz.prog 3 ((x.ar.getD e.toNat default).aj.toNat) [(0,8),(1,9),(2,10),(3,11),(4,12),(5,13),(6,14),(7,15)] (Ai ((x.aq.set (x.ar.getD e.toNat default).aj.toNat (Kf (A8 x (A5 x e).aj) e)))) hj rfl S0 rfl (Hv hj rfl) ?_;exact Dk
   have hc:(A5 x e).ae=false:=by rw [Sx.getD_set_self _ _ _ _ htk] at hc;exact hc
   refine Ar ?_;refine N3 A0 rfl (Cw _ _ _) rfl (Ft ?_);refine He 208 14 rfl (Ft ?_);refine B6 ?_;refine Bi (j:=e) A0 rfl (B4 (x.ar.set e.toNat ⟨(A5 x e).bj,(A5 x e).aj,(A5 x e).sum+(A8 x (A5 x e).aj).ai.getD e.toNat default,(A5 x e).ah||(A8 x (A5 x e).aj).ah.getD e.toNat default,(A5 x e).ae||(A8 x (A5 x e).aj).ao.getD e.toNat default⟩)) (Lx htk (by rw [hc];rfl)) (Ag ?_);refine N3 A0 rfl (Cw _ _ _) rfl (Ag ?_);refine He 218 13 rfl (F1 ?_);refine Bi (j:=e) A0 rfl (Dz ((A8 x (A5 x e).aj).ah.set e.toNat false)) (Cn hbl rfl) (Ag ?_);refine ⟨by (rw [Sx.getD_set_self _ _ _ _ htk];have q:0≤(A5 x e).aj∧(A5 x e).aj<x.aq.length:=hat;show _≤(A5 x e).aj-1∧(A5 x e).aj-1≤_;omega),?_⟩
   conv=>whnf
   refine Bi (j:=e) A0 rfl (B4 (x.ar.set e.toNat ⟨true,(A5 x e).aj-1,(A5 x e).sum+(A8 x (A5 x e).aj).ai.getD e.toNat default,(A5 x e).ah||(A8 x (A5 x e).aj).ah.getD e.toNat default,(A5 x e).ae||(A8 x (A5 x e).aj).ao.getD e.toNat default⟩)) (Lx htk (by rw [Sx.getD_set_self _ _ _ _ htk,hg];rfl)) (Ag ?_);rw [Ox hT hg hA hS];refine Ge Tryz.prog 3 ((x.ar.getD e.toNat default).aj.toNat) [(0,8),(1,9),(2,10),(3,11),(4,12),(5,13),(6,14),(7,15)] (Ai ((x.aq.set (x.ar.getD e.toNat default).aj.toNat (Kf (A8 x (A5 x e).aj) e)))) hj rfl S0 rfl (Hv hj rfl) ?_;exact Dk
  have hb:(A5 x e).ah=false:=by rw [Sx.getD_set_self _ _ _ _ htk] at hb;exact hb
  refine Ar ?_;refine N3 A0 rfl (Cw _ _ _) rfl (Ft ?_);refine He 192 13 rfl (Ft ?_);refine B6 ?_;refine Bi (j:=e) A0 rfl (B4 (x.ar.set e.toNat ⟨(A5 x e).bj,(A5 x e).aj,(A5 x e).sum+(A8 x (A5 x e).aj).ai.getD e.toNat default,(A5 x e).ah||(A8 x (A5 x e).aj).ah.getD e.toNat default,(A5 x e).ae⟩)) (Lx htk (by rw [hb];rfl)) (Ag ?_);refine C2 (fun hc=>?_) fun hc=>?_
  ·have hc:(A5 x e).ae=true:=by rw [Sx.getD_set_self _ _ _ _ htk] at hc;exact hc
   refine Ar ?_;refine Bi (j:=e) A0 rfl (B4 (x.ar.set e.toNat ⟨(A5 x e).bj,(A5 x e).aj,(A5 x e).sum+(A8 x (A5 x e).aj).ai.getD e.toNat default,(A5 x e).ah||(A8 x (A5 x e).aj).ah.getD e.toNat default,(A5 x e).ae||(A8 x (A5 x e).aj).ao.getD e.toNat default⟩)) (Lx htk (by rw [hc];rfl)) (Ag ?_);refine N3 A0 rfl (Cw _ _ _) rfl (Ag ?_);refine He 218 13 rfl (F1 ?_);refine Bi (j:=e) A0 rfl (Dz ((A8 x (A5 x e).aj).ah.set e.toNat false)) (Cn hbl rfl) (Ag ?_);refine ⟨by (rw [Sx.getD_set_self _ _ _ _ htk];have q:0≤(A5 x e).aj∧(A5 x e).aj<x.aq.length:=hat;show _≤(A5 x e).aj-1∧(A5 x e).aj-1≤_;omega),?_⟩
   conv=>whnf
   refine Bi (j:=e) A0 rfl (B4 (x.ar.set e.toNat ⟨true,(A5 x e).aj-1,(A5 x e).sum+(A8 x (A5 x e).aj).ai.getD e.toNat default,(A5 x e).ah||(A8 x (A5 x e).aj).ah.getD e.toNat default,(A5 x e).ae||(A8 x (A5 x e).aj).ao.getD e.toNat default⟩)) (Lx htk (by rw [Sx.getD_set_self _ _ _ _ htk,hg];rfl)) (Ag ?_);rw [Ox hT hg hA hS];refine Ge Tryz.prog 3 ((x.ar.getD e.toNat default).aj.toNat) [(0,8),(1,9),(2,10),(3,11),(4,12),(5,13),(6,14),(7,15)] (Ai ((x.aq.set (x.ar.getD e.toNat default).aj.toNat (Kf (A8 x (A5 x e).aj) e)))) hj rfl S0 rfl (Hv hj rfl) ?_;exact Dk
  have hc:(A5 x e).ae=false:=by rw [Sx.getD_set_self _ _ _ _ htk] at hc;exact hc
  refine Ar ?_;refine N3 A0 rfl (Cw _ _ _) rfl (Ft ?_);refine He 208 14 rfl (Ft ?_);refine B6 ?_;refine Bi (j:=e) A0 rfl (B4 (x.ar.set e.toNat ⟨(A5 x e).bj,(A5 x e).aj,(A5 x e).sum+(A8 x (A5 x e).aj).ai.getD e.toNat default,(A5 x e).ah||(A8 x (A5 x e).aj).ah.getD e.toNat default,(A5 x e).ae||(A8 x (A5 x e).aj).ao.getD e.toNat default⟩)) (Lx htk (by rw [hc];rfl)) (Ag ?_);refine N3 A0 rfl (Cw _ _ _) rfl (Ag ?_);refine He 218 13 rfl (F1 ?_);refine Bi (j:=e) A0 rfl (Dz ((A8 x (A5 x e).aj).ah.set e.toNat false)) (Cn hbl rfl) (Ag ?_);refine ⟨by (rw [Sx.getD_set_self _ _ _ _ htk];have q:0≤(A5 x e).aj∧(A5 x e).aj<x.aq.length:=hat;show _≤(A5 x e).aj-1∧(A5 x e).aj-1≤_;omega),?_⟩
  conv=>whnf
  refine Bi (j:=e) A0 rfl (B4 (x.ar.set e.toNat ⟨true,(A5 x e).aj-1,(A5 x e).sum+(A8 x (A5 x e).aj).ai.getD e.toNat default,(A5 x e).ah||(A8 x (A5 x e).aj).ah.getD e.toNat default,(A5 x e).ae||(A8 x (A5 x e).aj).ao.getD e.toNat default⟩)) (Lx htk (by rw [Sx.getD_set_self _ _ _ _ htk,hg];rfl)) (Ag ?_);rw [Ox hT hg hA hS];refine Ge Tryz.prog 3 ((x.ar.getD e.toNat default).aj.toNat) [(0,8),(1,9),(2,10),(3,11),(4,12),(5,13),(6,14),(7,15)] (Ai ((x.aq.set (x.ar.getD e.toNat default).aj.toNat (Kf (A8 x (A5 x e).aj) e)))) hj rfl S0 rfl (Hv hj rfl) ?_;exact Dk
 have hA:¬ (A5 x e).aj>0:=Cy hA
 have hz:(x.ar.getD e.toNat default).aj=0:=by
  have:¬ (x.ar.getD e.toNat default).aj>0:=hA
  omega
 refine B6 ?_;refine Bi (j:=e) A0 rfl (B4 (x.ar.set e.toNat ⟨false,(A5 x e).aj,(A5 x e).sum,(A5 x e).ah,(A5 x e).ae⟩)) (Cn htk rfl) (Ag ?_)
 first|(refine Ae 5 rfl [0,1,2,3,4,5,6,7] Ak (Ag ?_))|(refine Ae 17 rfl [0,1,2,3,4,5,6,7,8,9,10,11,12,13,14] Ak (Ag ?_))|(refine Ae 20 rfl [0,1,2,3,4,5,6,7,8,9,10,11,12,13] Ak (Ag ?_))|(refine Ae 22 rfl [0,1,2,3,4,5,6,7,8,9,10,11,12,13,14] Ak (Ag ?_))|(refine Ae 9 rfl [0,1,2,3,4,5,6,7,8,9,10,11,12,13,14,15,16,17,18,19,20,21,22,23,24,25,26,27,28,29] Ak (Ag ?_))
 refine B6 ?_;refine C2 (fun hb=>?_) fun hb=>?_
 ·have hb:(A5 x e).ah=false:=by rw [Sx.getD_set_self _ _ _ _ htk] at hb;simpa [A5] using hb
  refine Ar ?_;refine N3 A0 rfl (Cw _ _ _) rfl (Ft ?_);refine He 60 13 rfl (Ft ?_);refine B6 ?_;refine C2 (fun hw=>?_) fun hw=>?_
  ·have hw:(A8 x (A5 x e).aj).ah.getD e.toNat default=false:=by simpa [A5,A8] using hw
   refine Ar ?_;refine N3 A0 rfl (Cw _ _ _) rfl (Ft ?_);refine He 74 12 rfl (Ft ?_);refine B6 ?_;refine ⟨by (rw [Sx.getD_set_self _ _ _ _ htk];have q: -1000000≤(A5 x e).sum∧(A5 x e).sum≤1000000:=hs1;show _≤(A5 x e).sum+_∧(A5 x e).sum+_≤_;omega),?_⟩
   conv=>whnf
   refine Ar ?_;refine C2 (fun hs=>?_) fun hs=>?_
   ·have hs:(A5 x e).sum+(A8 x (A5 x e).aj).ai.getD e.toNat default=0:=by rw [Sx.getD_set_self _ _ _ _ htk] at hs;exact eq_of_beq hs
    have hyes:=And.intro hb (And.intro hw hs);have hz':∀c w,Bf c 0 w=Bf c (x.ar.getD e.toNat default).aj w:=fun c w=>by rw [hz]
    refine Ar ?_;refine C2 (fun hc=>?_) fun hc=>?_
    ·have hc:(A5 x e).ae=true:=by rw [Sx.getD_set_self _ _ _ _ htk] at hc;exact hc
     have hcap:((A5 x e).ae||(A8 x (A5 x e).aj).ao.getD e.toNat default)=true:=by rw [hc];rfl
     refine Ar ?_;refine N3 A0 rfl (Cw _ _ _) rfl (Ag ?_);refine He 98 15 rfl (F1 ?_);refine Bg A0 rfl (Hy ((A8 x (A5 x e).aj).bz++[⟨e,true⟩])) (An rfl) Ij A7 (F1 ?_);refine Bi (j:=(x.ar.getD e.toNat default).aj) A0 rfl _ B6j ?_;refine Rp 3 ((x.ar.getD e.toNat default).aj.toNat) [(0,8),(1,9),(2,10),(3,11),(4,12),(5,13),(6,14)] (Ai (x.aq.set (x.ar.getD e.toNat default).aj.toNat (Jq (A8 x (A5 x e).aj) ⟨e,true⟩))) hj rfl rfl S0 rfl (Hv hj rfl) (I7 ?_);conv=>whnf
     refine Fs [11,12,13,14,15,16,17,18,19,20,21,22,23,24,25,26,27,28,29,30,31,32,33,34,35,36,37,38,39,40,41,42,43,44,45,46,47,48,49,50,51,52,53,54,55,56,57,58,59,60,61,62,63,64,65,66,67,68,69,70,71,72,73,74,75,76,77,78,79,80,81,82,83,84,85,86,87,88,89,90,91,92,93,94,95,96,97,98,99,100,101,102,103,104,105,106,107,108,109,110,111,112,113,114,115,116,117,118,119,120,121] (fun k:Nat=>[(10,.c (vi (k+1)))]) (fun k=>[⟨7,[.own 2,.c (vi x.az.aq),.c (vi x.az.cap),.own 3,.own 4,.own 5,.own 6]⟩,⟨1,[.c (.val (.slice none 0 0)),.c (vi 0),.c (vi 0),.c (.val (.slice none 0 0)),.c (.val (.slice none 0 0)),.c (.val (.slice none 0 0)),.c (.val (.slice none 0 0))]⟩,⟨0,[.c (Ay x.az.ay),.c (vi x.az.aq),.c (vi x.az.cap),.c (Ai x.aq),.c (Bo x.ak),.c (B4 x.ar),.c (C4 x.au)]⟩]) (fun k=>[⟨2,Ay x.az.ay⟩,⟨3,Ai (x.aq.set (x.ar.getD e.toNat default).aj.toNat (Jq (A8 x (A5 x e).aj) ⟨e,true⟩))⟩,⟨4,Bo x.ak⟩,⟨5,B4 (x.ar.set e.toNat ⟨false,(A5 x e).aj,(A5 x e).sum,(A5 x e).ah,(A5 x e).ae⟩)⟩,⟨6,C4 (x.au++Qi e (true) k)⟩]) (fun k=>k≤(x.aq.length-1)) (fun k=>(x.aq.length-1)-k) fun k hk=>?_;refine E3 (fun hg2=>?_) fun hg2=>?_
     ·refine Bg A0 rfl (C4 (x.au++Qi e (true) k++[⟨k+1,e,true⟩])) (An rfl) Ij (by rw [Dn,A1p];omega) (F1 ?_)
      refine Co [(0,0),(1,1),(2,2),(3,3),(4,4),(5,5),(6,19),(7,7)] (k+1) A7 A7 ⟨by rw [Int.natCast_add];rfl,trivial⟩ ⟨rfl,rfl,rfl,rfl,by show (_:Ad)=_;rw [Yu,←Ci],trivial⟩
     obtain rfl:k=x.aq.length-1:=by omega
     refine Ar ?_;rw [Of hT hg hA,Ll,Ah hyes,hcap,hz'];exact Dk
    have hc:(A5 x e).ae=false:=by rw [Sx.getD_set_self _ _ _ _ htk] at hc;exact hc
    have hcap:((A5 x e).ae||(A8 x (A5 x e).aj).ao.getD e.toNat default)=(A8 x (A5 x e).aj).ao.getD e.toNat default:=by rw [hc];rfl
    refine Ar ?_;refine N3 A0 rfl (Cw _ _ _) rfl (Ft ?_);refine He 89 14 rfl (Ft ?_);refine B6 ?_;refine N3 A0 rfl (Cw _ _ _) rfl (Ag ?_);refine He 98 15 rfl (F1 ?_);refine Bg A0 rfl (Hy ((A8 x (A5 x e).aj).bz++[⟨e,((A8 x (A5 x e).aj).ao.getD e.toNat default)⟩])) (An rfl) Ij A7 (F1 ?_);refine Bi (j:=(x.ar.getD e.toNat default).aj) A0 rfl _ B6j ?_;refine Rp 3 ((x.ar.getD e.toNat default).aj.toNat) [(0,8),(1,9),(2,10),(3,11),(4,12),(5,13),(6,14)] (Ai (x.aq.set (x.ar.getD e.toNat default).aj.toNat (Jq (A8 x (A5 x e).aj) ⟨e,((A8 x (A5 x e).aj).ao.getD e.toNat default)⟩))) hj rfl rfl S0 rfl (Hv hj rfl) (I7 ?_);conv=>whnf
    refine Fs [11,12,13,14,15,16,17,18,19,20,21,22,23,24,25,26,27,28,29,30,31,32,33,34,35,36,37,38,39,40,41,42,43,44,45,46,47,48,49,50,51,52,53,54,55,56,57,58,59,60,61,62,63,64,65,66,67,68,69,70,71,72,73,74,75,76,77,78,79,80,81,82,83,84,85,86,87,88,89,90,91,92,93,94,95,96,97,98,99,100,101,102,103,104,105,106,107,108,109,110,111,112,113,114,115,116,117,118,119,120,121] (fun k:Nat=>[(10,.c (vi (k+1)))]) (fun k=>[⟨7,[.own 2,.c (vi x.az.aq),.c (vi x.az.cap),.own 3,.own 4,.own 5,.own 6]⟩,⟨1,[.c (.val (.slice none 0 0)),.c (vi 0),.c (vi 0),.c (.val (.slice none 0 0)),.c (.val (.slice none 0 0)),.c (.val (.slice none 0 0)),.c (.val (.slice none 0 0))]⟩,⟨0,[.c (Ay x.az.ay),.c (vi x.az.aq),.c (vi x.az.cap),.c (Ai x.aq),.c (Bo x.ak),.c (B4 x.ar),.c (C4 x.au)]⟩]) (fun k=>[⟨2,Ay x.az.ay⟩,⟨3,Ai (x.aq.set (x.ar.getD e.toNat default).aj.toNat (Jq (A8 x (A5 x e).aj) ⟨e,((A8 x (A5 x e).aj).ao.getD e.toNat default)⟩))⟩,⟨4,Bo x.ak⟩,⟨5,B4 (x.ar.set e.toNat ⟨false,(A5 x e).aj,(A5 x e).sum,(A5 x e).ah,(A5 x e).ae⟩)⟩,⟨6,C4 (x.au++Qi e (((A8 x (A5 x e).aj).ao.getD e.toNat default)) k)⟩]) (fun k=>k≤(x.aq.length-1)) (fun k=>(x.aq.length-1)-k) fun k hk=>?_;refine E3 (fun hg2=>?_) fun hg2=>?_
    ·refine Bg A0 rfl (C4 (x.au++Qi e (((A8 x (A5 x e).aj).ao.getD e.toNat default)) k++[⟨k+1,e,((A8 x (A5 x e).aj).ao.getD e.toNat default)⟩])) (An rfl) Ij (by rw [Dn,A1p];omega) (F1 ?_)
     refine Co [(0,0),(1,1),(2,2),(3,3),(4,4),(5,5),(6,19),(7,7)] (k+1) A7 A7 ⟨by rw [Int.natCast_add];rfl,trivial⟩ ⟨rfl,rfl,rfl,rfl,by show (_:Ad)=_;rw [Yu,←Ci],trivial⟩
    obtain rfl:k=x.aq.length-1:=by omega
    refine Ar ?_;rw [Of hT hg hA,Ll,Ah hyes,hcap,hz'];exact Dk
   have hs:(A5 x e).sum+(A8 x (A5 x e).aj).ai.getD e.toNat default≠0:=by rw [Sx.getD_set_self _ _ _ _ htk] at hs;exact Nh.1 hs
   have hno:¬ ((A5 x e).ah=false∧(A8 x (A5 x e).aj).ah.getD e.toNat default=false∧(A5 x e).sum+(A8 x (A5 x e).aj).ai.getD e.toNat default=0):=fun p=>hs p.2.2
   refine Ar ?_;rw [Of hT hg hA,Ll,Ab hno];refine Ge Tryz.prog 3 ((x.ar.getD e.toNat default).aj.toNat) [(0,8),(1,9),(2,10),(3,11),(4,12),(5,13),(6,14),(7,15)] (Ai (x.aq)) hj rfl S0 rfl (Cv rfl) ?_;exact Dk
  have hw:(A8 x (A5 x e).aj).ah.getD e.toNat default=true:=by simpa [A5,A8] using hw
  have hno:¬ ((A5 x e).ah=false∧(A8 x (A5 x e).aj).ah.getD e.toNat default=false∧(A5 x e).sum+(A8 x (A5 x e).aj).ai.getD e.toNat default=0):=fun p=>by rw [hw] at p;exact absurd p.2.1 Bk
  refine Ar ?_;rw [Of hT hg hA,Ll,Ab hno];refine Ge Tryz.prog 3 ((x.ar.getD e.toNat default).aj.toNat) [(0,8),(1,9),(2,10),(3,11),(4,12),(5,13),(6,14),(7,15)] (Ai (x.aq)) hj rfl S0 rfl (Cv rfl) ?_;exact Dk
 have hb:(A5 x e).ah=true:=by rw [Sx.getD_set_self _ _ _ _ htk] at hb;simpa [A5] using hb
 have hno:¬ ((A5 x e).ah=false∧(A8 x (A5 x e).aj).ah.getD e.toNat default=false∧(A5 x e).sum+(A8 x (A5 x e).aj).ai.getD e.toNat default=0):=fun p=>by rw [hb] at p;exact absurd p.1 Bk
 refine Ar ?_;rw [Of hT hg hA,Ll,Ab hno];refine Ge Tryz.prog 3 ((x.ar.getD e.toNat default).aj.toNat) [(0,8),(1,9),(2,10),(3,11),(4,12),(5,13),(6,14),(7,15)] (Ai (x.aq)) hj rfl S0 rfl (Cv rfl) ?_;exact Dk
end Go.Proofs.YtmhcebdkjgkmlaaGreatDoor
