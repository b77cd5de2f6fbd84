/- Part 30 of the proof that each of the laws FnConsole returns true for every input. No conditions. -/
import Derived.Test.YtmhcebdkjgkmlaaGreatDoorQ29

set_option linter.unusedSimpArgs false
set_option linter.unusedVariables false
set_option maxRecDepth 100000
namespace Go.Proofs.YtmhcebdkjgkmlaaGreatDoor
open Go.Sx
theorem B8c {n es:Nat}{row:Nat→List Ag}{j off:Nat}{r cs:List Ag}:Vf n es (Hl row j r) j off cs (.sl n es (Hl row j (Ed r off cs))):=
 ⟨_,rfl,fun i _ hne=>by rw [O9 _ _ _ _ hne,O9 _ _ _ _ hne],by rw [Cu,Cu]⟩
set_option maxHeartbeats 8000000 in
theorem B0a (x:A3)(e:Int)(h:x.w≤16000000)(hgo:M6 x):Di 180 [.agg x.c,.one (vi e)] [.agg (D0 x e).1.c,.one (vb (D0 x e).2)]:=by
 refine E7 Tryz.func180 fun W=>?_;refine Gf (Fc x A7) ?_;refine Fp (Of x A7 hgo) ?_;refine C1 (fun hC=>?_) fun hC=>?_
 ·refine As ?_
  refine An A0 rfl rfl ?_;rw [Uo (fun p=>by rw [show Au x=true from Dc p.1] at hC;exact absurd hC Bq)]
  exact J0
 have hC:Ax x:=Bn (show Au x=true by simpa using hC)
 have hl0:1≤x.aq.length:=by have:=hC.1.2.1;have:=hC.1.1.2.1;omega
 have htl:x.ap.length=4:=hC.1.2.2.2;have hwl4:x.aq.length≤4:=by have:=hC.1.2.1;have:=hC.1.1.2.1;omega
 refine As ?_;refine Aq (Hm e 0 3) rfl (Gu ?_);refine C1 (fun hE=>?_) fun hE=>?_
 ·refine As ?_
  refine An A0 rfl rfl ?_;rw [Uo (fun p=>by have:=p.2.1;clear hC hgo p;simp only [F4] at *;omega)];exact J0
 have hE:0≤e∧e≤3:=by clear hC hgo;simp only [F4] at *;omega
 refine As ?_;refine Aq (Zb (A8 x 0) e (by have:=A3.worker_le h (show 0<x.aq.length by omega);show (x.aq.getD 0 default).w≤_;omega)) rfl (Gu ?_)
 refine C1 (fun hD=>?_) fun hD=>?_
 ·refine As ?_
  refine An A0 rfl rfl ?_;rw [Uo (fun p=>by rw [p.2.2.1] at hD;cases hD)];exact J0
 have hE1:e<x.ap.length:=by omega
 have htk:e.toNat<x.ap.length:=by omega
 have hTP:=hC.2.2.2.1 _ (Al (d:=default) htk)
 have hat:0≤(x.ap.getD e.toNat default).aj∧(x.ap.getD e.toNat default).aj<x.aq.length:=by
  have:=hC.1.2.1
  have:=hTP.1
  omega
 have hj:(x.ap.getD e.toNat default).aj.toNat<x.aq.length:=by omega
 have hWP:=hC.2.1 _ (Al (d:=default) hj);refine B4 ?_
 first|(refine Aj 5 rfl [0,1,2,3,4,5,6,7] Am (Ah ?_))|(refine Aj 17 rfl [0,1,2,3,4,5,6,7,8,9,10,11,12,13,14] Am (Ah ?_))|(refine Aj 20 rfl [0,1,2,3,4,5,6,7,8,9,10,11,12,13] Am (Ah ?_))|(refine Aj 22 rfl [0,1,2,3,4,5,6,7,8,9,10,11,12,13,14] Am (Ah ?_))|(refine Aj 9 rfl [0,1,2,3,4,5,6,7,8,9,10,11,12,13,14,15,16,17,18,19,20,21,22,23,24,25,26,27,28,29] Am (Ah ?_))
 refine ⟨by exact hat,?_⟩;conv=>whnf
 refine B4 ?_;refine A4k A0 rfl hj rfl (fun u=>go A0 false ?_);conv=>whnf
 refine Aq (A97 (x.aq.getD (x.ap.getD e.toNat default).aj.toNat default) e (by have:=A3.worker_le h hj;omega)) rfl ?_;refine Ah ?_;refine C1 (fun hP=>?_) fun hP=>?_
 ·refine As ?_
  rw [Uo (fun p=>by have q:=p.2.2.2;rw [show A8 x (A4 x e).aj=x.aq.getD (x.ap.getD e.toNat default).aj.toNat default from rfl] at q;rw [q] at hP;cases hP)]
  refine Gb Tryz.prog 3 ((x.ap.getD e.toNat default).aj.toNat) [(0,8),(1,9),(2,10),(3,11),(4,12),(5,13),(6,14),(7,15)] (Af (x.aq)) hj rfl S7 rfl (Ct rfl) ?_;exact D4
 have hP:Lc (x.aq.getD (x.ap.getD e.toNat default).aj.toNat default) e=true:=by simpa using hP
 have hT:Y2 x e:=⟨hC,hE,hD,hP⟩;obtain ⟨hL1,hL2,hL3⟩:=hWP.2.1;have hs1:=hTP.2.2
 have hbl:e.toNat<(A8 x (A4 x e).aj).ah.length:=by
  show e.toNat<(x.aq.getD (x.ap.getD e.toNat default).aj.toNat default).ah.length
  omega
 have hs2:Jk ((x.aq.getD (x.ap.getD e.toNat default).aj.toNat default).al.getD e.toNat default):=hWP.2.2.2.1 _ (Al A7);simp only [Jk] at hs2;have hdl:(x.aq.getD (x.ap.getD e.toNat default).aj.toNat default).an.length≤16000000:=by have:=A3.worker_le h hj;simp only [Ae.w] at this;omega
 have hnl:=A3.news_le h;have hwl:=A3.workers_le h;refine As ?_;refine C1 (fun hg=>?_) fun hg=>?_
 ·have hg:(A4 x e).bz=false:=by simpa [A4] using hg
  first|(refine Aj 5 rfl [0,1,2,3,4,5,6,7] Am (Ah ?_))|(refine Aj 17 rfl [0,1,2,3,4,5,6,7,8,9,10,11,12,13,14] Am (Ah ?_))|(refine Aj 20 rfl [0,1,2,3,4,5,6,7,8,9,10,11,12,13] Am (Ah ?_))|(refine Aj 22 rfl [0,1,2,3,4,5,6,7,8,9,10,11,12,13,14] Am (Ah ?_))|(refine Aj 9 rfl [0,1,2,3,4,5,6,7,8,9,10,11,12,13,14,15,16,17,18,19,20,21,22,23,24,25,26,27,28,29] Am (Ah ?_))
  refine B4 ?_;refine N8 A0 rfl (Cu _ _ _) rfl (Ah ?_);refine Hk 132 14 rfl (Em ?_);refine Bi (j:=e) A0 rfl (Aw (x.ap.set e.toNat ⟨true,(x.aq.length:Int)-1,0,false,(A8 x (A4 x e).aj).ai.getD e.toNat default⟩)) (Cm htk rfl) (Ah ?_);refine N8 A0 rfl (Cu _ _ _) rfl (Ah ?_);refine Hk 145 13 rfl (Em ?_);refine Bi (j:=e) A0 rfl (Df ((A8 x (A4 x e).aj).ah.set e.toNat false)) (Cm hbl rfl) (Ah ?_);rw [B2p hT hg];refine Gb Tryz.prog 3 ((x.ap.getD e.toNat default).aj.toNat) [(0,8),(1,9),(2,10),(3,11),(4,12),(5,13),(6,14),(7,15)] (Af ((x.aq.set (x.ap.getD e.toNat default).aj.toNat (Kc (A8 x (A4 x e).aj) e)))) hj rfl S7 rfl (Hx hj rfl) ?_;exact D4
 have hg:(A4 x e).bz=true:=by simpa [A4] using hg
 refine C1 (fun hA=>?_) fun hA=>?_
 ·have hA:(A4 x e).aj>0:=Bn hA
  first|(refine Aj 5 rfl [0,1,2,3,4,5,6,7] Am (Ah ?_))|(refine Aj 17 rfl [0,1,2,3,4,5,6,7,8,9,10,11,12,13,14] Am (Ah ?_))|(refine Aj 20 rfl [0,1,2,3,4,5,6,7,8,9,10,11,12,13] Am (Ah ?_))|(refine Aj 22 rfl [0,1,2,3,4,5,6,7,8,9,10,11,12,13,14] Am (Ah ?_))|(refine Aj 9 rfl [0,1,2,3,4,5,6,7,8,9,10,11,12,13,14,15,16,17,18,19,20,21,22,23,24,25,26,27,28,29] Am (Ah ?_))
  refine B4 ?_;refine N8 A0 rfl (Cu _ _ _) rfl (Ah ?_);refine Hk 161 12 rfl (Em ?_);refine Aq (Hm _ (-1000000) 1000000) rfl ?_;refine Ah ?_;refine C1 (fun hS=>?_) fun hS=>?_
  ·refine As ?_
   rw [C2f hT hg hA (fun p=>by have q:E4 _ (-1000000) 1000000=false:=(Mq _).mp hS;exact absurd ((Go.Sx.Cl.2 p).symm.trans q) Bq)];refine Gb Tryz.prog 3 ((x.ap.getD e.toNat default).aj.toNat) [(0,8),(1,9),(2,10),(3,11),(4,12),(5,13),(6,14),(7,15)] (Af (x.aq)) hj rfl S7 rfl (Ct rfl) ?_;exact D4
  have hS:Jk ((A4 x e).sum+(A8 x (A4 x e).aj).al.getD e.toNat default):=Go.Sx.Cl.1 ((Us _).mp hS);refine As ?_
  first|(refine Aj 5 rfl [0,1,2,3,4,5,6,7] Am (Ah ?_))|(refine Aj 17 rfl [0,1,2,3,4,5,6,7,8,9,10,11,12,13,14] Am (Ah ?_))|(refine Aj 20 rfl [0,1,2,3,4,5,6,7,8,9,10,11,12,13] Am (Ah ?_))|(refine Aj 22 rfl [0,1,2,3,4,5,6,7,8,9,10,11,12,13,14] Am (Ah ?_))|(refine Aj 9 rfl [0,1,2,3,4,5,6,7,8,9,10,11,12,13,14,15,16,17,18,19,20,21,22,23,24,25,26,27,28,29] Am (Ah ?_))
  refine B4 ?_;refine N8 A0 rfl (Cu _ _ _) rfl (Ah ?_);refine Hk 176 12 rfl (Em ?_);refine Bi (j:=e) A0 rfl (Aw (x.ap.set e.toNat ⟨(A4 x e).bz,(A4 x e).aj,(A4 x e).sum+(A8 x (A4 x e).aj).al.getD e.toNat default,(A4 x e).ah,(A4 x e).ao⟩)) (Cm htk rfl) (Ah ?_);refine C1 (fun hb=>?_) fun hb=>?_
  ·have hb:(A4 x e).ah=true:=by rw [Sx.getD_set_self _ _ _ _ htk] at hb;exact hb
   refine As ?_;refine Bi (j:=e) A0 rfl (Aw (x.ap.set e.toNat ⟨(A4 x e).bz,(A4 x e).aj,(A4 x e).sum+(A8 x (A4 x e).aj).al.getD e.toNat default,(A4 x e).ah||(A8 x (A4 x e).aj).ah.getD e.toNat default,(A4 x e).ao⟩)) (Lu htk (by rw [hb];rfl)) (Ah ?_);refine C1 (fun hc=>?_) fun hc=>?_
   ·have hc:(A4 x e).ao=true:=by rw [Sx.getD_set_self _ _ _ _ htk] at hc;exact hc
    refine As ?_;refine Bi (j:=e) A0 rfl (Aw (x.ap.set e.toNat ⟨(A4 x e).bz,(A4 x e).aj,(A4 x e).sum+(A8 x (A4 x e).aj).al.getD e.toNat default,(A4 x e).ah||(A8 x (A4 x e).aj).ah.getD e.toNat default,(A4 x e).ao||(A8 x (A4 x e).aj).ai.getD e.toNat default⟩)) (Lu htk (by rw [hc];rfl)) (Ah ?_);refine N8 A0 rfl (Cu _ _ _) rfl (Ah ?_);refine Hk 218 13 rfl (Em ?_);refine Bi (j:=e) A0 rfl (Df ((A8 x (A4 x e).aj).ah.set e.toNat false)) (Cm hbl rfl) (Ah ?_);refine ⟨by (rw [Sx.getD_set_self _ _ _ _ htk];have q:0≤(A4 x e).aj∧(A4 x e).aj<x.aq.length:=hat;show _≤(A4 x e).aj-1∧(A4 x e).aj-1≤_;omega),?_⟩
    conv=>whnf
    refine Bi (j:=e) A0 rfl (Aw (x.ap.set e.toNat ⟨true,(A4 x e).aj-1,(A4 x e).sum+(A8 x (A4 x e).aj).al.getD e.toNat default,(A4 x e).ah||(A8 x (A4 x e).aj).ah.getD e.toNat default,(A4 x e).ao||(A8 x (A4 x e).aj).ai.getD e.toNat default⟩)) (Lu htk (by rw [Sx.getD_set_self _ _ _ _ htk,hg];rfl)) (Ah ?_);rw [P3 hT hg hA hS];refine Gb Tryz.prog 3 ((x.ap.getD e.toNat default).aj.toNat) [(0,8),(1,9),(2,10),(3,11),(4,12),(5,13),(6,14),(7,15)] (Af ((x.aq.set (x.ap.getD e.toNat default).aj.toNat (Kc (A8 x (A4 x e).aj) e)))) hj rfl S7 rfl (Hx hj rfl) ?_;exact D4
   have hc:(A4 x e).ao=false:=by rw [Sx.getD_set_self _ _ _ _ htk] at hc;exact hc
   refine As ?_;refine N8 A0 rfl (Cu _ _ _) rfl (Gu ?_);refine Hk 208 14 rfl (Gu ?_);refine B4 ?_;refine Bi (j:=e) A0 rfl (Aw (x.ap.set e.toNat ⟨(A4 x e).bz,(A4 x e).aj,(A4 x e).sum+(A8 x (A4 x e).aj).al.getD e.toNat default,(A4 x e).ah||(A8 x (A4 x e).aj).ah.getD e.toNat default,(A4 x e).ao||(A8 x (A4 x e).aj).ai.getD e.toNat default⟩)) (Lu htk (by rw [hc];rfl)) (Ah ?_);refine N8 A0 rfl (Cu _ _ _) rfl (Ah ?_);refine Hk 218 13 rfl (Em ?_);refine Bi (j:=e) A0 rfl (Df ((A8 x (A4 x e).aj).ah.set e.toNat false)) (Cm hbl rfl) (Ah ?_);refine ⟨by (rw [Sx.getD_set_self _ _ _ _ htk];have q:0≤(A4 x e).aj∧(A4 x e).aj<x.aq.length:=hat;show _≤(A4 x e).aj-1∧(A4 x e).aj-1≤_;omega),?_⟩
   conv=>whnf
   refine Bi (j:=e) A0 rfl (Aw (x.ap.set e.toNat ⟨true,(A4 x e).aj-1,(A4 x e).sum+(A8 x (A4 x e).aj).al.getD e.toNat default,(A4 x e).ah||(A8 x (A4 x e).aj).ah.getD e.toNat default,(A4 x e).ao||(A8 x (A4 x e).aj).ai.getD e.toNat default⟩)) (Lu htk (by rw [Sx.getD_set_self _ _ _ _ htk,hg];rfl)) (Ah ?_);rw [P3 hT hg hA hS];refine Gb Tryz.prog 3 ((x.ap.getD e.toNat default).aj.toNat) [(0,8),(1,9),(2,10),(3,11),(4,12),(5,13),(6,14),(7,15)] (Af ((x.aq.set (x.ap.getD e.toNat default).aj.toNat (Kc (A8 x (A4 x e).aj) e)))) hj rfl S7 rfl (Hx hj rfl) ?_;exact D4
  have hb:(A4 x e).ah=false:=by rw [Sx.getD_set_self _ _ _ _ htk] at hb;exact hb
  refine As ?_;refine N8 A0 rfl (Cu _ _ _) rfl (Gu ?_);refine Hk 192 13 rfl (Gu ?_);refine B4 ?_;refine Bi (j:=e) A0 rfl (Aw (x.ap.set e.toNat ⟨(A4 x e).bz,(A4 x e).aj,(A4 x e).sum+(A8 x (A4 x e).aj).al.getD e.toNat default,(A4 x e).ah||(A8 x (A4 x e).aj).ah.getD e.toNat default,(A4 x e).ao⟩)) (Lu htk (by rw [hb];rfl)) (Ah ?_);refine C1 (fun hc=>?_) fun hc=>?_
  ·have hc:(A4 x e).ao=true:=by rw [Sx.getD_set_self _ _ _ _ htk] at hc;exact hc
   refine As ?_;refine Bi (j:=e) A0 rfl (Aw (x.ap.set e.toNat ⟨(A4 x e).bz,(A4 x e).aj,(A4 x e).sum+(A8 x (A4 x e).aj).al.getD e.toNat default,(A4 x e).ah||(A8 x (A4 x e).aj).ah.getD e.toNat default,(A4 x e).ao||(A8 x (A4 x e).aj).ai.getD e.toNat default⟩)) (Lu htk (by rw [hc];rfl)) (Ah ?_);refine N8 A0 rfl (Cu _ _ _) rfl (Ah ?_);refine Hk 218 13 rfl (Em ?_);refine Bi (j:=e) A0 rfl (Df ((A8 x (A4 x e).aj).ah.set e.toNat false)) (Cm hbl rfl) (Ah ?_);refine ⟨by (rw [Sx.getD_set_self _ _ _ _ htk];have q:0≤(A4 x e).aj∧(A4 x e).aj<x.aq.length:=hat;show _≤(A4 x e).aj-1∧(A4 x e).aj-1≤_;omega),?_⟩
   conv=>whnf
   refine Bi (j:=e) A0 rfl (Aw (x.ap.set e.toNat ⟨true,(A4 x e).aj-1,(A4 x e).sum+(A8 x (A4 x e).aj).al.getD e.toNat default,(A4 x e).ah||(A8 x (A4 x e).aj).ah.getD e.toNat default,(A4 x e).ao||(A8 x (A4 x e).aj).ai.getD e.toNat default⟩)) (Lu htk (by rw [Sx.getD_set_self _ _ _ _ htk,hg];rfl)) (Ah ?_);rw [P3 hT hg hA hS];refine Gb Tryz.prog 3 ((x.ap.getD e.toNat default).aj.toNat) [(0,8),(1,9),(2,10),(3,11),(4,12),(5,13),(6,14),(7,15)] (Af ((x.aq.set (x.ap.getD e.toNat default).aj.toNat (Kc (A8 x (A4 x e).aj) e)))) hj rfl S7 rfl (Hx hj rfl) ?_;exact D4
  have hc:(A4 x e).ao=false:=by rw [Sx.getD_set_self _ _ _ _ htk] at hc;exact hc
  refine As ?_;refine N8 A0 rfl (Cu _ _ _) rfl (Gu ?_);refine Hk 208 14 rfl (Gu ?_);refine B4 ?_;refine Bi (j:=e) A0 rfl (Aw (x.ap.set e.toNat ⟨(A4 x e).bz,(A4 x e).aj,(A4 x e).sum+(A8 x (A4 x e).aj).al.getD e.toNat default,(A4 x e).ah||(A8 x (A4 x e).aj).ah.getD e.toNat default,(A4 x e).ao||(A8 x (A4 x e).aj).ai.getD e.toNat default⟩)) (Lu htk (by rw [hc];rfl)) (Ah ?_);refine N8 A0 rfl (Cu _ _ _) rfl (Ah ?_);refine Hk 218 13 rfl (Em ?_);refine Bi (j:=e) A0 rfl (Df ((A8 x (A4 x e).aj).ah.set e.toNat false)) (Cm hbl rfl) (Ah ?_);refine ⟨by (rw [Sx.getD_set_self _ _ _ _ htk];have q:0≤(A4 x e).aj∧(A4 x e).aj<x.aq.length:=hat;show _≤(A4 x e).aj-1∧(A4 x e).aj-1≤_;omega),?_⟩
  conv=>whnf
  refine Bi (j:=e) A0 rfl (Aw (x.ap.set e.toNat ⟨true,(A4 x e).aj-1,(A4 x e).sum+(A8 x (A4 x e).aj).al.getD e.toNat default,(A4 x e).ah||(A8 x (A4 x e).aj).ah.getD e.toNat default,(A4 x e).ao||(A8 x (A4 x e).aj).ai.getD e.toNat default⟩)) (Lu htk (by rw [Sx.getD_set_self _ _ _ _ htk,hg];rfl)) (Ah ?_);rw [P3 hT hg hA hS];refine Gb Tryz.prog 3 ((x.ap.getD e.toNat default).aj.toNat) [(0,8),(1,9),(2,10),(3,11),(4,12),(5,13),(6,14),(7,15)] (Af ((x.aq.set (x.ap.getD e.toNat default).aj.toNat (Kc (A8 x (A4 x e).aj) e)))) hj rfl S7 rfl (Hx hj rfl) ?_;exact D4
 have hA:¬ (A4 x e).aj>0:=Cv hA
 have hz:(x.ap.getD e.toNat default).aj=0:=by
  have:¬ (x.ap.getD e.toNat default).aj>0:=hA
  omega
 refine B4 ?_;refine Bi (j:=e) A0 rfl (Aw (x.ap.set e.toNat ⟨false,(A4 x e).aj,(A4 x e).sum,(A4 x e).ah,(A4 x e).ao⟩)) (Cm htk rfl) (Ah ?_)
 first|(refine Aj 5 rfl [0,1,2,3,4,5,6,7] Am (Ah ?_))|(refine Aj 17 rfl [0,1,2,3,4,5,6,7,8,9,10,11,12,13,14] Am (Ah ?_))|(refine Aj 20 rfl [0,1,2,3,4,5,6,7,8,9,10,11,12,13] Am (Ah ?_))|(refine Aj 22 rfl [0,1,2,3,4,5,6,7,8,9,10,11,12,13,14] Am (Ah ?_))|(refine Aj 9 rfl [0,1,2,3,4,5,6,7,8,9,10,11,12,13,14,15,16,17,18,19,20,21,22,23,24,25,26,27,28,29] Am (Ah ?_))
 refine B4 ?_;refine C1 (fun hb=>?_) fun hb=>?_
 ·have hb:(A4 x e).ah=false:=by rw [Sx.getD_set_self _ _ _ _ htk] at hb;simpa [A4] using hb
  refine As ?_;refine N8 A0 rfl (Cu _ _ _) rfl (Gu ?_);refine Hk 60 13 rfl (Gu ?_);refine B4 ?_;refine C1 (fun hw=>?_) fun hw=>?_
  ·have hw:(A8 x (A4 x e).aj).ah.getD e.toNat default=false:=by simpa [A4,A8] using hw
   refine As ?_;refine N8 A0 rfl (Cu _ _ _) rfl (Gu ?_);refine Hk 74 12 rfl (Gu ?_);refine B4 ?_;refine ⟨by (rw [Sx.getD_set_self _ _ _ _ htk];have q: -1000000≤(A4 x e).sum∧(A4 x e).sum≤1000000:=hs1;show _≤(A4 x e).sum+_∧(A4 x e).sum+_≤_;omega),?_⟩
   conv=>whnf
   refine As ?_;refine C1 (fun hs=>?_) fun hs=>?_
   ·have hs:(A4 x e).sum+(A8 x (A4 x e).aj).al.getD e.toNat default=0:=by rw [Sx.getD_set_self _ _ _ _ htk] at hs;exact eq_of_beq hs
    have hyes:=And.intro hb (And.intro hw hs);have hz':∀c w,Be c 0 w=Be c (x.ap.getD e.toNat default).aj w:=fun c w=>by rw [hz]
    refine As ?_;refine C1 (fun hc=>?_) fun hc=>?_
    ·have hc:(A4 x e).ao=true:=by rw [Sx.getD_set_self _ _ _ _ htk] at hc;exact hc
     have hcap:((A4 x e).ao||(A8 x (A4 x e).aj).ai.getD e.toNat default)=true:=by rw [hc];rfl
     refine As ?_;refine N8 A0 rfl (Cu _ _ _) rfl (Ah ?_);refine Hk 98 15 rfl (Em ?_);refine B6 A0 rfl (I0 ((A8 x (A4 x e).aj).an++[⟨e,true⟩])) (Ao rfl) Hd A7 (Em ?_);refine Bi (j:=(x.ap.getD e.toNat default).aj) A0 rfl _ B8c ?_;refine Rt 3 ((x.ap.getD e.toNat default).aj.toNat) [(0,8),(1,9),(2,10),(3,11),(4,12),(5,13),(6,14)] (Af (x.aq.set (x.ap.getD e.toNat default).aj.toNat (Jw (A8 x (A4 x e).aj) ⟨e,true⟩))) hj rfl rfl S7 rfl (Hx hj rfl) (It ?_);conv=>whnf
     refine Fx [11,12,13,14,15,16,17,18,19,20,21,22,23,24,25,26,27,28,29,30,31,32,33,34,35,36,37,38,39,40,41,42,43,44,45,46,47,48,49,50,51,52,53,54,55,56,57,58,59,60,61,62,63,64,65,66,67,68,69,70,71,72,73,74,75,76,77,78,79,80,81,82,83,84,85,86,87,88,89,90,91,92,93,94,95,96,97,98,99,100,101,102,103,104,105,106,107,108,109,110,111,112,113,114,115,116,117,118,119,120,121] (fun k:Nat=>[(10,.c (vi (k+1)))]) (fun k=>[⟨7,[.own 2,.c (vi x.az.aq),.c (vi x.az.cap),.own 3,.own 4,.own 5,.own 6]⟩,⟨1,[.c (.val (.slice none 0 0)),.c (vi 0),.c (vi 0),.c (.val (.slice none 0 0)),.c (.val (.slice none 0 0)),.c (.val (.slice none 0 0)),.c (.val (.slice none 0 0))]⟩,⟨0,[.c (At x.az.ak),.c (vi x.az.aq),.c (vi x.az.cap),.c (Af x.aq),.c (Ba x.ay),.c (Aw x.ap),.c (Bf x.ac)]⟩]) (fun k=>[⟨2,At x.az.ak⟩,⟨3,Af (x.aq.set (x.ap.getD e.toNat default).aj.toNat (Jw (A8 x (A4 x e).aj) ⟨e,true⟩))⟩,⟨4,Ba x.ay⟩,⟨5,Aw (x.ap.set e.toNat ⟨false,(A4 x e).aj,(A4 x e).sum,(A4 x e).ah,(A4 x e).ao⟩)⟩,⟨6,Bf (x.ac++Qi e (true) k)⟩]) (fun k=>k≤(x.aq.length-1)) (fun k=>(x.aq.length-1)-k) fun k hk=>?_;refine Dv (fun hg2=>?_) fun hg2=>?_
     ·refine B6 A0 rfl (Bf (x.ac++Qi e (true) k++[⟨k+1,e,true⟩])) (Ao rfl) Hd (by rw [D3,A20];omega) (Em ?_)
      refine Cc [(0,0),(1,1),(2,2),(3,3),(4,4),(5,5),(6,19),(7,7)] (k+1) A7 A7 ⟨by rw [Int.natCast_add];rfl,trivial⟩ ⟨rfl,rfl,rfl,rfl,by show (_:Ag)=_;rw [Zl,←Cr],trivial⟩
     obtain rfl:k=x.aq.length-1:=by omega
     refine As ?_;rw [Ol hT hg hA,Kz,Ak hyes,hcap,hz'];exact D4
    have hc:(A4 x e).ao=false:=by rw [Sx.getD_set_self _ _ _ _ htk] at hc;exact hc
    have hcap:((A4 x e).ao||(A8 x (A4 x e).aj).ai.getD e.toNat default)=(A8 x (A4 x e).aj).ai.getD e.toNat default:=by rw [hc];rfl
    refine As ?_;refine N8 A0 rfl (Cu _ _ _) rfl (Gu ?_);refine Hk 89 14 rfl (Gu ?_);refine B4 ?_;refine N8 A0 rfl (Cu _ _ _) rfl (Ah ?_);refine Hk 98 15 rfl (Em ?_);refine B6 A0 rfl (I0 ((A8 x (A4 x e).aj).an++[⟨e,((A8 x (A4 x e).aj).ai.getD e.toNat default)⟩])) (Ao rfl) Hd A7 (Em ?_);refine Bi (j:=(x.ap.getD e.toNat default).aj) A0 rfl _ B8c ?_;refine Rt 3 ((x.ap.getD e.toNat default).aj.toNat) [(0,8),(1,9),(2,10),(3,11),(4,12),(5,13),(6,14)] (Af (x.aq.set (x.ap.getD e.toNat default).aj.toNat (Jw (A8 x (A4 x e).aj) ⟨e,((A8 x (A4 x e).aj).ai.getD e.toNat default)⟩))) hj rfl rfl S7 rfl (Hx hj rfl) (It ?_);conv=>whnf
    refine Fx [11,12,13,14,15,16,17,18,19,20,21,22,23,24,25,26,27,28,29,30,31,32,33,34,35,36,37,38,39,40,41,42,43,44,45,46,47,48,49,50,51,52,53,54,55,56,57,58,59,60,61,62,63,64,65,66,67,68,69,70,71,72,73,74,75,76,77,78,79,80,81,82,83,84,85,86,87,88,89,90,91,92,93,94,95,96,97,98,99,100,101,102,103,104,105,106,107,108,109,110,111,112,113,114,115,116,117,118,119,120,121] (fun k:Nat=>[(10,.c (vi (k+1)))]) (fun k=>[⟨7,[.own 2,.c (vi x.az.aq),.c (vi x.az.cap),.own 3,.own 4,.own 5,.own 6]⟩,⟨1,[.c (.val (.slice none 0 0)),.c (vi 0),.c (vi 0),.c (.val (.slice none 0 0)),.c (.val (.slice none 0 0)),.c (.val (.slice none 0 0)),.c (.val (.slice none 0 0))]⟩,⟨0,[.c (At x.az.ak),.c (vi x.az.aq),.c (vi x.az.cap),.c (Af x.aq),.c (Ba x.ay),.c (Aw x.ap),.c (Bf x.ac)]⟩]) (fun k=>[⟨2,At x.az.ak⟩,⟨3,Af (x.aq.set (x.ap.getD e.toNat default).aj.toNat (Jw (A8 x (A4 x e).aj) ⟨e,((A8 x (A4 x e).aj).ai.getD e.toNat default)⟩))⟩,⟨4,Ba x.ay⟩,⟨5,Aw (x.ap.set e.toNat ⟨false,(A4 x e).aj,(A4 x e).sum,(A4 x e).ah,(A4 x e).ao⟩)⟩,⟨6,Bf (x.ac++Qi e (((A8 x (A4 x e).aj).ai.getD e.toNat default)) k)⟩]) (fun k=>k≤(x.aq.length-1)) (fun k=>(x.aq.length-1)-k) fun k hk=>?_;refine Dv (fun hg2=>?_) fun hg2=>?_
    ·refine B6 A0 rfl (Bf (x.ac++Qi e (((A8 x (A4 x e).aj).ai.getD e.toNat default)) k++[⟨k+1,e,((A8 x (A4 x e).aj).ai.getD e.toNat default)⟩])) (Ao rfl) Hd (by rw [D3,A20];omega) (Em ?_)
     refine Cc [(0,0),(1,1),(2,2),(3,3),(4,4),(5,5),(6,19),(7,7)] (k+1) A7 A7 ⟨by rw [Int.natCast_add];rfl,trivial⟩ ⟨rfl,rfl,rfl,rfl,by show (_:Ag)=_;rw [Zl,←Cr],trivial⟩
    obtain rfl:k=x.aq.length-1:=by omega
    refine As ?_;rw [Ol hT hg hA,Kz,Ak hyes,hcap,hz'];exact D4
   have hs:(A4 x e).sum+(A8 x (A4 x e).aj).al.getD e.toNat default≠0:=by rw [Sx.getD_set_self _ _ _ _ htk] at hs;exact Ti.1 hs
   have hno:¬ ((A4 x e).ah=false∧(A8 x (A4 x e).aj).ah.getD e.toNat default=false∧(A4 x e).sum+(A8 x (A4 x e).aj).al.getD e.toNat default=0):=fun p=>hs p.2.2
   refine As ?_;rw [Ol hT hg hA,Kz,Ab hno];refine Gb Tryz.prog 3 ((x.ap.getD e.toNat default).aj.toNat) [(0,8),(1,9),(2,10),(3,11),(4,12),(5,13),(6,14),(7,15)] (Af (x.aq)) hj rfl S7 rfl (Ct rfl) ?_;exact D4
  have hw:(A8 x (A4 x e).aj).ah.getD e.toNat default=true:=by simpa [A4,A8] using hw
  have hno:¬ ((A4 x e).ah=false∧(A8 x (A4 x e).aj).ah.getD e.toNat default=false∧(A4 x e).sum+(A8 x (A4 x e).aj).al.getD e.toNat default=0):=fun p=>by rw [hw] at p;exact absurd p.2.1 Bq
  refine As ?_;rw [Ol hT hg hA,Kz,Ab hno];refine Gb Tryz.prog 3 ((x.ap.getD e.toNat default).aj.toNat) [(0,8),(1,9),(2,10),(3,11),(4,12),(5,13),(6,14),(7,15)] (Af (x.aq)) hj rfl S7 rfl (Ct rfl) ?_;exact D4
 have hb:(A4 x e).ah=true:=by rw [Sx.getD_set_self _ _ _ _ htk] at hb;simpa [A4] using hb
 have hno:¬ ((A4 x e).ah=false∧(A8 x (A4 x e).aj).ah.getD e.toNat default=false∧(A4 x e).sum+(A8 x (A4 x e).aj).al.getD e.toNat default=0):=fun p=>by rw [hb] at p;exact absurd p.1 Bq
 refine As ?_;rw [Ol hT hg hA,Kz,Ab hno];refine Gb Tryz.prog 3 ((x.ap.getD e.toNat default).aj.toNat) [(0,8),(1,9),(2,10),(3,11),(4,12),(5,13),(6,14),(7,15)] (Af (x.aq)) hj rfl S7 rfl (Ct rfl) ?_;exact D4
set_option maxHeartbeats 4000000 in
theorem B3q (x:A3)(p:Do)(h:x.w≤8000000)(hgo:M6 x):Di 122 [.agg x.c,.agg p.c] [.agg (Ap x p).1.c,.one (vb (Ap x p).2)]:=by
 refine E7 Tryz.func122 fun W=>?_;refine Lf (fun k1=>?_) fun k1=>?_
 ·refine Gf (B3k x p.a A7 hgo) ?_
  rw [Ap,Ak k1];exact D4
 refine Lf (fun k2=>?_) fun k2=>?_
 ·refine Gf (A98 x p.a A7 hgo) ?_
  rw [Ap,Ab k1,Ak k2];exact D4
 refine Lf (fun k3=>?_) fun k3=>?_
 ·refine Gf (B3i x p.a h hgo) ?_
  rw [Ap,Ab k1,Ab k2,Ak k3];exact D4
 refine Lf (fun k4=>?_) fun k4=>?_
 ·refine Gf (B3j x p.a p.b h hgo) ?_
  rw [Ap,Ab k1,Ab k2,Ab k3,Ak k4];exact D4
 refine Lf (fun k5=>?_) fun k5=>?_
 ·refine Gf (A7h x p.a p.b A7 hgo) ?_
  rw [Ap,Ab k1,Ab k2,Ab k3,Ab k4,Ak k5];exact D4
 refine Lf (fun k6=>?_) fun k6=>?_
 ·refine Gf (B0a x p.a A7 hgo) ?_
  rw [Ap,Ab k1,Ab k2,Ab k3,Ab k4,Ab k5,Ak k6];exact D4
 refine Lf (fun k7=>?_) fun k7=>?_
 ·refine Gf (B3d x p.a A7 hgo) ?_
  rw [Ap,Ab k1,Ab k2,Ab k3,Ab k4,Ab k5,Ab k6,Ak k7];exact D4
 refine Gf (Fc x A7) ?_;rw [Ap,Ab k1,Ab k2,Ab k3,Ab k4,Ab k5,Ab k6,Ab k7];exact D4
set_option maxHeartbeats 8000000 in
theorem Pv (x:A3)(l:List Do)(h:x.w+4 * l.length≤8000000)(hgo:M6 x):Di 61 [.agg x.c,.one (D7 l)] [.agg (Ay x l).1.c,.one (Df (Ay x l).2)]:=by
 refine E7 Tryz.func61 fun W=>?_;refine Gf (Fc x A7) ?_;refine U5 7 1 (fun i=>[vb (([]:List Bool).getD i default)]) rfl ?_;refine Fx [13] (fun k:Nat=>[(16,.c (vi k))]) (fun k=>[⟨7,[.own 2,.c (vi (Ay x (l.take k)).1.az.aq),.c (vi (Ay x (l.take k)).1.az.cap),.own 3,.own 4,.own 5,.own 6]⟩,⟨1,[.c (.val (.slice none 0 0)),.c (vi 0),.c (vi 0),.c (.val (.slice none 0 0)),.c (.val (.slice none 0 0)),.c (.val (.slice none 0 0)),.c (.val (.slice none 0 0))]⟩]) (fun k=>[⟨8,Df (Ay x (l.take k)).2⟩,⟨2,At (Ay x (l.take k)).1.az.ak⟩,⟨3,Af (Ay x (l.take k)).1.aq⟩,⟨4,Ba (Ay x (l.take k)).1.ay⟩,⟨5,Aw (Ay x (l.take k)).1.ap⟩,⟨6,Bf (Ay x (l.take k)).1.ac⟩]) (fun k=>k≤l.length) (fun k=>l.length-k) fun k hk=>?_;conv=>whnf
 refine Dv (fun hlt=>?_) fun hlt=>?_
 ·have hlt:k<l.length:=by omega
  have hw:=Zr (c:=x) (l:=l.take k);have hn:=Wm (c:=x) (l:=l.take k);have ht:(l.take k).length=k:=by rw [F9];omega
  have hs:=A27 (c:=x) hlt;refine B4 ?_;refine Gf (B3q (Ay x (l.take k)).1 (l.getD k default) A7 (A10 hgo)) ?_;refine B6 A0 rfl (Df ((Ay x (l.take k)).2++[(Ap (Ay x (l.take k)).1 (l.getD k default)).2])) (Ao rfl) Hd A7 (Em ?_);refine A7t [(2,10),(3,11),(4,12),(5,13),(6,14),(8,17)] (k+1) A7 A7 ⟨rfl,trivial⟩ ⟨A6 Df (by rw [hs];rfl),A6 (fun s:A3×List Bool=>At s.1.az.ak) hs.symm,A6 (fun s:A3×List Bool=>Af s.1.aq) hs.symm,A6 (fun s:A3×List Bool=>Ba s.1.ay) hs.symm,A6 (fun s:A3×List Bool=>Aw s.1.ap) hs.symm,A6 (fun s:A3×List Bool=>Bf s.1.ac) hs.symm,trivial⟩ (by rw [hs];repeat' (first|exact trivial|exact rfl|refine ⟨?_,?_⟩)) Am ab8 Am
 obtain rfl:k=l.length:=by omega
 rw [H4];exact D4
end Go.Proofs.YtmhcebdkjgkmlaaGreatDoor
