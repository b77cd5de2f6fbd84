/- Part 20 of the proof that each of the laws FnScriptsBack returns true for every input. No conditions. -/
import Derived.Test.YtmhcebdkjgkmlaaGreatDoorR15
import Derived.Test.YtmhcebdkjgkmlaaGreatDoorR9

set_option linter.unusedSimpArgs false
set_option linter.unusedVariables false
set_option maxRecDepth 100000
namespace Go.Proofs.YtmhcebdkjgkmlaaGreatDoor
open Go.Sx
variable {c : A3}
theorem A3.graph_le {n:Nat}(h:c.w≤n):c.az.w≤n:=by simp only [A3.w] at h;omega
theorem A3.worker_le {n:Nat}(h:c.w≤n){k:Nat}(hk:k<c.aq.length):(c.aq.getD k default).w≤n:=by
 simp only [A3.w,wS] at h;have hle:=Fg Aj.w c.aq k hk;omega
theorem A3.link_le {n:Nat}(h:c.w≤n){k:Nat}(hk:k<c.ak.length):(c.ak.getD k default).w≤n:=by
 simp only [A3.w,wS] at h;have hle:=Fg D8.w c.ak k hk;omega
def Nj (c:A3):Prop:=∀l∈c.ak,l.got≤9223372036854775807
def A9p (c:A3) (i:Nat) (l:D8):Prop:=l.cap=c.az.cap∧A07 c.az.ay.length l.al∧((i:Int).tdiv c.az.aq=(i:Int).tmod c.az.aq→l.al.length=0)
instance (c:A3) (i:Nat) (l:D8):Decidable (A9p c i l):=by unfold A9p;infer_instance
def Q4 (c:A3) (i:Nat):Prop:=It (c.ak.getD i default)∧A9p c i (c.ak.getD i default)
instance (c:A3) (i:Nat):Decidable (Q4 c i):=by unfold Q4;infer_instance
def Uz (n:Int) (t:I9):Prop:=(0≤t.aj∧t.aj≤n-1)∧(t.bj=false→t.aj=0)∧(-1000000≤t.sum∧t.sum≤1000000)
instance (n:Int) (t:I9):Decidable (Uz n t):=by unfold Uz;infer_instance
def R5 (n:Int) (x:D9):Prop:=(0≤x.to_∧x.to_≤n-1)∧(0≤x.am∧x.am≤3)
instance (n:Int) (x:D9):Decidable (R5 n x):=by unfold R5;infer_instance
def V1 (c:A3):Prop:=Gc c.az∧c.aq.length=c.az.aq∧c.ak.length=c.az.aq * c.az.aq∧c.ar.length=4
instance (c:A3):Decidable (V1 c):=by unfold V1;infer_instance
def B1 (c:A3):Prop:=V1 c∧(∀w∈c.aq,Db c.az.ay.length w)∧(∀i,i<c.ak.length→Q4 c i)∧(∀t∈c.ar,Uz c.az.aq t)∧∀x∈c.au,R5 c.az.aq x
instance (c:A3):Decidable (B1 c):=by unfold B1;infer_instance
def Av (c:A3):Bool:=decide (B1 c)
theorem D0m {n:Int}(h1:1≤n)(h2:n≤4):1≤n * n∧n * n≤16:=by
 have:n=1∨n=2∨n=3∨n=4:=by omega
 rcases this with rfl|rfl|rfl|rfl<;>decide
theorem C0l {n k:Int}(hn:1≤n)(hk:0≤k):0≤k.tdiv n∧k.tdiv n≤k:=by
 obtain ⟨m,rfl⟩:=Ud hk;obtain ⟨d,rfl⟩:=Ud (show 0≤n by omega)
 rw [←Int.ofNat_tdiv];exact ⟨A8h _,Int.ofNat_le.2 (Nat.div_le_self m d)⟩
set_option maxHeartbeats 2000000 in
theorem O9 (x:A3)(hx:x.w≤16777216)(hgo:Nj x):Df 233 [.agg x.c] [.one (vb (Av x))]:=by
 have hg:=A3.graph_le hx;have hx2:=hx;simp only [A3.w,wS] at hx2;refine Dy Tryz.func233 fun W=>?_;refine Fh (Je x.az hg) ?_;refine C2 (fun hG=>?_) fun hG=>?_
 ·refine Ar ?_
  exact Af A0 rfl rfl ⟨A6 vb (Cx fun p=>by rw [show Eh x.az=true from D7 p.1.1] at hG;exact absurd hG Bk),trivial⟩
 have hG:Gc x.az:=Bp (show Eh x.az=true by simpa using hG)
 have hn1:=hG.2.1.1;have hn2:=hG.2.1.2;have hnn:=D0m hn1 hn2
 repeat' (first|(refine Gy ?_;conv=>whnf)|(refine Gz ?_;conv=>whnf)|(refine ⟨fun h=>?_,fun h=>?_⟩<;>conv=>whnf)|(refine D6 ?_;conv=>whnf)|(refine Ae 13 rfl [0,1,2,3,4,5,6,7,8,9,10,11,12,13,14,15,16,17,18,19,20,21,22,23,24,25,26,27,28,29,30,31,32,33] Ak (Ag ?_))|fail)
 all_goals try (refine Af A0 rfl rfl ⟨A6 vb (Cx fun p=>?_),trivial⟩;obtain ⟨_,p1,p2,p3⟩:=p.1;clear p hgo hG;simp only [Es] at *;omega)
 have hH:V1 x:=by refine ⟨hG,?_,?_,?_⟩<;>(clear hgo hG;simp only [Es] at *;omega)
 rename_i a1 a2
 clear h a1 a2
 have hu:=Dm (fun i=>Db x.az.ay.length (x.aq.getD i default));refine Fs [] (fun k:Nat=>[(44,.c (vi k))]) (fun k=>[⟨0,[.c (Ay x.az.ay),.c (vi x.az.aq),.c (vi x.az.cap),.c (Ai x.aq),.c (Bo x.ak),.c (B4 x.ar),.c (C4 x.au)]⟩]) (fun k=>[]) (fun k=>k≤x.aq.length∧Mv (fun i=>Db x.az.ay.length (x.aq.getD i default)) k) (fun k=>x.aq.length-k) fun k hk=>?_;obtain ⟨hk,he⟩:=hk;refine E3 (fun h'=>?_) fun h'=>?_
 ·have h':k<x.aq.length:=by omega
  refine B6 ?_;refine Fh (Tt x.az (x.aq.getD k default) hg (A3.worker_le hx h')) ?_;refine C2 (fun h=>?_) fun h=>?_
  ·exact Af A0 rfl rfl ⟨A6 vb (Cx fun p=>by rw [show M0 _ _=true from D7 (p.2.1 _ (Am (d:=default) h'))] at h;exact absurd h Bk),trivial⟩
  refine B6 ?_;refine Co [] (k+1) ⟨by omega,Dl he (Bp (show M0 _ _=true by simpa using h))⟩ A7 ⟨rfl,trivial⟩ trivial
 have e:k=x.aq.length:=by omega
 have hW:∀w∈x.aq,Db x.az.ay.length w:=Io (p:=fun w=>Db x.az.ay.length w) (e▸he)
 clear he hu
 have hu:=Dm (Q4 x);refine Fs [] (fun k:Nat=>[(57,.c (vi k))]) (fun k=>[⟨0,[.c (Ay x.az.ay),.c (vi x.az.aq),.c (vi x.az.cap),.c (Ai x.aq),.c (Bo x.ak),.c (B4 x.ar),.c (C4 x.au)]⟩]) (fun k=>[]) (fun k=>k≤x.ak.length∧Mv (Q4 x) k) (fun k=>x.ak.length-k) fun k hk=>?_;obtain ⟨hk,he⟩:=hk;refine E3 (fun h'=>?_) fun h'=>?_
 ·have h':k<x.ak.length:=by omega
  have hq:(x.ak.getD k default).al.length≤16777216:=A3.link_le hx h';have hd:=C0l hn1 (show 0≤(k:Int) by omega)
  repeat' (first|(refine Gy ?_;conv=>whnf)|(refine Gz ?_;conv=>whnf)|(refine ⟨fun h=>?_,fun h=>?_⟩<;>conv=>whnf)|(refine Ao (Tp (x.ak.getD k default) (A3.link_le hx h') (hgo _ (Am h'))) rfl (I7 ?_);conv=>whnf)|(refine Ao (X1 x.az (x.ak.getD k default).al hg hq) rfl (I7 ?_);conv=>whnf)|(refine D6 ?_;conv=>whnf)|(refine Ae 13 rfl [0,1,2,3,4,5,6,7,8,9,10,11,12,13,14,15,16,17,18,19,20,21,22,23,24,25,26,27,28,29,30,31,32,33] Ak (Ag ?_))|fail)
  all_goals try (refine Af A0 rfl rfl ⟨A6 vb (Cx fun p=>?_),trivial⟩;obtain ⟨q1,q2,q3,q4⟩:=p.2.2.1 k h';clear p he hu hgo hG hW hH;simp only [Cp,Kd,Xy] at *;first|(simp_all;done)|(simp_all;omega))
  all_goals
   have hs:Q4 x k:=by
    refine ⟨Bp (show Kd _=true by simp_all),?_,Bp (show Xy _ _=true by simp_all),?_⟩<;>clear he hu hgo hG hW hH<;>simp only [Cp] at * <;>first|(simp_all;done)|(simp_all;omega)
   refine Co [] (k+1) ⟨by omega,Dl he hs⟩ A7 ⟨rfl,trivial⟩ trivial
 have hK:∀i,i<x.ak.length→Q4 x i:=fun i hi=>he i A7
 clear he hu
 have hu:=Dm (fun i=>Uz x.az.aq (x.ar.getD i default));refine Fs [] (fun k:Nat=>[(100,.c (vi k))]) (fun k=>[⟨0,[.c (Ay x.az.ay),.c (vi x.az.aq),.c (vi x.az.cap),.c (Ai x.aq),.c (Bo x.ak),.c (B4 x.ar),.c (C4 x.au)]⟩]) (fun k=>[]) (fun k=>k≤x.ar.length∧Mv (fun i=>Uz x.az.aq (x.ar.getD i default)) k) (fun k=>x.ar.length-k) fun k hk=>?_;obtain ⟨hk,he⟩:=hk;refine E3 (fun h'=>?_) fun h'=>?_
 ·have h':k<x.ar.length:=by omega
  repeat' (first|(refine Gy ?_;conv=>whnf)|(refine Gz ?_;conv=>whnf)|(refine ⟨fun h=>?_,fun h=>?_⟩<;>conv=>whnf)|(refine Ao (Hw _ _ _) rfl (Ag ?_))|(refine D6 ?_;conv=>whnf)|(refine Ae 13 rfl [0,1,2,3,4,5,6,7,8,9,10,11,12,13,14,15,16,17,18,19,20,21,22,23,24,25,26,27,28,29,30,31,32,33] Ak (Ag ?_))|fail)
  all_goals try (refine Af A0 rfl rfl ⟨A6 vb (Cx fun p=>?_),trivial⟩;obtain ⟨q1,q2,q3⟩:=p.2.2.2.1 _ (Am (d:=default) h');clear p he hu hgo hG hW hH hK;simp only [Cp] at *;first|(simp only [Es] at *;omega)|(simp only [Es] at *;simp_all;done)|(simp_all;done))
  all_goals
   have hs:Uz x.az.aq (x.ar.getD k default):=by
    refine ⟨?_,?_,?_⟩<;>clear he hu hgo hG hW hH hK<;>simp only [Cp] at * <;>first|(simp only [Es] at *;omega)|(simp only [Es] at *;simp_all;done)|(simp_all;done)
   refine Co [] (k+1) ⟨by omega,Dl he hs⟩ A7 ⟨rfl,trivial⟩ trivial
 have e:k=x.ar.length:=by omega
 have hT:∀t∈x.ar,Uz x.az.aq t:=Io (p:=Uz x.az.aq) (e▸he)
 clear he hu
 have hu:=Dm (fun i=>R5 x.az.aq (x.au.getD i default));refine Fs [] (fun k:Nat=>[(130,.c (vi k))]) (fun k=>[⟨0,[.c (Ay x.az.ay),.c (vi x.az.aq),.c (vi x.az.cap),.c (Ai x.aq),.c (Bo x.ak),.c (B4 x.ar),.c (C4 x.au)]⟩]) (fun k=>[]) (fun k=>k≤x.au.length∧Mv (fun i=>R5 x.az.aq (x.au.getD i default)) k) (fun k=>x.au.length-k) fun k hk=>?_;obtain ⟨hk,he⟩:=hk;refine E3 (fun h'=>?_) fun h'=>?_
 ·have h':k<x.au.length:=by omega
  repeat' (first|(refine Gy ?_;conv=>whnf)|(refine Gz ?_;conv=>whnf)|(refine ⟨fun h=>?_,fun h=>?_⟩<;>conv=>whnf)|(refine Ao (Hw _ _ _) rfl (Ag ?_))|(refine D6 ?_;conv=>whnf)|(refine Ae 13 rfl [0,1,2,3,4,5,6,7,8,9,10,11,12,13,14,15,16,17,18,19,20,21,22,23,24,25,26,27,28,29,30,31,32,33] Ak (Ag ?_))|fail)
  all_goals try (refine Af A0 rfl rfl ⟨A6 vb (Cx fun p=>?_),trivial⟩;obtain ⟨q1,q2⟩:=p.2.2.2.2 _ (Am (d:=default) h');clear p he hu hgo hG hW hH hK hT;simp only [Es] at *;omega)
  all_goals
   have hs:R5 x.az.aq (x.au.getD k default):=by
    refine ⟨?_,?_⟩<;>clear he hu hgo hG hW hH hK hT<;>(simp only [Es] at *;omega)
   refine Co [] (k+1) ⟨by omega,Dl he hs⟩ A7 ⟨rfl,trivial⟩ trivial
 have e:k=x.au.length:=by omega
 have hN:∀t∈x.au,R5 x.az.aq t:=Io (p:=R5 x.az.aq) (e▸he);exact Af A0 rfl rfl ⟨A6 vb (D7 ⟨hH,hW,hK,hT,hN⟩),trivial⟩
set_option maxHeartbeats 2000000 in
theorem A9c (x:A3)(hx:x.w≤16777216):Df 157 [.agg x.c] [.one (vb (Av x))]:=by
 have hg:=A3.graph_le hx;have hx2:=hx;simp only [A3.w,wS] at hx2;refine Dy Tryz.func157 fun W=>?_;refine Fh (Mn x.az hg) ?_;refine C2 (fun hG=>?_) fun hG=>?_
 ·refine Ar ?_
  exact Af A0 rfl rfl ⟨A6 vb (Cx fun p=>by rw [show Eh x.az=true from D7 p.1.1] at hG;exact absurd hG Bk),trivial⟩
 have hG:Gc x.az:=Bp (show Eh x.az=true by simpa using hG)
 have hn1:=hG.2.1.1;have hn2:=hG.2.1.2;have hnn:=D0m hn1 hn2
 repeat' (first|(refine Gy ?_;conv=>whnf)|(refine Gz ?_;conv=>whnf)|(refine ⟨fun h=>?_,fun h=>?_⟩<;>conv=>whnf)|(refine D6 ?_;conv=>whnf)|(refine Ae 7 rfl [0,1,2,3,4,5,6,7,8] Ak (Ag ?_))|(refine Ae 13 rfl [0,1,2,3,4,5,6,7,8,9,10,11,12,13,14,15,16,17,18,19,20,21,22,23,24,25,26,27,28,29,30,31,32,33] Ak (Ag ?_))|fail)
 all_goals try (refine Af A0 rfl rfl ⟨A6 vb (Cx fun p=>?_),trivial⟩;obtain ⟨_,p1,p2,p3⟩:=p.1;clear p hG;simp only [Es] at *;omega)
 have hH:V1 x:=by refine ⟨hG,?_,?_,?_⟩<;>(clear hG;simp only [Es] at *;omega)
 rename_i a1 a2
 clear h a1 a2
 have hu:=Dm (fun i=>Db x.az.ay.length (x.aq.getD i default));refine Fs [] (fun k:Nat=>[(4,.c (vi k))]) (fun k=>[⟨0,[.c (Ay x.az.ay),.c (vi x.az.aq),.c (vi x.az.cap),.c (Ai x.aq),.c (Bo x.ak),.c (B4 x.ar),.c (C4 x.au)]⟩]) (fun k=>[]) (fun k=>k≤x.aq.length∧Mv (fun i=>Db x.az.ay.length (x.aq.getD i default)) k) (fun k=>x.aq.length-k) fun k hk=>?_;obtain ⟨hk,he⟩:=hk;have hwl:=hH.2.1;refine E3 (fun h'=>?_) fun h'=>?_
 ·have h':k<x.aq.length:=by omega
  refine B6 ?_
  first|(refine Ae 7 rfl [0,1,2,3,4,5,6,7,8] Ak (Ag ?_))|(refine Ae 13 rfl [0,1,2,3,4,5,6,7,8,9,10,11,12,13,14,15,16,17,18,19,20,21,22,23,24,25,26,27,28,29,30,31,32,33] Ak (Ag ?_))
  refine B6 ?_;refine Fh (B23 x.az (x.aq.getD k default) hg (A3.worker_le hx h')) ?_;refine C2 (fun h=>?_) fun h=>?_
  ·exact Af A0 rfl rfl ⟨A6 vb (Cx fun p=>by rw [show M0 _ _=true from D7 (p.2.1 _ (Am (d:=default) h'))] at h;exact absurd h Bk),trivial⟩
  refine B6 ?_;refine Co [] (k+1) ⟨by omega,Dl he (Bp (show M0 _ _=true by simpa using h))⟩ A7 ⟨rfl,trivial⟩ trivial
 have e:k=x.aq.length:=by omega
 have hW:∀w∈x.aq,Db x.az.ay.length w:=Io (p:=fun w=>Db x.az.ay.length w) (e▸he)
 clear he hu
 have hu:=Dm (Q4 x);refine Fs [] (fun k:Nat=>[(5,.c (vi k))]) (fun k=>[⟨0,[.c (Ay x.az.ay),.c (vi x.az.aq),.c (vi x.az.cap),.c (Ai x.aq),.c (Bo x.ak),.c (B4 x.ar),.c (C4 x.au)]⟩]) (fun k=>[]) (fun k=>k≤x.ak.length∧Mv (Q4 x) k) (fun k=>x.ak.length-k) fun k hk=>?_;obtain ⟨hk,he⟩:=hk;refine E3 (fun h'=>?_) fun h'=>?_
 ·have h':k<x.ak.length:=by omega
  have hq:(x.ak.getD k default).al.length≤16777216:=A3.link_le hx h';have hd:=C0l hn1 (show 0≤(k:Int) by omega)
  repeat' (first|(refine Gy ?_;conv=>whnf)|(refine Gz ?_;conv=>whnf)|(refine ⟨fun h=>?_,fun h=>?_⟩<;>conv=>whnf)|(refine Ao (U6 (x.ak.getD k default) (A3.link_le hx h')) rfl (I7 ?_);conv=>whnf)|(refine Ao (Xa x.az (x.ak.getD k default).al hg hq) rfl (I7 ?_);conv=>whnf)|(refine D6 ?_;conv=>whnf)|(refine Ae 7 rfl [0,1,2,3,4,5,6,7,8] Ak (Ag ?_))|(refine Ae 13 rfl [0,1,2,3,4,5,6,7,8,9,10,11,12,13,14,15,16,17,18,19,20,21,22,23,24,25,26,27,28,29,30,31,32,33] Ak (Ag ?_))|fail)
  all_goals try (refine Af A0 rfl rfl ⟨A6 vb (Cx fun p=>?_),trivial⟩;obtain ⟨q1,q2,q3,q4⟩:=p.2.2.1 k h';clear p he hu hG hW hH;simp only [Cp,Kd,Xy] at *;first|(simp_all;done)|(simp_all;omega))
  all_goals
   have hs:Q4 x k:=by
    refine ⟨Bp (show Kd _=true by simp_all),?_,Bp (show Xy _ _=true by simp_all),?_⟩<;>clear he hu hG hW hH<;>simp only [Cp] at * <;>first|(simp_all;done)|(simp_all;omega)
   refine Co [] (k+1) ⟨by omega,Dl he hs⟩ A7 ⟨rfl,trivial⟩ trivial
 have hK:∀i,i<x.ak.length→Q4 x i:=fun i hi=>he i A7
 clear he hu
 have hu:=Dm (fun i=>Uz x.az.aq (x.ar.getD i default));refine Fs [] (fun k:Nat=>[(7,.c (vi k))]) (fun k=>[⟨0,[.c (Ay x.az.ay),.c (vi x.az.aq),.c (vi x.az.cap),.c (Ai x.aq),.c (Bo x.ak),.c (B4 x.ar),.c (C4 x.au)]⟩]) (fun k=>[]) (fun k=>k≤x.ar.length∧Mv (fun i=>Uz x.az.aq (x.ar.getD i default)) k) (fun k=>x.ar.length-k) fun k hk=>?_;obtain ⟨hk,he⟩:=hk;refine E3 (fun h'=>?_) fun h'=>?_
 ·have h':k<x.ar.length:=by omega
  repeat' (first|(refine Gy ?_;conv=>whnf)|(refine Gz ?_;conv=>whnf)|(refine ⟨fun h=>?_,fun h=>?_⟩<;>conv=>whnf)|(refine Ao (Hm _ _ _) rfl (Ag ?_))|(refine D6 ?_;conv=>whnf)|(refine Ae 7 rfl [0,1,2,3,4,5,6,7,8] Ak (Ag ?_))|(refine Ae 13 rfl [0,1,2,3,4,5,6,7,8,9,10,11,12,13,14,15,16,17,18,19,20,21,22,23,24,25,26,27,28,29,30,31,32,33] Ak (Ag ?_))|fail)
  all_goals try (refine Af A0 rfl rfl ⟨A6 vb (Cx fun p=>?_),trivial⟩;obtain ⟨q1,q2,q3⟩:=p.2.2.2.1 _ (Am (d:=default) h');clear p he hu hG hW hH hK;simp only [Cp] at *;first|(simp only [Es] at *;omega)|(simp only [Es] at *;simp_all;done)|(simp_all;done))
  all_goals
   have hs:Uz x.az.aq (x.ar.getD k default):=by
    refine ⟨?_,?_,?_⟩<;>clear he hu hG hW hH hK<;>simp only [Cp] at * <;>first|(simp only [Es] at *;omega)|(simp only [Es] at *;simp_all;done)|(simp_all;done)
   refine Co [] (k+1) ⟨by omega,Dl he hs⟩ A7 ⟨rfl,trivial⟩ trivial
 have e:k=x.ar.length:=by omega
 have hT:∀t∈x.ar,Uz x.az.aq t:=Io (p:=Uz x.az.aq) (e▸he)
 clear he hu
 have hu:=Dm (fun i=>R5 x.az.aq (x.au.getD i default));refine Fs [] (fun k:Nat=>[(8,.c (vi k))]) (fun k=>[⟨0,[.c (Ay x.az.ay),.c (vi x.az.aq),.c (vi x.az.cap),.c (Ai x.aq),.c (Bo x.ak),.c (B4 x.ar),.c (C4 x.au)]⟩]) (fun k=>[]) (fun k=>k≤x.au.length∧Mv (fun i=>R5 x.az.aq (x.au.getD i default)) k) (fun k=>x.au.length-k) fun k hk=>?_;obtain ⟨hk,he⟩:=hk;refine E3 (fun h'=>?_) fun h'=>?_
 ·have h':k<x.au.length:=by omega
  repeat' (first|(refine Gy ?_;conv=>whnf)|(refine Gz ?_;conv=>whnf)|(refine ⟨fun h=>?_,fun h=>?_⟩<;>conv=>whnf)|(refine Ao (Hm _ _ _) rfl (Ag ?_))|(refine D6 ?_;conv=>whnf)|(refine Ae 7 rfl [0,1,2,3,4,5,6,7,8] Ak (Ag ?_))|(refine Ae 13 rfl [0,1,2,3,4,5,6,7,8,9,10,11,12,13,14,15,16,17,18,19,20,21,22,23,24,25,26,27,28,29,30,31,32,33] Ak (Ag ?_))|fail)
  all_goals try (refine Af A0 rfl rfl ⟨A6 vb (Cx fun p=>?_),trivial⟩;obtain ⟨q1,q2⟩:=p.2.2.2.2 _ (Am (d:=default) h');clear p he hu hG hW hH hK hT;simp only [Es] at *;omega)
  all_goals
   have hs:R5 x.az.aq (x.au.getD k default):=by
    refine ⟨?_,?_⟩<;>clear he hu hG hW hH hK hT<;>(simp only [Es] at *;omega)
   refine Co [] (k+1) ⟨by omega,Dl he hs⟩ A7 ⟨rfl,trivial⟩ trivial
 have e:k=x.au.length:=by omega
 have hN:∀t∈x.au,R5 x.az.aq t:=Io (p:=R5 x.az.aq) (e▸he);exact Af A0 rfl rfl ⟨A6 vb (D7 ⟨hH,hW,hK,hT,hN⟩),trivial⟩
end Go.Proofs.YtmhcebdkjgkmlaaGreatDoor
