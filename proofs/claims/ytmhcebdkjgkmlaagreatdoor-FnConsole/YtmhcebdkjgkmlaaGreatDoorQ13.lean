/- Part 13 of the proof that each of the laws FnConsole returns true for every input. No conditions. -/
import Derived.Test.YtmhcebdkjgkmlaaGreatDoorQ12

set_option linter.unusedSimpArgs false
set_option linter.unusedVariables false
set_option maxRecDepth 100000
namespace Go.Proofs.YtmhcebdkjgkmlaaGreatDoor
open Go.Sx
variable {c : A3}
theorem A3.graph_le {n:Nat}(h:c.w≤n):c.az.w≤n:=by simp only [A3.w] at h;omega
theorem A3.worker_le {n:Nat}(h:c.w≤n){k:Nat}(hk:k<c.aq.length):(c.aq.getD k default).w≤n:=by
 simp only [A3.w,wS] at h;have hle:=Iu Ae.w c.aq k hk;omega
theorem A3.link_le {n:Nat}(h:c.w≤n){k:Nat}(hk:k<c.ay.length):(c.ay.getD k default).w≤n:=by
 simp only [A3.w,wS] at h;have hle:=Iu D5.w c.ay k hk;omega
def M6 (c:A3):Prop:=∀l∈c.ay,l.got≤9223372036854775807
def B02 (c:A3) (i:Nat) (l:D5):Prop:=l.cap=c.az.cap∧A2j c.az.ak.length l.ar∧((i:Int).tdiv c.az.aq=(i:Int).tmod c.az.aq→l.ar.length=0)
instance (c:A3) (i:Nat) (l:D5):Decidable (B02 c i l):=by unfold B02;infer_instance
def Q4 (c:A3) (i:Nat):Prop:=Hv (c.ay.getD i default)∧B02 c i (c.ay.getD i default)
instance (c:A3) (i:Nat):Decidable (Q4 c i):=by unfold Q4;infer_instance
def Qw (n:Int) (t:Gg):Prop:=(0≤t.aj∧t.aj≤n-1)∧(t.bz=false→t.aj=0)∧(-1000000≤t.sum∧t.sum≤1000000)
instance (n:Int) (t:Gg):Decidable (Qw n t):=by unfold Qw;infer_instance
def Oo (n:Int) (x:De):Prop:=(0≤x.to_∧x.to_≤n-1)∧(0≤x.ab∧x.ab≤3)
instance (n:Int) (x:De):Decidable (Oo n x):=by unfold Oo;infer_instance
def Vb (c:A3):Prop:=Gw c.az∧c.aq.length=c.az.aq∧c.ay.length=c.az.aq * c.az.aq∧c.ap.length=4
instance (c:A3):Decidable (Vb c):=by unfold Vb;infer_instance
def Ax (c:A3):Prop:=Vb c∧(∀w∈c.aq,Cw c.az.ak.length w)∧(∀i,i<c.ay.length→Q4 c i)∧(∀t∈c.ap,Qw c.az.aq t)∧∀x∈c.ac,Oo c.az.aq x
instance (c:A3):Decidable (Ax c):=by unfold Ax;infer_instance
def Au (c:A3):Bool:=decide (Ax c)
theorem D1o {n:Int}(h1:1≤n)(h2:n≤4):1≤n * n∧n * n≤16:=by
 have:n=1∨n=2∨n=3∨n=4:=by omega
 rcases this with rfl|rfl|rfl|rfl<;>decide
theorem C2e {n k:Int}(hn:1≤n)(hk:0≤k):0≤k.tdiv n∧k.tdiv n≤k:=by
 obtain ⟨m,rfl⟩:=A2e hk;obtain ⟨d,rfl⟩:=A2e (show 0≤n by omega)
 rw [←Int.ofNat_tdiv];exact ⟨A9t _,Int.ofNat_le.2 (Nat.div_le_self m d)⟩
set_option maxHeartbeats 2000000 in
theorem Of (x:A3)(hx:x.w≤16777216)(hgo:M6 x):Di 233 [.agg x.c] [.one (vb (Au x))]:=by
 have hg:=A3.graph_le hx;have hx2:=hx;simp only [A3.w,wS] at hx2;refine E7 Tryz.func233 fun W=>?_;refine Fp (Kp x.az hg) ?_;refine C1 (fun hG=>?_) fun hG=>?_
 ·refine As ?_
  exact An A0 rfl rfl ⟨A6 vb (Cd fun p=>by rw [show F2 x.az=true from Dc p.1.1] at hG;exact absurd hG Bq),trivial⟩
 have hG:Gw x.az:=Bn (show F2 x.az=true by simpa using hG)
 have hn1:=hG.2.1.1;have hn2:=hG.2.1.2;have hnn:=D1o hn1 hn2
 repeat' (first|(refine Ho ?_;conv=>whnf)|(refine Hp ?_;conv=>whnf)|(refine ⟨fun h=>?_,fun h=>?_⟩<;>conv=>whnf)|(refine Cp ?_;conv=>whnf)|(refine Aj 13 rfl [0,1,2,3,4,5,6,7,8,9,10,11,12,13,14,15,16,17,18,19,20,21,22,23,24,25,26,27,28,29,30,31,32,33] Am (Ah ?_))|fail)
 all_goals try (refine An A0 rfl rfl ⟨A6 vb (Cd fun p=>?_),trivial⟩;obtain ⟨_,p1,p2,p3⟩:=p.1;clear p hgo hG;simp only [F4] at *;omega)
 have hH:Vb x:=by refine ⟨hG,?_,?_,?_⟩<;>(clear hgo hG;simp only [F4] at *;omega)
 rename_i a1 a2
 clear h a1 a2
 have hu:=Dn (fun i=>Cw x.az.ak.length (x.aq.getD i default));refine Fx [] (fun k:Nat=>[(44,.c (vi k))]) (fun k=>[⟨0,[.c (At x.az.ak),.c (vi x.az.aq),.c (vi x.az.cap),.c (Af x.aq),.c (Ba x.ay),.c (Aw x.ap),.c (Bf x.ac)]⟩]) (fun k=>[]) (fun k=>k≤x.aq.length∧N1 (fun i=>Cw x.az.ak.length (x.aq.getD i default)) k) (fun k=>x.aq.length-k) fun k hk=>?_;obtain ⟨hk,he⟩:=hk;refine Dv (fun h'=>?_) fun h'=>?_
 ·have h':k<x.aq.length:=by omega
  refine B4 ?_;refine Fp (U2 x.az (x.aq.getD k default) hg (A3.worker_le hx h')) ?_;refine C1 (fun h=>?_) fun h=>?_
  ·exact An A0 rfl rfl ⟨A6 vb (Cd fun p=>by rw [show Lw _ _=true from Dc (p.2.1 _ (Al (d:=default) h'))] at h;exact absurd h Bq),trivial⟩
  refine B4 ?_;refine Cc [] (k+1) ⟨by omega,Dm he (Bn (show Lw _ _=true by simpa using h))⟩ A7 ⟨rfl,trivial⟩ trivial
 have e:k=x.aq.length:=by omega
 have hW:∀w∈x.aq,Cw x.az.ak.length w:=Iq (p:=fun w=>Cw x.az.ak.length w) (e▸he)
 clear he hu
 have hu:=Dn (Q4 x);refine Fx [] (fun k:Nat=>[(57,.c (vi k))]) (fun k=>[⟨0,[.c (At x.az.ak),.c (vi x.az.aq),.c (vi x.az.cap),.c (Af x.aq),.c (Ba x.ay),.c (Aw x.ap),.c (Bf x.ac)]⟩]) (fun k=>[]) (fun k=>k≤x.ay.length∧N1 (Q4 x) k) (fun k=>x.ay.length-k) fun k hk=>?_;obtain ⟨hk,he⟩:=hk;refine Dv (fun h'=>?_) fun h'=>?_
 ·have h':k<x.ay.length:=by omega
  have hq:(x.ay.getD k default).ar.length≤16777216:=A3.link_le hx h';have hd:=C2e hn1 (show 0≤(k:Int) by omega)
  repeat' (first|(refine Ho ?_;conv=>whnf)|(refine Hp ?_;conv=>whnf)|(refine ⟨fun h=>?_,fun h=>?_⟩<;>conv=>whnf)|(refine Aq (Ty (x.ay.getD k default) (A3.link_le hx h') (hgo _ (Al h'))) rfl (It ?_);conv=>whnf)|(refine Aq (Xi x.az (x.ay.getD k default).ar hg hq) rfl (It ?_);conv=>whnf)|(refine Cp ?_;conv=>whnf)|(refine Aj 13 rfl [0,1,2,3,4,5,6,7,8,9,10,11,12,13,14,15,16,17,18,19,20,21,22,23,24,25,26,27,28,29,30,31,32,33] Am (Ah ?_))|fail)
  all_goals try (refine An A0 rfl rfl ⟨A6 vb (Cd fun p=>?_),trivial⟩;obtain ⟨q1,q2,q3,q4⟩:=p.2.2.1 k h';clear p he hu hgo hG hW hH;simp only [Bv,Ka,Yh] at *;first|(simp_all;done)|(simp_all;omega))
  all_goals
   have hs:Q4 x k:=by
    refine ⟨Bn (show Ka _=true by simp_all),?_,Bn (show Yh _ _=true by simp_all),?_⟩<;>clear he hu hgo hG hW hH<;>simp only [Bv] at * <;>first|(simp_all;done)|(simp_all;omega)
   refine Cc [] (k+1) ⟨by omega,Dm he hs⟩ A7 ⟨rfl,trivial⟩ trivial
 have hK:∀i,i<x.ay.length→Q4 x i:=fun i hi=>he i A7
 clear he hu
 have hu:=Dn (fun i=>Qw x.az.aq (x.ap.getD i default));refine Fx [] (fun k:Nat=>[(100,.c (vi k))]) (fun k=>[⟨0,[.c (At x.az.ak),.c (vi x.az.aq),.c (vi x.az.cap),.c (Af x.aq),.c (Ba x.ay),.c (Aw x.ap),.c (Bf x.ac)]⟩]) (fun k=>[]) (fun k=>k≤x.ap.length∧N1 (fun i=>Qw x.az.aq (x.ap.getD i default)) k) (fun k=>x.ap.length-k) fun k hk=>?_;obtain ⟨hk,he⟩:=hk;refine Dv (fun h'=>?_) fun h'=>?_
 ·have h':k<x.ap.length:=by omega
  repeat' (first|(refine Ho ?_;conv=>whnf)|(refine Hp ?_;conv=>whnf)|(refine ⟨fun h=>?_,fun h=>?_⟩<;>conv=>whnf)|(refine Aq (Hm _ _ _) rfl (Ah ?_))|(refine Cp ?_;conv=>whnf)|(refine Aj 13 rfl [0,1,2,3,4,5,6,7,8,9,10,11,12,13,14,15,16,17,18,19,20,21,22,23,24,25,26,27,28,29,30,31,32,33] Am (Ah ?_))|fail)
  all_goals try (refine An A0 rfl rfl ⟨A6 vb (Cd fun p=>?_),trivial⟩;obtain ⟨q1,q2,q3⟩:=p.2.2.2.1 _ (Al (d:=default) h');clear p he hu hgo hG hW hH hK;simp only [Bv] at *;first|(simp only [F4] at *;omega)|(simp only [F4] at *;simp_all;done)|(simp_all;done))
  all_goals
   have hs:Qw x.az.aq (x.ap.getD k default):=by
    refine ⟨?_,?_,?_⟩<;>clear he hu hgo hG hW hH hK<;>simp only [Bv] at * <;>first|(simp only [F4] at *;omega)|(simp only [F4] at *;simp_all;done)|(simp_all;done)
   refine Cc [] (k+1) ⟨by omega,Dm he hs⟩ A7 ⟨rfl,trivial⟩ trivial
 have e:k=x.ap.length:=by omega
 have hT:∀t∈x.ap,Qw x.az.aq t:=Iq (p:=Qw x.az.aq) (e▸he)
 clear he hu
 have hu:=Dn (fun i=>Oo x.az.aq (x.ac.getD i default));refine Fx [] (fun k:Nat=>[(130,.c (vi k))]) (fun k=>[⟨0,[.c (At x.az.ak),.c (vi x.az.aq),.c (vi x.az.cap),.c (Af x.aq),.c (Ba x.ay),.c (Aw x.ap),.c (Bf x.ac)]⟩]) (fun k=>[]) (fun k=>k≤x.ac.length∧N1 (fun i=>Oo x.az.aq (x.ac.getD i default)) k) (fun k=>x.ac.length-k) fun k hk=>?_;obtain ⟨hk,he⟩:=hk;refine Dv (fun h'=>?_) fun h'=>?_
 ·have h':k<x.ac.length:=by omega
  repeat' (first|(refine Ho ?_;conv=>whnf)|(refine Hp ?_;conv=>whnf)|(refine ⟨fun h=>?_,fun h=>?_⟩<;>conv=>whnf)|(refine Aq (Hm _ _ _) rfl (Ah ?_))|(refine Cp ?_;conv=>whnf)|(refine Aj 13 rfl [0,1,2,3,4,5,6,7,8,9,10,11,12,13,14,15,16,17,18,19,20,21,22,23,24,25,26,27,28,29,30,31,32,33] Am (Ah ?_))|fail)
  all_goals try (refine An A0 rfl rfl ⟨A6 vb (Cd fun p=>?_),trivial⟩;obtain ⟨q1,q2⟩:=p.2.2.2.2 _ (Al (d:=default) h');clear p he hu hgo hG hW hH hK hT;simp only [F4] at *;omega)
  all_goals
   have hs:Oo x.az.aq (x.ac.getD k default):=by
    refine ⟨?_,?_⟩<;>clear he hu hgo hG hW hH hK hT<;>(simp only [F4] at *;omega)
   refine Cc [] (k+1) ⟨by omega,Dm he hs⟩ A7 ⟨rfl,trivial⟩ trivial
 have e:k=x.ac.length:=by omega
 have hN:∀t∈x.ac,Oo x.az.aq t:=Iq (p:=Oo x.az.aq) (e▸he);exact An A0 rfl rfl ⟨A6 vb (Dc ⟨hH,hW,hK,hT,hN⟩),trivial⟩
set_option maxHeartbeats 2000000 in
theorem B0l (x:A3)(hx:x.w≤16777216):Di 157 [.agg x.c] [.one (vb (Au x))]:=by
 have hg:=A3.graph_le hx;have hx2:=hx;simp only [A3.w,wS] at hx2;refine E7 Tryz.func157 fun W=>?_;refine Fp (Mn x.az hg) ?_;refine C1 (fun hG=>?_) fun hG=>?_
 ·refine As ?_
  exact An A0 rfl rfl ⟨A6 vb (Cd fun p=>by rw [show F2 x.az=true from Dc p.1.1] at hG;exact absurd hG Bq),trivial⟩
 have hG:Gw x.az:=Bn (show F2 x.az=true by simpa using hG)
 have hn1:=hG.2.1.1;have hn2:=hG.2.1.2;have hnn:=D1o hn1 hn2
 repeat' (first|(refine Ho ?_;conv=>whnf)|(refine Hp ?_;conv=>whnf)|(refine ⟨fun h=>?_,fun h=>?_⟩<;>conv=>whnf)|(refine Cp ?_;conv=>whnf)|(refine Aj 7 rfl [0,1,2,3,4,5,6,7,8] Am (Ah ?_))|(refine Aj 13 rfl [0,1,2,3,4,5,6,7,8,9,10,11,12,13,14,15,16,17,18,19,20,21,22,23,24,25,26,27,28,29,30,31,32,33] Am (Ah ?_))|fail)
 all_goals try (refine An A0 rfl rfl ⟨A6 vb (Cd fun p=>?_),trivial⟩;obtain ⟨_,p1,p2,p3⟩:=p.1;clear p hG;simp only [F4] at *;omega)
 have hH:Vb x:=by refine ⟨hG,?_,?_,?_⟩<;>(clear hG;simp only [F4] at *;omega)
 rename_i a1 a2
 clear h a1 a2
 have hu:=Dn (fun i=>Cw x.az.ak.length (x.aq.getD i default));refine Fx [] (fun k:Nat=>[(4,.c (vi k))]) (fun k=>[⟨0,[.c (At x.az.ak),.c (vi x.az.aq),.c (vi x.az.cap),.c (Af x.aq),.c (Ba x.ay),.c (Aw x.ap),.c (Bf x.ac)]⟩]) (fun k=>[]) (fun k=>k≤x.aq.length∧N1 (fun i=>Cw x.az.ak.length (x.aq.getD i default)) k) (fun k=>x.aq.length-k) fun k hk=>?_;obtain ⟨hk,he⟩:=hk;have hwl:=hH.2.1;refine Dv (fun h'=>?_) fun h'=>?_
 ·have h':k<x.aq.length:=by omega
  refine B4 ?_
  first|(refine Aj 7 rfl [0,1,2,3,4,5,6,7,8] Am (Ah ?_))|(refine Aj 13 rfl [0,1,2,3,4,5,6,7,8,9,10,11,12,13,14,15,16,17,18,19,20,21,22,23,24,25,26,27,28,29,30,31,32,33] Am (Ah ?_))
  refine B4 ?_;refine Fp (B4s x.az (x.aq.getD k default) hg (A3.worker_le hx h')) ?_;refine C1 (fun h=>?_) fun h=>?_
  ·exact An A0 rfl rfl ⟨A6 vb (Cd fun p=>by rw [show Lw _ _=true from Dc (p.2.1 _ (Al (d:=default) h'))] at h;exact absurd h Bq),trivial⟩
  refine B4 ?_;refine Cc [] (k+1) ⟨by omega,Dm he (Bn (show Lw _ _=true by simpa using h))⟩ A7 ⟨rfl,trivial⟩ trivial
 have e:k=x.aq.length:=by omega
 have hW:∀w∈x.aq,Cw x.az.ak.length w:=Iq (p:=fun w=>Cw x.az.ak.length w) (e▸he)
 clear he hu
 have hu:=Dn (Q4 x);refine Fx [] (fun k:Nat=>[(5,.c (vi k))]) (fun k=>[⟨0,[.c (At x.az.ak),.c (vi x.az.aq),.c (vi x.az.cap),.c (Af x.aq),.c (Ba x.ay),.c (Aw x.ap),.c (Bf x.ac)]⟩]) (fun k=>[]) (fun k=>k≤x.ay.length∧N1 (Q4 x) k) (fun k=>x.ay.length-k) fun k hk=>?_;obtain ⟨hk,he⟩:=hk;refine Dv (fun h'=>?_) fun h'=>?_
 ·have h':k<x.ay.length:=by omega
  have hq:(x.ay.getD k default).ar.length≤16777216:=A3.link_le hx h';have hd:=C2e hn1 (show 0≤(k:Int) by omega)
  repeat' (first|(refine Ho ?_;conv=>whnf)|(refine Hp ?_;conv=>whnf)|(refine ⟨fun h=>?_,fun h=>?_⟩<;>conv=>whnf)|(refine Aq (Uk (x.ay.getD k default) (A3.link_le hx h')) rfl (It ?_);conv=>whnf)|(refine Aq (Xv x.az (x.ay.getD k default).ar hg hq) rfl (It ?_);conv=>whnf)|(refine Cp ?_;conv=>whnf)|(refine Aj 7 rfl [0,1,2,3,4,5,6,7,8] Am (Ah ?_))|(refine Aj 13 rfl [0,1,2,3,4,5,6,7,8,9,10,11,12,13,14,15,16,17,18,19,20,21,22,23,24,25,26,27,28,29,30,31,32,33] Am (Ah ?_))|fail)
  all_goals try (refine An A0 rfl rfl ⟨A6 vb (Cd fun p=>?_),trivial⟩;obtain ⟨q1,q2,q3,q4⟩:=p.2.2.1 k h';clear p he hu hG hW hH;simp only [Bv,Ka,Yh] at *;first|(simp_all;done)|(simp_all;omega))
  all_goals
   have hs:Q4 x k:=by
    refine ⟨Bn (show Ka _=true by simp_all),?_,Bn (show Yh _ _=true by simp_all),?_⟩<;>clear he hu hG hW hH<;>simp only [Bv] at * <;>first|(simp_all;done)|(simp_all;omega)
   refine Cc [] (k+1) ⟨by omega,Dm he hs⟩ A7 ⟨rfl,trivial⟩ trivial
 have hK:∀i,i<x.ay.length→Q4 x i:=fun i hi=>he i A7
 clear he hu
 have hu:=Dn (fun i=>Qw x.az.aq (x.ap.getD i default));refine Fx [] (fun k:Nat=>[(7,.c (vi k))]) (fun k=>[⟨0,[.c (At x.az.ak),.c (vi x.az.aq),.c (vi x.az.cap),.c (Af x.aq),.c (Ba x.ay),.c (Aw x.ap),.c (Bf x.ac)]⟩]) (fun k=>[]) (fun k=>k≤x.ap.length∧N1 (fun i=>Qw x.az.aq (x.ap.getD i default)) k) (fun k=>x.ap.length-k) fun k hk=>?_;obtain ⟨hk,he⟩:=hk;refine Dv (fun h'=>?_) fun h'=>?_
 ·have h':k<x.ap.length:=by omega
  repeat' (first|(refine Ho ?_;conv=>whnf)|(refine Hp ?_;conv=>whnf)|(refine ⟨fun h=>?_,fun h=>?_⟩<;>conv=>whnf)|(refine Aq (Hg _ _ _) rfl (Ah ?_))|(refine Cp ?_;conv=>whnf)|(refine Aj 7 rfl [0,1,2,3,4,5,6,7,8] Am (Ah ?_))|(refine Aj 13 rfl [0,1,2,3,4,5,6,7,8,9,10,11,12,13,14,15,16,17,18,19,20,21,22,23,24,25,26,27,28,29,30,31,32,33] Am (Ah ?_))|fail)
  all_goals try (refine An A0 rfl rfl ⟨A6 vb (Cd fun p=>?_),trivial⟩;obtain ⟨q1,q2,q3⟩:=p.2.2.2.1 _ (Al (d:=default) h');clear p he hu hG hW hH hK;simp only [Bv] at *;first|(simp only [F4] at *;omega)|(simp only [F4] at *;simp_all;done)|(simp_all;done))
  all_goals
   have hs:Qw x.az.aq (x.ap.getD k default):=by
    refine ⟨?_,?_,?_⟩<;>clear he hu hG hW hH hK<;>simp only [Bv] at * <;>first|(simp only [F4] at *;omega)|(simp only [F4] at *;simp_all;done)|(simp_all;done)
   refine Cc [] (k+1) ⟨by omega,Dm he hs⟩ A7 ⟨rfl,trivial⟩ trivial
 have e:k=x.ap.length:=by omega
 have hT:∀t∈x.ap,Qw x.az.aq t:=Iq (p:=Qw x.az.aq) (e▸he)
 clear he hu
 have hu:=Dn (fun i=>Oo x.az.aq (x.ac.getD i default));refine Fx [] (fun k:Nat=>[(8,.c (vi k))]) (fun k=>[⟨0,[.c (At x.az.ak),.c (vi x.az.aq),.c (vi x.az.cap),.c (Af x.aq),.c (Ba x.ay),.c (Aw x.ap),.c (Bf x.ac)]⟩]) (fun k=>[]) (fun k=>k≤x.ac.length∧N1 (fun i=>Oo x.az.aq (x.ac.getD i default)) k) (fun k=>x.ac.length-k) fun k hk=>?_;obtain ⟨hk,he⟩:=hk;refine Dv (fun h'=>?_) fun h'=>?_
 ·have h':k<x.ac.length:=by omega
  repeat' (first|(refine Ho ?_;conv=>whnf)|(refine Hp ?_;conv=>whnf)|(refine ⟨fun h=>?_,fun h=>?_⟩<;>conv=>whnf)|(refine Aq (Hg _ _ _) rfl (Ah ?_))|(refine Cp ?_;conv=>whnf)|(refine Aj 7 rfl [0,1,2,3,4,5,6,7,8] Am (Ah ?_))|(refine Aj 13 rfl [0,1,2,3,4,5,6,7,8,9,10,11,12,13,14,15,16,17,18,19,20,21,22,23,24,25,26,27,28,29,30,31,32,33] Am (Ah ?_))|fail)
  all_goals try (refine An A0 rfl rfl ⟨A6 vb (Cd fun p=>?_),trivial⟩;obtain ⟨q1,q2⟩:=p.2.2.2.2 _ (Al (d:=default) h');clear p he hu hG hW hH hK hT;simp only [F4] at *;omega)
  all_goals
   have hs:Oo x.az.aq (x.ac.getD k default):=by
    refine ⟨?_,?_⟩<;>clear he hu hG hW hH hK hT<;>(simp only [F4] at *;omega)
   refine Cc [] (k+1) ⟨by omega,Dm he hs⟩ A7 ⟨rfl,trivial⟩ trivial
 have e:k=x.ac.length:=by omega
 have hN:∀t∈x.ac,Oo x.az.aq t:=Iq (p:=Oo x.az.aq) (e▸he);exact An A0 rfl rfl ⟨A6 vb (Dc ⟨hH,hW,hK,hT,hN⟩),trivial⟩
theorem Jx (l:List Aa)(h:l.length≤16777216):Di 174 [.one (A9 l)] [.one (A9 l)]:=by
 refine E7 Tryz.func174 fun W=>?_;refine B6 A0 rfl (A9 l) (Bs) (fun _=>J4 l) A7 (Ah ?_);exact An A0 rfl rfl ⟨rfl,trivial⟩
theorem G3 (l:List Ad)(h:l.length≤16777216):Di 216 [.one (Ai l)] [.one (Ai l)]:=by
 refine E7 Tryz.func216 fun W=>?_;refine B6 A0 rfl (Ai l) (Bs) (fun _=>Gi l) A7 (Ah ?_);exact An A0 rfl rfl ⟨rfl,trivial⟩
theorem Pt (l:D5)(h:l.w≤16777216):Di 161 [.agg l.c] [.agg l.c]:=by
 have h:l.ar.length≤16777216:=h;refine E7 Tryz.func161 fun W=>?_;refine Gf (Jx l.ar h) ?_;exact An A0 rfl rfl ⟨⟨rfl,rfl,rfl,rfl,rfl,rfl,trivial⟩,trivial⟩
theorem Pz (l:D5)(h:l.w≤16777216):Di 210 [.agg l.c] [.agg l.c]:=by
 have h:l.ar.length≤16777216:=h;refine E7 Tryz.func210 fun W=>?_;refine B6 A0 rfl (A9 l.ar) (Bs) (fun _=>J4 l.ar) A7 (Ah ?_);exact An A0 rfl rfl ⟨⟨rfl,rfl,rfl,rfl,rfl,rfl,trivial⟩,trivial⟩
set_option maxHeartbeats 8000000 in
theorem J6 (x:Ae)(h:x.w≤16777216):Di 160 [.agg x.c] [.agg x.c]:=by
 simp only [Ae.w] at h;refine B25 A0 false Tryz.func160 rfl Bq fun W us hul huv huo hp=>?_
 match us,hul with
 | [v0,v1,v2,v3,v4,v5,v6,v7],_=>
 conv=>whnf
 refine J3 rfl (E5 0 rfl (E5 3 rfl (E5 6 rfl (E5 9 rfl (E5 12 rfl (E5 15 rfl (E5 18 rfl (E5 21 rfl ?_))))))));refine Nu [2,5,8,11,14,17,20,23,24,25] [⟨1,4,.rd v0⟩,⟨4,7,.rd v1⟩,⟨7,10,.rd v2⟩,⟨10,13,.rd v3⟩,⟨13,16,.rd v4⟩,⟨16,19,.rd v5⟩,⟨19,22,.rd v6⟩,⟨22,25,.rd v7⟩] Am ?_;refine Lg (s':=?_) rfl Dt ?_ ?_;rotate_left;refine Ah ?_;refine B4i hp 0 0 rfl rfl ?_;refine Gf (Jx x.ar A7) ?_;exact C2
 refine Lg (s':=?_) rfl Dt ?_ ?_;rotate_left;refine Ah ?_;refine B4i hp 0 1 rfl rfl ?_;refine Gf (Jx x.aa A7) ?_;exact C2
 refine Lg (s':=?_) rfl Dt ?_ ?_;rotate_left;refine Ah ?_;refine B4i hp 0 2 rfl rfl ?_;refine Gf (Jx x.au A7) ?_;exact C2
 refine Lg (s':=?_) rfl Dt ?_ ?_;rotate_left;refine Ah ?_;refine B4i hp 0 3 rfl rfl ?_;refine Gf (G3 x.cells A7) ?_;exact C2
 refine Lg (s':=?_) rfl Dt ?_ ?_;rotate_left;refine Ah ?_;refine Jj hp 4 rfl 16 rfl ?_;refine B6 A0 rfl (Cn x.al) (Bs) (fun _=>Sv x.al) A7 (Ah ?_);exact C2
 refine Lg (s':=?_) rfl Dt ?_ ?_;rotate_left;refine Ah ?_;refine Jj hp 5 rfl 19 rfl ?_;refine B6 A0 rfl (Df x.ah) (Bs) (fun _=>Tu x.ah) A7 (Ah ?_);exact C2
 refine Lg (s':=?_) rfl Dt ?_ ?_;rotate_left;refine Ah ?_;refine Jj hp 6 rfl 22 rfl ?_;refine B6 A0 rfl (Df x.ai) (Bs) (fun _=>Tu x.ai) A7 (Ah ?_);exact C2
 refine Lg (s':=?_) rfl Dt ?_ ?_;rotate_left;refine Ah ?_;refine Jj hp 7 rfl 25 rfl ?_;refine B6 A0 rfl (I0 x.an) (Bs) (fun _=>A6z x.an) A7 (Ah ?_);exact C2
 refine My rfl Dt ?_;refine My rfl Dt ?_;refine Lr A0 Am Dt (GW.out (It ?_));conv=>whnf
 exact An A0 rfl rfl ⟨⟨rfl,rfl,rfl,rfl,rfl,rfl,rfl,rfl,trivial⟩,trivial⟩
set_option maxHeartbeats 8000000 in
theorem A8w (x:Ae)(h:x.w≤16777216):Di 209 [.agg x.c] [.agg x.c]:=by
 simp only [Ae.w] at h;refine B25 A0 false Tryz.func209 rfl Bq fun W us hul huv huo hp=>?_
 match us,hul with
 | [v0,v1,v2,v3,v4,v5,v6,v7],_=>
 conv=>whnf
 refine J3 rfl (E5 1 rfl (E5 5 rfl (E5 9 rfl (E5 13 rfl (E5 17 rfl (E5 21 rfl (E5 25 rfl (E5 29 rfl ?_))))))));refine Nu [3,7,11,15,19,23,27,31,32,33] [⟨0,3,.emp 5⟩,⟨2,5,.rd v0⟩,⟨4,7,.emp 5⟩,⟨6,9,.rd v1⟩,⟨8,11,.emp 5⟩,⟨10,13,.rd v2⟩,⟨12,15,.emp 4⟩,⟨14,17,.rd v3⟩,⟨16,19,.emp 1⟩,⟨18,21,.rd v4⟩,⟨20,23,.emp 1⟩,⟨22,25,.rd v5⟩,⟨24,27,.emp 1⟩,⟨26,29,.rd v6⟩,⟨28,31,.emp 2⟩,⟨30,33,.rd v7⟩] Am ?_;refine Lg (s':=?_) rfl Dt ?_ ?_;rotate_left;refine Ah ?_;refine Jj hp 0 rfl 5 rfl ?_;refine B6 A0 rfl (A9 x.ar) (Bs) (fun _=>J4 x.ar) A7 (Ah ?_);exact C2
 refine Lg (s':=?_) rfl Dt ?_ ?_;rotate_left;refine Ah ?_;refine Jj hp 1 rfl 9 rfl ?_;refine B6 A0 rfl (A9 x.aa) (Bs) (fun _=>J4 x.aa) A7 (Ah ?_);exact C2
 refine Lg (s':=?_) rfl Dt ?_ ?_;rotate_left;refine Ah ?_;refine Jj hp 2 rfl 13 rfl ?_;refine B6 A0 rfl (A9 x.au) (Bs) (fun _=>J4 x.au) A7 (Ah ?_);exact C2
 refine Lg (s':=?_) rfl Dt ?_ ?_;rotate_left;refine Ah ?_;refine Jj hp 3 rfl 17 rfl ?_;refine B6 A0 rfl (Ai x.cells) (Bs) (fun _=>Gi x.cells) A7 (Ah ?_);exact C2
 refine Lg (s':=?_) rfl Dt ?_ ?_;rotate_left;refine Ah ?_;refine Jj hp 4 rfl 21 rfl ?_;refine B6 A0 rfl (Cn x.al) (Bs) (fun _=>Sv x.al) A7 (Ah ?_);exact C2
 refine Lg (s':=?_) rfl Dt ?_ ?_;rotate_left;refine Ah ?_;refine Jj hp 5 rfl 25 rfl ?_;refine B6 A0 rfl (Df x.ah) (Bs) (fun _=>Tu x.ah) A7 (Ah ?_);exact C2
 refine Lg (s':=?_) rfl Dt ?_ ?_;rotate_left;refine Ah ?_;refine Jj hp 6 rfl 29 rfl ?_;refine B6 A0 rfl (Df x.ai) (Bs) (fun _=>Tu x.ai) A7 (Ah ?_);exact C2
 refine Lg (s':=?_) rfl Dt ?_ ?_;rotate_left;refine Ah ?_;refine Jj hp 7 rfl 33 rfl ?_;refine B6 A0 rfl (I0 x.an) (Bs) (fun _=>A6z x.an) A7 (Ah ?_);exact C2
 refine My rfl Dt ?_;refine My rfl Dt ?_;refine Lr A0 Am Dt (GW.out (It ?_));conv=>whnf
 exact An A0 rfl rfl ⟨⟨rfl,rfl,rfl,rfl,rfl,rfl,rfl,rfl,trivial⟩,trivial⟩
end Go.Proofs.YtmhcebdkjgkmlaaGreatDoor
