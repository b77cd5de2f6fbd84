/- Part 29 of the proof that each of the laws FnScriptsBack returns true for every input. No conditions. -/
import Derived.Test.YtmhcebdkjgkmlaaGreatDoorR27

set_option linter.unusedSimpArgs false
set_option linter.unusedVariables false
set_option maxRecDepth 100000
namespace Go.Proofs.YtmhcebdkjgkmlaaGreatDoor
open Go.Sx
theorem B10 (s:ByteArray)(hs:s.size≤1048576):Ex Tryz.prog Tab 143 [.one (vs s)] [.agg (G3 s).c,.one (vb (Dw s))]:=by
 have hl:=H9 s;refine Kq A0 false Tryz.func143 rfl Bk fun W hW=>?_;conv=>whnf
 refine F4 (Pt s 2 hs Bk) C6 hW rfl (Ag ?_)
 repeat' (first|(refine Gy ?_;conv=>whnf)|(refine Gz ?_;conv=>whnf)|(refine ⟨fun h=>?_,fun h=>?_⟩<;>conv=>whnf)|(refine D6 ?_;conv=>whnf)|(refine Ae 7 rfl [0,1,2,3,4,5,6,7,8,9,10,11] Ak (Ag ?_))|(refine Ae 8 rfl [0,2,3,4,1,5,6,7,8,9,10,11,13,12,14,15] Ak (Ag ?_))|fail)
 ·obtain ⟨hv,hb⟩:=Jk (s:=s) (fun c=>by
   rw [Nn,Mj c.1,A88 c,D7 (show 2≤(A4 s).length by have:=c.2.1;omega)] at h
   exact absurd h Bk)
  rw [hv,hb];exact Af A0 rfl rfl ⟨⟨rfl,rfl,rfl,.inr ⟨rfl,rfl,_,_,rfl⟩,trivial⟩,rfl,trivial⟩
 ·rename_i g1
  have hok:Nn s 2=true:=by simpa using g1
  have hlen:(Du s 2).length=(A4 s).length-2:=by rw [(Kt hok).1,Hs]
  obtain ⟨hv,hb⟩:=Jk (s:=s) (fun c=>by have:=Bp h;have:=c.2.1;omega);rw [hv,hb];exact Af A0 rfl rfl ⟨⟨rfl,rfl,rfl,.inr ⟨rfl,rfl,_,_,rfl⟩,trivial⟩,rfl,trivial⟩
 rename_i g1
 have hok:Nn s 2=true:=by simpa using g1
 have hn:=(Kt hok).1;have ht:=(Kt hok).2;have hpr:=Sw hok
 have hP:Fv s:=by
  have h1:=hok;rw [Nn,Cj,Cj] at h1;exact Bp h1.1.1
 have hlen:(Du s 2).length=(A4 s).length-2:=by rw [hn,Hs]
 have h4:4≤(A4 s).length:=by have:=Cy h;omega
 have hget:∀i,i+2<(A4 s).length→(Du s 2).getD i default=Dq (A4 s) (i+2):=fun i hi=>by
  rw [hn,Dq,Ah hi,Gg];simp only [B3d,Ec,T7];rw [Z8 2 i,Dh (show i+2<(A4 s).length by omega)]
  rfl
 have e0:(Du s 2).getD (Int.toNat 0) default=Dq (A4 s) 2:=hget 0 A7;have e1:(Du s 2).getD (Int.toNat 1) default=Dq (A4 s) 3:=hget 1 A7;have hdrop:(Du s 2).drop 2=Gg (A4 s) 4:=by rw [hn,Gg,Gg,←List.map_drop,List.drop_drop]
 have hsub:Xj (Du s 2).length 1 (fun i=>[vi ((Du s 2).getD i default)]) 2 ((Du s 2).length:Int) (De (Gg (A4 s) 4)):=by
  have h:=X8 (es:=1) (e:=fun b=>[vi b]) (xs:=Du s 2) (l:=2) (h:=((Du s 2).length:Int)) A7 A7 A7
  rwa [show (2:Int).toNat=2 from rfl,Pn (by rw [Gm];omega),hdrop] at h
 have hpl:(S7 s 2).length=(A4 s).length:=by rw [hpr]
 have hp1:(S7 s 2).getD (Int.toNat 1) default=(A4 s).getD 1 default:=by rw [hpr];rfl
 have hz:Gx s→∀j:Nat,j<0→C5 ((j:Int)+1)≠(A4 s).getD 1 default:=fun _ j hj=>absurd hj (Le _);refine Fs [9] (fun k:Nat=>[(8,.c (vi ((k:Int)+1)))]) (fun k=>[⟨0,[.c (vi 0),.c (vi 0),.c (vi 0),.v (.slice none 0 0)]⟩]) (fun k=>[]) (fun k=>k≤8∧(Gx s→∀j:Nat,j<k→C5 ((j:Int)+1)≠(A4 s).getD 1 default)) (fun k=>8-k) fun k hk=>?_;obtain ⟨hk,he⟩:=hk;refine C2 (fun hk=>?_) fun hk=>?_
 ·have hk:k<8:=by have:=Bp hk;omega
  have ox:=B0v s ((k:Int)+1) A7;have hx:(⟨(k:Int)+1,Dq (A4 s) 2,Dq (A4 s) 3,Gg (A4 s) 4⟩:Ba).w≤1048576:=by have:=Py s 4;show (Gg (A4 s) 4).length≤1048576;omega
  repeat' (first|(refine Gy ?_;conv=>whnf)|(refine Gz ?_;conv=>whnf)|(refine ⟨fun h=>?_,fun h=>?_⟩<;>conv=>whnf)|(refine D6 ?_;conv=>whnf)|(refine Ae 7 rfl [0,1,2,3,4,5,6,7,8,9,10,11] Ak (Ag ?_))|(refine Ae 8 rfl [0,2,3,4,1,5,6,7,8,9,10,11,13,12,14,15] Ak (Ag ?_))|fail)
  rw [e0,e1];refine P9 A0 rfl ⟨by omega,by omega,by omega⟩ (De (Gg (A4 s) 4)) hsub (Ag ?_)
  repeat' (first|(refine Gy ?_;conv=>whnf)|(refine Gz ?_;conv=>whnf)|(refine ⟨fun h=>?_,fun h=>?_⟩<;>conv=>whnf)|(refine Ao (A0c ((k:Int)+1)) rfl (I7 ?_);conv=>whnf)|(refine Ao (Tr _ (G0 hx Bk)) rfl (I7 ?_);conv=>whnf)|(refine F4 (A0d _ ox hx) C6 hW rfl (Ag ?_))|(refine Nm (B3u _ (G0 hx Bk)) rfl (I7 ?_);conv=>whnf)|(refine D6 ?_;conv=>whnf)|(refine Ae 7 rfl [0,1,2,3,4,5,6,7,8,9,10,11] Ak (Ag ?_))|(refine Ae 8 rfl [0,2,3,4,1,5,6,7,8,9,10,11,13,12,14,15] Ak (Ag ?_))|fail)
  ·rename_i g2 g3
   have hkn:C5 ((k:Int)+1)=(A4 s).getD 1 default:=(Lq g2).trans hp1;have hy:=U0 hk hkn;have hN:I6 (Om s):=by rw [hy];exact Bp g3
   have hj:Be (Om s)=Cf (A4 s):=by rw [hy,←ht];exact Lq h
   obtain ⟨hv,hb⟩:=A3e (s:=s) ⟨hP,h4,hN,hj⟩;rw [hv,hb,hy];exact Af A0 rfl rfl ⟨⟨rfl,rfl,rfl,rfl,trivial⟩,rfl,trivial⟩
  ·have hnext:Gx s→∀j:Nat,j<k+1→C5 ((j:Int)+1)≠(A4 s).getD 1 default:=fun c=>A1k (he c) fun hkn=>by
    have hc:=c.2.2.2;rw [U0 hk hkn,←ht] at hc;rw [hc,Fm] at h;exact absurd h Bk
   refine Co [] (k+1) ⟨by omega,hnext⟩ A7 ⟨rfl,trivial⟩ trivial
  ·have hnext:Gx s→∀j:Nat,j<k+1→C5 ((j:Int)+1)≠(A4 s).getD 1 default:=fun c=>A1k (he c) fun hkn=>by
    have hc:=c.2.2.1;rw [U0 hk hkn] at hc;exact absurd hc (Cy h)
   refine Co [] (k+1) ⟨by omega,hnext⟩ A7 ⟨rfl,trivial⟩ trivial
  have hnext:Gx s→∀j:Nat,j<k+1→C5 ((j:Int)+1)≠(A4 s).getD 1 default:=fun c=>A1k (he c) fun hkn=>by
   rw [hkn,←hp1,Fm] at h;exact absurd h Bk
  refine Co [] (k+1) ⟨by omega,hnext⟩ A7 ⟨rfl,trivial⟩ trivial
 have hk:k=8:=by have:=Cy hk;omega
 obtain ⟨hv,hb⟩:=Jk (s:=s) (fun c=>by
  obtain ⟨j,hj,hn⟩:=A87 c
  exact he c j A7 hn)
 rw [hv,hb];exact Af A0 rfl rfl ⟨⟨rfl,rfl,rfl,.inr ⟨rfl,rfl,_,_,rfl⟩,trivial⟩,rfl,trivial⟩
end Go.Proofs.YtmhcebdkjgkmlaaGreatDoor
