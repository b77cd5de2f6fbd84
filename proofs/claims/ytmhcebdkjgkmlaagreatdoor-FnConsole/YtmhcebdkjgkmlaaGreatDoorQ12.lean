/- Part 12 of the proof that each of the laws FnConsole returns true for every input. No conditions. -/
import Derived.Test.YtmhcebdkjgkmlaaGreatDoorQ11

set_option linter.unusedSimpArgs false
set_option linter.unusedVariables false
set_option maxRecDepth 100000
namespace Go.Proofs.YtmhcebdkjgkmlaaGreatDoor
open Go.Sx
def A2i (l:List Aa) (i:Nat):Prop:=(l.getD i default).op=0∧(l.getD i default).af.turn=0∧(0<i→(l.getD (i-1) default).af.ab≤(l.getD i default).af.ab)
instance (l:List Aa) (i:Nat):Decidable (A2i l i):=by unfold A2i;infer_instance
def B8j (l:List Aa):Prop:=∀i,i<l.length→A2i l i
instance (l:List Aa):Decidable (B8j l):=by unfold B8j;infer_instance
def Jk (n:Int):Prop:= -1000000≤n∧n≤1000000
instance (n:Int):Decidable (Jk n):=by unfold Jk;infer_instance
def A55 (l:List Int):Prop:=∀n∈l,Jk n
instance (l:List Int):Decidable (A55 l):=by unfold A55;infer_instance
def C0w (l:List H6) (i:Nat):Prop:=∀k,k<i→(l.getD k default).ab≠(l.getD i default).ab
instance (l:List H6) (i:Nat):Decidable (C0w l i):=by unfold C0w;infer_instance
def Yz (l:List H6) (i:Nat):Prop:=(0≤(l.getD i default).ab∧(l.getD i default).ab≤3)∧C0w l i
instance (l:List H6) (i:Nat):Decidable (Yz l i):=by unfold Yz;infer_instance
def B2s (l:List H6):Prop:=∀i,i<l.length→Yz l i
instance (l:List H6):Decidable (B2s l):=by unfold B2s;infer_instance
def R6 (n:Nat) (x:Ae):Prop:=(A2j n x.ar∧A2j n x.aa∧A2j n x.au∧Tk x.cells)
instance (n:Nat) (x:Ae):Decidable (R6 n x):=by unfold R6;infer_instance
def Tl (x:Ae):Prop:=(x.al.length=4∧x.ah.length=4∧x.ai.length=4)
instance (x:Ae):Decidable (Tl x):=by unfold Tl;infer_instance
def Cw (n:Nat) (x:Ae):Prop:=R6 n x∧Tl x∧B8j x.au∧A55 x.al∧B2s x.an
instance (n:Nat) (x:Ae):Decidable (Cw n x):=by unfold Cw;infer_instance
def Lw (n:Nat) (x:Ae):Bool:=decide (Cw n x)
theorem A6b {l:List H6}{i:Nat}(h:i≤l.length):(l.take i).any (fun d=>d.ab==(l.getD i default).ab)=false↔C0w l i:=by
 rw [A3j]
 constructor
 ·intro h1 k hk e
  have hm:l.getD k default∈l.take i:=by
   have hk2:k<(l.take i).length:=by simp;omega
   have:(l.take i).getD k default=l.getD k default:=by simp [List.getD,hk]
   rw [←this];exact Al hk2
  exact h1 _ hm (by simpa using e)
 intro h1 d hd c;obtain ⟨k,hk,e⟩:=S4 hd;have hk2:k<i:=by simp at hk;omega
 have hk3:k<l.length:=by omega
 refine h1 k hk2 ?_;rw [List.getD,Dl hk3];simp only [List.getElem_take] at e
 simpa [e] using c
theorem C8s {α:Type} [Inhabited α] {es:Nat}{e:α→List Ag}{xs:List α}{k:Nat}(h:k≤xs.length):Y1 xs.length es (fun i=>e (xs.getD i default)) 0 (k:Int) (Mx es e (xs.take k)):=by
 have:=Xt (es:=es) (e:=e) (xs:=xs) (l:=0) (h:=(k:Int)) A7 A7 A7
 simpa using this
theorem U2 (g:B0)(x:Ae)(hg:g.w≤16777216)(hx:x.w≤16777216):Di 268 [.agg g.c,.agg x.c] [.one (vb (Lw g.ak.length x))]:=by
 have hx2:=hx;simp only [Ae.w] at hx2;refine E7 Tryz.func268 fun W=>?_
 repeat' (first|(refine Ho ?_;conv=>whnf)|(refine Hp ?_;conv=>whnf)|(refine ⟨fun h=>?_,fun h=>?_⟩<;>conv=>whnf)|(refine Aq (Xi g x.ar hg A7) rfl (It ?_);conv=>whnf)|(refine Aq (Xi g x.aa hg A7) rfl (It ?_);conv=>whnf)|(refine Aq (Xi g x.au hg A7) rfl (It ?_);conv=>whnf)|(refine Aq (B57 x.cells A7) rfl (It ?_);conv=>whnf)|(refine Cp ?_;conv=>whnf)|(refine Aj 6 rfl [0,1,2,3,4,5,6,7,8,9,10,11,12,13,14,15,16,17,18,19,20,21,22,23,24,25,26] Am (Ah ?_))|(refine Aj 20 rfl [0,1,2,3,4,5,6,7,8,9,10,11,12] Am (Ah ?_))|fail)
 all_goals try (refine An A0 rfl rfl ⟨A6 vb (Cd fun p=>?_),trivial⟩;obtain ⟨⟨p1,p2,p3,p4⟩,_⟩:=p;simp_all [Yh,Xc];done)
 have hA:R6 g.ak.length x:=by unfold R6;refine ⟨?_,?_,?_,?_⟩<;>simp_all [Yh,Xc]
 rename_i a1 a2 a3
 clear h a1 a2 a3
 have hu:=Dn (A2i x.au);refine Fx [] (fun k:Nat=>[(39,.c (vi k))]) (fun k=>[⟨0,[.c (At g.ak),.c (vi g.aq),.c (vi g.cap)]⟩,⟨1,[.c (A9 x.ar),.c (A9 x.aa),.c (A9 x.au),.c (Ai x.cells),.c (Cn x.al),.c (Df x.ah),.c (Df x.ai),.c (I0 x.an)]⟩]) (fun k=>[]) (fun k=>k≤x.au.length∧N1 (A2i x.au) k) (fun k=>x.au.length-k) fun k hk=>?_;obtain ⟨hk,he⟩:=hk;refine Dv (fun h'=>?_) fun h'=>?_
 ·have h':k<x.au.length:=by omega
  have e1:((k:Int)-1).toNat=k-1:=by omega
  repeat' (first|(refine Ho ?_;conv=>whnf)|(refine Hp ?_;conv=>whnf)|(refine ⟨fun h=>?_,fun h=>?_⟩<;>conv=>whnf)|(refine Cp ?_;conv=>whnf)|(refine Aj 6 rfl [0,1,2,3,4,5,6,7,8,9,10,11,12,13,14,15,16,17,18,19,20,21,22,23,24,25,26] Am (Ah ?_))|(refine Aj 20 rfl [0,1,2,3,4,5,6,7,8,9,10,11,12] Am (Ah ?_))|fail)
  all_goals try (refine An A0 rfl rfl ⟨A6 vb (Cd fun p=>?_),trivial⟩;have p:=p.2.2.1 k h';clear he hA hu;simp only [A2i] at p;simp only [F4] at *;first|omega|(simp only [e1] at *;omega))
  all_goals
   have hs:A2i x.au k:=by clear he hA hu;simp only [A2i];simp only [F4] at *;first|omega|(simp only [e1] at *;omega)
   refine Cc [] (k+1) ⟨by omega,Dm he hs⟩ A7 ⟨rfl,trivial⟩ trivial
 have e:k=x.au.length:=by omega
 have hI:B8j x.au:=fun i hi=>he i A7
 clear he hu
 repeat' (first|(refine Ho ?_;conv=>whnf)|(refine Hp ?_;conv=>whnf)|(refine ⟨fun h=>?_,fun h=>?_⟩<;>conv=>whnf)|(refine Cp ?_;conv=>whnf)|(refine Aj 6 rfl [0,1,2,3,4,5,6,7,8,9,10,11,12,13,14,15,16,17,18,19,20,21,22,23,24,25,26] Am (Ah ?_))|(refine Aj 20 rfl [0,1,2,3,4,5,6,7,8,9,10,11,12] Am (Ah ?_))|fail)
 all_goals try (refine An A0 rfl rfl ⟨A6 vb (Cd fun p=>?_),trivial⟩;obtain ⟨p1,p2,p3⟩:=p.2.1;clear hA hI p;simp only [F4] at *;omega)
 have hL:Tl x:=by clear hA hI;unfold Tl;simp only [F4] at *;omega
 rename_i a1 a2
 clear h a1 a2
 have hu:=Dn (fun i=>Jk (x.al.getD i default));refine Fx [] (fun k:Nat=>[(91,.c (vi k))]) (fun k=>[⟨0,[.c (At g.ak),.c (vi g.aq),.c (vi g.cap)]⟩,⟨1,[.c (A9 x.ar),.c (A9 x.aa),.c (A9 x.au),.c (Ai x.cells),.c (Cn x.al),.c (Df x.ah),.c (Df x.ai),.c (I0 x.an)]⟩]) (fun k=>[]) (fun k=>k≤x.al.length∧N1 (fun i=>Jk (x.al.getD i default)) k) (fun k=>x.al.length-k) fun k hk=>?_;obtain ⟨hk,he⟩:=hk;refine Dv (fun h'=>?_) fun h'=>?_
 ·have h':k<x.al.length:=by omega
  refine B4 ?_;refine Aq (Hm _ _ _) rfl (Ah ?_);refine C1 (fun h=>?_) fun h=>?_
  ·exact An A0 rfl rfl ⟨A6 vb (Cd fun p=>by have:=p.2.2.2.1 _ (Al (d:=default) h');clear hA hI he p;simp only [Jk] at this;simp only [F4] at *;omega),trivial⟩
  refine B4 ?_;refine Cc [] (k+1) ⟨by omega,Dm he (by clear he hA hI;simp only [Jk];simp only [F4] at *;omega)⟩ A7 ⟨rfl,trivial⟩ trivial
 have e:k=x.al.length:=by omega
 have hS:A55 x.al:=Iq (p:=Jk) (e▸he)
 clear he hu
 have hu:=Dn (Yz x.an);refine Fx [] (fun k:Nat=>[(102,.c (vi k))]) (fun k=>[⟨0,[.c (At g.ak),.c (vi g.aq),.c (vi g.cap)]⟩,⟨1,[.c (A9 x.ar),.c (A9 x.aa),.c (A9 x.au),.c (Ai x.cells),.c (Cn x.al),.c (Df x.ah),.c (Df x.ai),.c (I0 x.an)]⟩]) (fun k=>[]) (fun k=>k≤x.an.length∧N1 (Yz x.an) k) (fun k=>x.an.length-k) fun k hk=>?_;obtain ⟨hk,he⟩:=hk;refine Dv (fun h'=>?_) fun h'=>?_
 ·have h':k<x.an.length:=by omega
  repeat' (first|(refine Ho ?_;conv=>whnf)|(refine Hp ?_;conv=>whnf)|(refine ⟨fun h=>?_,fun h=>?_⟩<;>conv=>whnf)|(refine Aq (Hm _ _ _) rfl (Ah ?_))|(refine Cp ?_;conv=>whnf)|(refine Aj 6 rfl [0,1,2,3,4,5,6,7,8,9,10,11,12,13,14,15,16,17,18,19,20,21,22,23,24,25,26] Am (Ah ?_))|(refine Aj 20 rfl [0,1,2,3,4,5,6,7,8,9,10,11,12] Am (Ah ?_))|fail)
  ·exact An A0 rfl rfl ⟨A6 vb (Cd fun p=>by have:=(p.2.2.2.2 k h').1;clear hA hI he hS p;simp only [F4] at *;omega),trivial⟩
  have hd:0≤(x.an.getD k default).ab∧(x.an.getD k default).ab≤3:=by clear hA hI he hS hu;simp only [F4] at *;omega
  refine P9 A0 rfl ⟨by omega,by omega,by omega⟩ (I0 (x.an.take k)) (C8s A7) (Gu ?_);refine Aq (A7d (x.an.take k) (x.an.getD k default).ab (by simp only [F9];omega)) rfl (Gu ?_);refine C1 (fun h2=>?_) fun h2=>?_
  ·exact An A0 rfl rfl ⟨A6 vb (Cd fun p=>by have:=(A6b A7).2 (p.2.2.2.2 k h').2;rw [this] at h2;exact absurd h2 Bq),trivial⟩
  refine B4 ?_;refine Cc [] (k+1) ⟨by omega,Dm he ⟨hd,(A6b A7).1 h2⟩⟩ A7 ⟨rfl,trivial⟩ trivial
 have e:k=x.an.length:=by omega
 exact An A0 rfl rfl ⟨A6 vb (Dc ⟨hA,hL,hI,hS,fun i hi=>he i A7⟩),trivial⟩
theorem B4s (g:B0)(x:Ae)(hg:g.w≤16777216)(hx:x.w≤16777216):Di 211 [.agg g.c,.agg x.c] [.one (vb (Lw g.ak.length x))]:=by
 have hx2:=hx;simp only [Ae.w] at hx2;refine E7 Tryz.func211 fun W=>?_
 repeat' (first|(refine Ho ?_;conv=>whnf)|(refine Hp ?_;conv=>whnf)|(refine ⟨fun h=>?_,fun h=>?_⟩<;>conv=>whnf)|(refine Aq (Xv g x.ar hg A7) rfl (It ?_);conv=>whnf)|(refine Aq (Xv g x.aa hg A7) rfl (It ?_);conv=>whnf)|(refine Aq (Xv g x.au hg A7) rfl (It ?_);conv=>whnf)|(refine Aq (B7u x.cells A7) rfl (It ?_);conv=>whnf)|(refine Cp ?_;conv=>whnf)|(refine Aj 7 rfl [0,1,2,3,4,5,6,7,8,9,10,11,12,13,14,15,16,17,18,19,20,21,22,23,24,25,26,27,28,29,30,31,32,33,34,35,36,37,38] Am (Ah ?_))|(refine Aj 22 rfl [0,1,2,3,4,5,6,7,8,9,10,11,12] Am (Ah ?_))|fail)
 all_goals try (refine An A0 rfl rfl ⟨A6 vb (Cd fun p=>?_),trivial⟩;obtain ⟨⟨p1,p2,p3,p4⟩,⟨p5,p6,p7⟩,_⟩:=p;first|(simp only [F4] at *;omega)|(simp_all [Yh,Xc];done))
 have hA:R6 g.ak.length x:=by unfold R6;refine ⟨?_,?_,?_,?_⟩<;>simp_all [Yh,Xc]
 have hL:Tl x:=by clear hA;unfold Tl;simp only [F4] at *;omega
 rename_i a1 a2 a3 a4 a5 a6
 clear h a1 a2 a3 a4 a5 a6
 have hu:=Dn (A2i x.au);refine Fx [] (fun k:Nat=>[(6,.c (vi k))]) (fun k=>[⟨0,[.c (At g.ak),.c (vi g.aq),.c (vi g.cap)]⟩,⟨1,[.c (A9 x.ar),.c (A9 x.aa),.c (A9 x.au),.c (Ai x.cells),.c (Cn x.al),.c (Df x.ah),.c (Df x.ai),.c (I0 x.an)]⟩]) (fun k=>[]) (fun k=>k≤x.au.length∧N1 (A2i x.au) k) (fun k=>x.au.length-k) fun k hk=>?_;obtain ⟨hk,he⟩:=hk;refine Dv (fun h'=>?_) fun h'=>?_
 ·have h':k<x.au.length:=by omega
  have e1:((k:Int)-1).toNat=k-1:=by omega
  repeat' (first|(refine Ho ?_;conv=>whnf)|(refine Hp ?_;conv=>whnf)|(refine ⟨fun h=>?_,fun h=>?_⟩<;>conv=>whnf)|(refine Cp ?_;conv=>whnf)|(refine Aj 7 rfl [0,1,2,3,4,5,6,7,8,9,10,11,12,13,14,15,16,17,18,19,20,21,22,23,24,25,26,27,28,29,30,31,32,33,34,35,36,37,38] Am (Ah ?_))|(refine Aj 22 rfl [0,1,2,3,4,5,6,7,8,9,10,11,12] Am (Ah ?_))|fail)
  all_goals try (refine An A0 rfl rfl ⟨A6 vb (Cd fun p=>?_),trivial⟩;have p:=p.2.2.1 k h';clear he hA hL hu;simp only [A2i] at p;simp only [F4] at *;first|omega|(simp only [e1] at *;omega))
  all_goals
   have hs:A2i x.au k:=by clear he hA hL hu;simp only [A2i];simp only [F4] at *;first|omega|(simp only [e1] at *;omega)
   refine Cc [] (k+1) ⟨by omega,Dm he hs⟩ A7 ⟨rfl,trivial⟩ trivial
 have e:k=x.au.length:=by omega
 have hI:B8j x.au:=fun i hi=>he i A7
 clear he hu
 have hsl:x.al.length=4:=hL.1;have hu:=Dn (fun i=>Jk (x.al.getD i default));refine Fx [] (fun k:Nat=>[(7,.c (vi k))]) (fun k=>[⟨0,[.c (At g.ak),.c (vi g.aq),.c (vi g.cap)]⟩,⟨1,[.c (A9 x.ar),.c (A9 x.aa),.c (A9 x.au),.c (Ai x.cells),.c (Cn x.al),.c (Df x.ah),.c (Df x.ai),.c (I0 x.an)]⟩]) (fun k=>[]) (fun k=>k≤x.al.length∧N1 (fun i=>Jk (x.al.getD i default)) k) (fun k=>x.al.length-k) fun k hk=>?_;obtain ⟨hk,he⟩:=hk;refine Dv (fun h'=>?_) fun h'=>?_
 ·have h':k<x.al.length:=by omega
  refine B4 ?_;refine Aq (Hg _ _ _) rfl (Ah ?_);refine C1 (fun h=>?_) fun h=>?_
  ·exact An A0 rfl rfl ⟨A6 vb (Cd fun p=>by have:=p.2.2.2.1 _ (Al (d:=default) h');clear hA hI he p;simp only [Jk] at this;simp only [F4] at *;omega),trivial⟩
  refine B4 ?_;refine Cc [] (k+1) ⟨by omega,Dm he (by clear he hA hI;simp only [Jk];simp only [F4] at *;omega)⟩ A7 ⟨rfl,trivial⟩ trivial
 have e:k=x.al.length:=by omega
 have hS:A55 x.al:=Iq (p:=Jk) (e▸he)
 clear he hu
 have hu:=Dn (Yz x.an);refine Fx [] (fun k:Nat=>[(8,.c (vi k))]) (fun k=>[⟨0,[.c (At g.ak),.c (vi g.aq),.c (vi g.cap)]⟩,⟨1,[.c (A9 x.ar),.c (A9 x.aa),.c (A9 x.au),.c (Ai x.cells),.c (Cn x.al),.c (Df x.ah),.c (Df x.ai),.c (I0 x.an)]⟩]) (fun k=>[]) (fun k=>k≤x.an.length∧N1 (Yz x.an) k) (fun k=>x.an.length-k) fun k hk=>?_;obtain ⟨hk,he⟩:=hk;refine Dv (fun h'=>?_) fun h'=>?_
 ·have h':k<x.an.length:=by omega
  refine B4 ?_;refine Aq (Hg _ _ _) rfl (Ah ?_);refine C1 (fun h=>?_) fun h=>?_
  ·exact An A0 rfl rfl ⟨A6 vb (Cd fun p=>by have:=(p.2.2.2.2 k h').1;clear hA hI he hS p;simp only [F4] at *;omega),trivial⟩
  have hd:0≤(x.an.getD k default).ab∧(x.an.getD k default).ab≤3:=by clear hA hI he hS hu;simp only [F4] at *;omega
  have hv:=Dn (fun i=>(x.an.getD i default).ab≠(x.an.getD k default).ab);refine Fx [] (fun j:Nat=>[(9,.c (vi j))]) (fun j=>[⟨0,[.c (At g.ak),.c (vi g.aq),.c (vi g.cap)]⟩,⟨1,[.c (A9 x.ar),.c (A9 x.aa),.c (A9 x.au),.c (Ai x.cells),.c (Cn x.al),.c (Df x.ah),.c (Df x.ai),.c (I0 x.an)]⟩]) (fun j=>[]) (fun j=>j≤k∧N1 (fun i=>(x.an.getD i default).ab≠(x.an.getD k default).ab) j) (fun j=>k-j) fun j hj=>?_;obtain ⟨hj,hej⟩:=hj;refine Dv (fun h3=>?_) fun h3=>?_
  ·have h3:j<k:=by omega
   first|(refine Aj 7 rfl [0,1,2,3,4,5,6,7,8,9,10,11,12,13,14,15,16,17,18,19,20,21,22,23,24,25,26,27,28,29,30,31,32,33,34,35,36,37,38] Am (Ah ?_))|(refine Aj 22 rfl [0,1,2,3,4,5,6,7,8,9,10,11,12] Am (Ah ?_))
   refine B4 ?_;refine Lf (fun h4=>?_) fun h4=>?_
   ·exact An A0 rfl rfl ⟨A6 vb (Cd fun p=>(p.2.2.2.2 k h').2 j h3 h4),trivial⟩
   refine B4 ?_;refine Cc [] (j+1) ⟨by omega,Dm hej h4⟩ A7 ⟨rfl,trivial⟩ trivial
  have e:j=k:=by omega
  refine B4 ?_;refine Cc [] (k+1) ⟨by omega,Dm he ⟨hd,fun i hi=>hej i A7⟩⟩ A7 ⟨rfl,trivial⟩ trivial
 have e:k=x.an.length:=by omega
 exact An A0 rfl rfl ⟨A6 vb (Dc ⟨hA,hL,hI,hS,fun i hi=>he i A7⟩),trivial⟩
theorem Kp (g:B0)(hg:g.w≤16777216):Di 83 [.agg g.c] [.one (vb (F2 g))]:=by
 have hn:=B0.nodes_le hg;have hu:=Dn (R4 g);refine E7 Tryz.func83 fun W=>?_
 repeat' (first|(refine Ho ?_;conv=>whnf)|(refine Hp ?_;conv=>whnf)|(refine ⟨fun h=>?_,fun h=>?_⟩<;>conv=>whnf)|(refine Aq (Hm _ _ _) rfl (Ah ?_))|(refine Cp ?_;conv=>whnf)|fail)
 all_goals try (refine An A0 rfl rfl ⟨A6 vb (Cd fun p=>?_),trivial⟩;have p1:=p.1;have p2:=p.2.1;have p3:=p.2.2.1;clear p;simp only [F4] at * <;>omega)
 refine Fx [] (fun k:Nat=>[(28,.c (vi k))]) (fun k=>[⟨0,[.c (At g.ak),.c (vi g.aq),.c (vi g.cap)]⟩]) (fun k=>[]) (fun k=>k≤g.ak.length∧N1 (R4 g) k) (fun k=>g.ak.length-k) fun k hk=>?_;obtain ⟨hk,he⟩:=hk;refine Dv (fun h'=>?_) fun h'=>?_
 ·have h':k<g.ak.length:=by omega
  have hw:=B0.node_le hg h';have hq:(g.ak.getD k default).ax.length≤16777216:=hw;have hv:=Dn (fun j=>Vc g k (g.ak.getD k default) ((g.ak.getD k default).ax.getD j default))
  repeat' (first|(refine Ho ?_;conv=>whnf)|(refine Hp ?_;conv=>whnf)|(refine ⟨fun h=>?_,fun h=>?_⟩<;>conv=>whnf)|(refine Aq (U0 (g.ak.getD k default) hw) rfl (It ?_);conv=>whnf)|(refine Cp ?_;conv=>whnf)|fail)
  ·exact An A0 rfl rfl ⟨A6 vb (Cd fun p=>by rw [show Lj (g.ak.getD k default)=true from Dc (p.2.2.2 k h').1] at h;exact absurd h Bq),trivial⟩
  ·exact An A0 rfl rfl ⟨A6 vb (Cd fun p=>C7s h (p.2.2.2 k h').2.1),trivial⟩
  rename_i hno
  have hN:Jg (g.ak.getD k default):=Bn (show Lj (g.ak.getD k default)=true by cases hq2:Lj (g.ak.getD k default)<;>simp_all only [Bool.not_false,A9v])
  have hK:(g.ak.getD k default).kind=1↔k=0:=C7r h;have hO:=hN.2.2.2.2.2.2.2.2;refine Fx [] (fun j:Nat=>[(47,.c (vi j))]) (fun j=>[⟨0,[.c (At g.ak),.c (vi g.aq),.c (vi g.cap)]⟩,⟨1,[.c (vi (g.ak.getD k default).kind),.c (vi (g.ak.getD k default).a),.c (vi (g.ak.getD k default).b),.c (Cn (g.ak.getD k default).ax)]⟩]) (fun j=>[]) (fun j=>j≤(g.ak.getD k default).ax.length∧N1 (fun j=>Vc g k (g.ak.getD k default) ((g.ak.getD k default).ax.getD j default)) j) (fun j=>(g.ak.getD k default).ax.length-j) fun j hj=>?_;obtain ⟨hj,hej⟩:=hj;refine Dv (fun h2=>?_) fun h2=>?_
  ·have h2:j<(g.ak.getD k default).ax.length:=by first|omega|(simp only [Bv] at h2;omega)
   have hb:=hO _ (Al (d:=default) h2)
   repeat' (first|(refine Ho ?_;conv=>whnf)|(refine Hp ?_;conv=>whnf)|(refine ⟨fun h=>?_,fun h=>?_⟩<;>conv=>whnf)|(refine Cp ?_;conv=>whnf)|fail)
   all_goals try (refine An A0 rfl rfl ⟨A6 vb (Cd fun p=>?_),trivial⟩;have q:=(p.2.2.2 k h').2.2 _ (Al (d:=default) h2);clear p hej he hv hu hN hK hO;simp only [Vc,A2u] at q;simp only [F4] at * <;>omega)
   all_goals
    refine Cc [] (j+1) ⟨by omega,Dm hej (by clear hej he hv hu hN hK hO;simp only [Vc,A2u];simp only [F4] at * <;>omega)⟩ A7 ⟨rfl,trivial⟩ trivial
  have e:j=(g.ak.getD k default).ax.length:=by first|omega|(simp only [Bv] at h2;omega)
  refine B4 ?_;refine Cc [] (k+1) ⟨by omega,Dm he ⟨hN,hK,Iq (e▸hej)⟩⟩ A7 ⟨rfl,trivial⟩ trivial
 have e:k=g.ak.length:=by omega
 exact An A0 rfl rfl ⟨A6 vb (Dc ⟨by simp only [F4] at * <;>omega,by simp only [F4] at * <;>omega,by simp only [F4] at * <;>omega,e▸he⟩),trivial⟩
end Go.Proofs.YtmhcebdkjgkmlaaGreatDoor
