/- Part 9 of the proof that each of the laws FnExactWhoIsDone, FnExactResultText, FnExactRunText returns true for every input. No conditions. -/
import Derived.Test.YtmhcebdkjgkmlaaGreatDoorP8

set_option linter.unusedSimpArgs false
set_option linter.unusedVariables false
set_option maxRecDepth 100000
namespace Go.Proofs.YtmhcebdkjgkmlaaGreatDoor
open Go.Sx
def A2h (l:List Aa) (i:Nat):Prop:=(l.getD i default).op=0∧(l.getD i default).am.turn=0∧(0<i→(l.getD (i-1) default).am.ab≤(l.getD i default).am.ab)
instance (l:List Aa) (i:Nat):Decidable (A2h l i):=by unfold A2h;infer_instance
def B8k (l:List Aa):Prop:=∀i,i<l.length→A2h l i
instance (l:List Aa):Decidable (B8k l):=by unfold B8k;infer_instance
def Jh (n:Int):Prop:= -1000000≤n∧n≤1000000
instance (n:Int):Decidable (Jh n):=by unfold Jh;infer_instance
def A6d (l:List Int):Prop:=∀n∈l,Jh n
instance (l:List Int):Decidable (A6d l):=by unfold A6d;infer_instance
def C00 (l:List Gv) (i:Nat):Prop:=∀k,k<i→(l.getD k default).ab≠(l.getD i default).ab
instance (l:List Gv) (i:Nat):Decidable (C00 l i):=by unfold C00;infer_instance
def Yy (l:List Gv) (i:Nat):Prop:=(0≤(l.getD i default).ab∧(l.getD i default).ab≤3)∧C00 l i
instance (l:List Gv) (i:Nat):Decidable (Yy l i):=by unfold Yy;infer_instance
def B2r (l:List Gv):Prop:=∀i,i<l.length→Yy l i
instance (l:List Gv):Decidable (B2r l):=by unfold B2r;infer_instance
def R3 (n:Nat) (x:Ae):Prop:=(A2i n x.ar∧A2i n x.ae∧A2i n x.au∧Ti x.cells)
instance (n:Nat) (x:Ae):Decidable (R3 n x):=by unfold R3;infer_instance
def Tj (x:Ae):Prop:=(x.ah.length=4∧x.al.length=4∧x.an.length=4)
instance (x:Ae):Decidable (Tj x):=by unfold Tj;infer_instance
def Cp (n:Nat) (x:Ae):Prop:=R3 n x∧Tj x∧B8k x.au∧A6d x.ah∧B2r x.ai
instance (n:Nat) (x:Ae):Decidable (Cp n x):=by unfold Cp;infer_instance
def Ls (n:Nat) (x:Ae):Bool:=decide (Cp n x)
theorem A6l {l:List Gv}{i:Nat}(h:i≤l.length):(l.take i).any (fun d=>d.ab==(l.getD i default).ab)=false↔C00 l i:=by
 rw [A3n]
 constructor
 ·intro h1 k hk e
  have hm:l.getD k default∈l.take i:=by
   have hk2:k<(l.take i).length:=by simp;omega
   have:(l.take i).getD k default=l.getD k default:=by simp [List.getD,hk]
   rw [←this];exact Am hk2
  exact h1 _ hm (by simpa using e)
 intro h1 d hd c;obtain ⟨k,hk,e⟩:=Ry hd;have hk2:k<i:=by simp at hk;omega
 have hk3:k<l.length:=by omega
 refine h1 k hk2 ?_;rw [List.getD,Cl hk3];simp only [List.getElem_take] at e
 simpa [e] using c
theorem C8m {α:Type} [Inhabited α] {es:Nat}{e:α→List Ag}{xs:List α}{k:Nat}(h:k≤xs.length):Xz xs.length es (fun i=>e (xs.getD i default)) 0 (k:Int) (Mr es e (xs.take k)):=by
 have:=Xr (es:=es) (e:=e) (xs:=xs) (l:=0) (h:=(k:Int)) A7 A7 A7
 simpa using this
theorem U0 (g:B2)(x:Ae)(hg:g.w≤16777216)(hx:x.w≤16777216):Dj 268 [.agg g.c,.agg x.c] [.one (vb (Ls g.ak.length x))]:=by
 have hx2:=hx;simp only [Ae.w] at hx2;refine E3 Tryz.func268 fun W=>?_
 repeat' (first|(refine I1 ?_;conv=>whnf)|(refine I2 ?_;conv=>whnf)|(refine ⟨fun h=>?_,fun h=>?_⟩<;>conv=>whnf)|(refine As (Xh g x.ar hg A7) rfl (Iv ?_);conv=>whnf)|(refine As (Xh g x.ae hg A7) rfl (Iv ?_);conv=>whnf)|(refine As (Xh g x.au hg A7) rfl (Iv ?_);conv=>whnf)|(refine As (B57 x.cells A7) rfl (Iv ?_);conv=>whnf)|(refine Co ?_;conv=>whnf)|(refine Al 6 rfl [0,1,2,3,4,5,6,7,8,9,10,11,12,13,14,15,16,17,18,19,20,21,22,23,24,25,26] Ah (Aj ?_))|(refine Al 20 rfl [0,1,2,3,4,5,6,7,8,9,10,11,12] Ah (Aj ?_))|fail)
 all_goals try (refine An A0 rfl rfl ⟨A6 vb (Cb fun p=>?_),trivial⟩;obtain ⟨⟨p1,p2,p3,p4⟩,_⟩:=p;simp_all [Yf,Xb];done)
 have hA:R3 g.ak.length x:=by unfold R3;refine ⟨?_,?_,?_,?_⟩<;>simp_all [Yf,Xb]
 rename_i a1 a2 a3
 clear h a1 a2 a3
 have hu:=Di (A2h x.au);refine Fv [] (fun k:Nat=>[(39,.c (vi k))]) (fun k=>[⟨0,[.c (Ax g.ak),.c (vi g.aq),.c (vi g.cap)]⟩,⟨1,[.c (A9 x.ar),.c (A9 x.ae),.c (A9 x.au),.c (Ai x.cells),.c (Ej x.ah),.c (D9 x.al),.c (D9 x.an),.c (Hu x.ai)]⟩]) (fun k=>[]) (fun k=>k≤x.au.length∧Mu (A2h x.au) k) (fun k=>x.au.length-k) fun k hk=>?_;obtain ⟨hk,he⟩:=hk;refine Eh (fun h'=>?_) fun h'=>?_
 ·have h':k<x.au.length:=by omega
  have e1:((k:Int)-1).toNat=k-1:=by omega
  repeat' (first|(refine I1 ?_;conv=>whnf)|(refine I2 ?_;conv=>whnf)|(refine ⟨fun h=>?_,fun h=>?_⟩<;>conv=>whnf)|(refine Co ?_;conv=>whnf)|(refine Al 6 rfl [0,1,2,3,4,5,6,7,8,9,10,11,12,13,14,15,16,17,18,19,20,21,22,23,24,25,26] Ah (Aj ?_))|(refine Al 20 rfl [0,1,2,3,4,5,6,7,8,9,10,11,12] Ah (Aj ?_))|fail)
  all_goals try (refine An A0 rfl rfl ⟨A6 vb (Cb fun p=>?_),trivial⟩;have p:=p.2.2.1 k h';clear he hA hu;simp only [A2h] at p;simp only [Ey] at *;first|omega|(simp only [e1] at *;omega))
  all_goals
   have hs:A2h x.au k:=by clear he hA hu;simp only [A2h];simp only [Ey] at *;first|omega|(simp only [e1] at *;omega)
   refine Ci [] (k+1) ⟨by omega,Dh he hs⟩ A7 ⟨rfl,trivial⟩ trivial
 have e:k=x.au.length:=by omega
 have hI:B8k x.au:=fun i hi=>he i A7
 clear he hu
 repeat' (first|(refine I1 ?_;conv=>whnf)|(refine I2 ?_;conv=>whnf)|(refine ⟨fun h=>?_,fun h=>?_⟩<;>conv=>whnf)|(refine Co ?_;conv=>whnf)|(refine Al 6 rfl [0,1,2,3,4,5,6,7,8,9,10,11,12,13,14,15,16,17,18,19,20,21,22,23,24,25,26] Ah (Aj ?_))|(refine Al 20 rfl [0,1,2,3,4,5,6,7,8,9,10,11,12] Ah (Aj ?_))|fail)
 all_goals try (refine An A0 rfl rfl ⟨A6 vb (Cb fun p=>?_),trivial⟩;obtain ⟨p1,p2,p3⟩:=p.2.1;clear hA hI p;simp only [Ey] at *;omega)
 have hL:Tj x:=by clear hA hI;unfold Tj;simp only [Ey] at *;omega
 rename_i a1 a2
 clear h a1 a2
 have hu:=Di (fun i=>Jh (x.ah.getD i default));refine Fv [] (fun k:Nat=>[(91,.c (vi k))]) (fun k=>[⟨0,[.c (Ax g.ak),.c (vi g.aq),.c (vi g.cap)]⟩,⟨1,[.c (A9 x.ar),.c (A9 x.ae),.c (A9 x.au),.c (Ai x.cells),.c (Ej x.ah),.c (D9 x.al),.c (D9 x.an),.c (Hu x.ai)]⟩]) (fun k=>[]) (fun k=>k≤x.ah.length∧Mu (fun i=>Jh (x.ah.getD i default)) k) (fun k=>x.ah.length-k) fun k hk=>?_;obtain ⟨hk,he⟩:=hk;refine Eh (fun h'=>?_) fun h'=>?_
 ·have h':k<x.ah.length:=by omega
  refine B8 ?_;refine As (H9 _ _ _) rfl (Aj ?_);refine Cc (fun h=>?_) fun h=>?_
  ·exact An A0 rfl rfl ⟨A6 vb (Cb fun p=>by have:=p.2.2.2.1 _ (Am (d:=default) h');clear hA hI he p;simp only [Jh] at this;simp only [Ey] at *;omega),trivial⟩
  refine B8 ?_;refine Ci [] (k+1) ⟨by omega,Dh he (by clear he hA hI;simp only [Jh];simp only [Ey] at *;omega)⟩ A7 ⟨rfl,trivial⟩ trivial
 have e:k=x.ah.length:=by omega
 have hS:A6d x.ah:=Im (p:=Jh) (e▸he)
 clear he hu
 have hu:=Di (Yy x.ai);refine Fv [] (fun k:Nat=>[(102,.c (vi k))]) (fun k=>[⟨0,[.c (Ax g.ak),.c (vi g.aq),.c (vi g.cap)]⟩,⟨1,[.c (A9 x.ar),.c (A9 x.ae),.c (A9 x.au),.c (Ai x.cells),.c (Ej x.ah),.c (D9 x.al),.c (D9 x.an),.c (Hu x.ai)]⟩]) (fun k=>[]) (fun k=>k≤x.ai.length∧Mu (Yy x.ai) k) (fun k=>x.ai.length-k) fun k hk=>?_;obtain ⟨hk,he⟩:=hk;refine Eh (fun h'=>?_) fun h'=>?_
 ·have h':k<x.ai.length:=by omega
  repeat' (first|(refine I1 ?_;conv=>whnf)|(refine I2 ?_;conv=>whnf)|(refine ⟨fun h=>?_,fun h=>?_⟩<;>conv=>whnf)|(refine As (H9 _ _ _) rfl (Aj ?_))|(refine Co ?_;conv=>whnf)|(refine Al 6 rfl [0,1,2,3,4,5,6,7,8,9,10,11,12,13,14,15,16,17,18,19,20,21,22,23,24,25,26] Ah (Aj ?_))|(refine Al 20 rfl [0,1,2,3,4,5,6,7,8,9,10,11,12] Ah (Aj ?_))|fail)
  ·exact An A0 rfl rfl ⟨A6 vb (Cb fun p=>by have:=(p.2.2.2.2 k h').1;clear hA hI he hS p;simp only [Ey] at *;omega),trivial⟩
  have hd:0≤(x.ai.getD k default).ab∧(x.ai.getD k default).ab≤3:=by clear hA hI he hS hu;simp only [Ey] at *;omega
  refine P3 A0 rfl ⟨by omega,by omega,by omega⟩ (Hu (x.ai.take k)) (C8m A7) (Hd ?_);refine As (A7k (x.ai.take k) (x.ai.getD k default).ab (by simp only [Eo];omega)) rfl (Hd ?_);refine Cc (fun h2=>?_) fun h2=>?_
  ·exact An A0 rfl rfl ⟨A6 vb (Cb fun p=>by have:=(A6l A7).2 (p.2.2.2.2 k h').2;rw [this] at h2;exact absurd h2 Cw),trivial⟩
  refine B8 ?_;refine Ci [] (k+1) ⟨by omega,Dh he ⟨hd,(A6l A7).1 h2⟩⟩ A7 ⟨rfl,trivial⟩ trivial
 have e:k=x.ai.length:=by omega
 exact An A0 rfl rfl ⟨A6 vb (Dg ⟨hA,hL,hI,hS,fun i hi=>he i A7⟩),trivial⟩
theorem B4s (g:B2)(x:Ae)(hg:g.w≤16777216)(hx:x.w≤16777216):Dj 211 [.agg g.c,.agg x.c] [.one (vb (Ls g.ak.length x))]:=by
 have hx2:=hx;simp only [Ae.w] at hx2;refine E3 Tryz.func211 fun W=>?_
 repeat' (first|(refine I1 ?_;conv=>whnf)|(refine I2 ?_;conv=>whnf)|(refine ⟨fun h=>?_,fun h=>?_⟩<;>conv=>whnf)|(refine As (Xt g x.ar hg A7) rfl (Iv ?_);conv=>whnf)|(refine As (Xt g x.ae hg A7) rfl (Iv ?_);conv=>whnf)|(refine As (Xt g x.au hg A7) rfl (Iv ?_);conv=>whnf)|(refine As (B7x x.cells A7) rfl (Iv ?_);conv=>whnf)|(refine Co ?_;conv=>whnf)|(refine Al 7 rfl [0,1,2,3,4,5,6,7,8,9,10,11,12,13,14,15,16,17,18,19,20,21,22,23,24,25,26,27,28,29,30,31,32,33,34,35,36,37,38] Ah (Aj ?_))|(refine Al 22 rfl [0,1,2,3,4,5,6,7,8,9,10,11,12] Ah (Aj ?_))|fail)
 all_goals try (refine An A0 rfl rfl ⟨A6 vb (Cb fun p=>?_),trivial⟩;obtain ⟨⟨p1,p2,p3,p4⟩,⟨p5,p6,p7⟩,_⟩:=p;first|(simp only [Ey] at *;omega)|(simp_all [Yf,Xb];done))
 have hA:R3 g.ak.length x:=by unfold R3;refine ⟨?_,?_,?_,?_⟩<;>simp_all [Yf,Xb]
 have hL:Tj x:=by clear hA;unfold Tj;simp only [Ey] at *;omega
 rename_i a1 a2 a3 a4 a5 a6
 clear h a1 a2 a3 a4 a5 a6
 have hu:=Di (A2h x.au);refine Fv [] (fun k:Nat=>[(6,.c (vi k))]) (fun k=>[⟨0,[.c (Ax g.ak),.c (vi g.aq),.c (vi g.cap)]⟩,⟨1,[.c (A9 x.ar),.c (A9 x.ae),.c (A9 x.au),.c (Ai x.cells),.c (Ej x.ah),.c (D9 x.al),.c (D9 x.an),.c (Hu x.ai)]⟩]) (fun k=>[]) (fun k=>k≤x.au.length∧Mu (A2h x.au) k) (fun k=>x.au.length-k) fun k hk=>?_;obtain ⟨hk,he⟩:=hk;refine Eh (fun h'=>?_) fun h'=>?_
 ·have h':k<x.au.length:=by omega
  have e1:((k:Int)-1).toNat=k-1:=by omega
  repeat' (first|(refine I1 ?_;conv=>whnf)|(refine I2 ?_;conv=>whnf)|(refine ⟨fun h=>?_,fun h=>?_⟩<;>conv=>whnf)|(refine Co ?_;conv=>whnf)|(refine Al 7 rfl [0,1,2,3,4,5,6,7,8,9,10,11,12,13,14,15,16,17,18,19,20,21,22,23,24,25,26,27,28,29,30,31,32,33,34,35,36,37,38] Ah (Aj ?_))|(refine Al 22 rfl [0,1,2,3,4,5,6,7,8,9,10,11,12] Ah (Aj ?_))|fail)
  all_goals try (refine An A0 rfl rfl ⟨A6 vb (Cb fun p=>?_),trivial⟩;have p:=p.2.2.1 k h';clear he hA hL hu;simp only [A2h] at p;simp only [Ey] at *;first|omega|(simp only [e1] at *;omega))
  all_goals
   have hs:A2h x.au k:=by clear he hA hL hu;simp only [A2h];simp only [Ey] at *;first|omega|(simp only [e1] at *;omega)
   refine Ci [] (k+1) ⟨by omega,Dh he hs⟩ A7 ⟨rfl,trivial⟩ trivial
 have e:k=x.au.length:=by omega
 have hI:B8k x.au:=fun i hi=>he i A7
 clear he hu
 have hsl:x.ah.length=4:=hL.1;have hu:=Di (fun i=>Jh (x.ah.getD i default));refine Fv [] (fun k:Nat=>[(7,.c (vi k))]) (fun k=>[⟨0,[.c (Ax g.ak),.c (vi g.aq),.c (vi g.cap)]⟩,⟨1,[.c (A9 x.ar),.c (A9 x.ae),.c (A9 x.au),.c (Ai x.cells),.c (Ej x.ah),.c (D9 x.al),.c (D9 x.an),.c (Hu x.ai)]⟩]) (fun k=>[]) (fun k=>k≤x.ah.length∧Mu (fun i=>Jh (x.ah.getD i default)) k) (fun k=>x.ah.length-k) fun k hk=>?_;obtain ⟨hk,he⟩:=hk;refine Eh (fun h'=>?_) fun h'=>?_
 ·have h':k<x.ah.length:=by omega
  refine B8 ?_;refine As (H3 _ _ _) rfl (Aj ?_);refine Cc (fun h=>?_) fun h=>?_
  ·exact An A0 rfl rfl ⟨A6 vb (Cb fun p=>by have:=p.2.2.2.1 _ (Am (d:=default) h');clear hA hI he p;simp only [Jh] at this;simp only [Ey] at *;omega),trivial⟩
  refine B8 ?_;refine Ci [] (k+1) ⟨by omega,Dh he (by clear he hA hI;simp only [Jh];simp only [Ey] at *;omega)⟩ A7 ⟨rfl,trivial⟩ trivial
 have e:k=x.ah.length:=by omega
 have hS:A6d x.ah:=Im (p:=Jh) (e▸he)
 clear he hu
 have hu:=Di (Yy x.ai);refine Fv [] (fun k:Nat=>[(8,.c (vi k))]) (fun k=>[⟨0,[.c (Ax g.ak),.c (vi g.aq),.c (vi g.cap)]⟩,⟨1,[.c (A9 x.ar),.c (A9 x.ae),.c (A9 x.au),.c (Ai x.cells),.c (Ej x.ah),.c (D9 x.al),.c (D9 x.an),.c (Hu x.ai)]⟩]) (fun k=>[]) (fun k=>k≤x.ai.length∧Mu (Yy x.ai) k) (fun k=>x.ai.length-k) fun k hk=>?_;obtain ⟨hk,he⟩:=hk;refine Eh (fun h'=>?_) fun h'=>?_
 ·have h':k<x.ai.length:=by omega
  refine B8 ?_;refine As (H3 _ _ _) rfl (Aj ?_);refine Cc (fun h=>?_) fun h=>?_
  ·exact An A0 rfl rfl ⟨A6 vb (Cb fun p=>by have:=(p.2.2.2.2 k h').1;clear hA hI he hS p;simp only [Ey] at *;omega),trivial⟩
  have hd:0≤(x.ai.getD k default).ab∧(x.ai.getD k default).ab≤3:=by clear hA hI he hS hu;simp only [Ey] at *;omega
  have hv:=Di (fun i=>(x.ai.getD i default).ab≠(x.ai.getD k default).ab);refine Fv [] (fun j:Nat=>[(9,.c (vi j))]) (fun j=>[⟨0,[.c (Ax g.ak),.c (vi g.aq),.c (vi g.cap)]⟩,⟨1,[.c (A9 x.ar),.c (A9 x.ae),.c (A9 x.au),.c (Ai x.cells),.c (Ej x.ah),.c (D9 x.al),.c (D9 x.an),.c (Hu x.ai)]⟩]) (fun j=>[]) (fun j=>j≤k∧Mu (fun i=>(x.ai.getD i default).ab≠(x.ai.getD k default).ab) j) (fun j=>k-j) fun j hj=>?_;obtain ⟨hj,hej⟩:=hj;refine Eh (fun h3=>?_) fun h3=>?_
  ·have h3:j<k:=by omega
   first|(refine Al 7 rfl [0,1,2,3,4,5,6,7,8,9,10,11,12,13,14,15,16,17,18,19,20,21,22,23,24,25,26,27,28,29,30,31,32,33,34,35,36,37,38] Ah (Aj ?_))|(refine Al 22 rfl [0,1,2,3,4,5,6,7,8,9,10,11,12] Ah (Aj ?_))
   refine B8 ?_;refine L8 (fun h4=>?_) fun h4=>?_
   ·exact An A0 rfl rfl ⟨A6 vb (Cb fun p=>(p.2.2.2.2 k h').2 j h3 h4),trivial⟩
   refine B8 ?_;refine Ci [] (j+1) ⟨by omega,Dh hej h4⟩ A7 ⟨rfl,trivial⟩ trivial
  have e:j=k:=by omega
  refine B8 ?_;refine Ci [] (k+1) ⟨by omega,Dh he ⟨hd,fun i hi=>hej i A7⟩⟩ A7 ⟨rfl,trivial⟩ trivial
 have e:k=x.ai.length:=by omega
 exact An A0 rfl rfl ⟨A6 vb (Dg ⟨hA,hL,hI,hS,fun i hi=>he i A7⟩),trivial⟩
theorem Kj (g:B2)(hg:g.w≤16777216):Dj 83 [.agg g.c] [.one (vb (F5 g))]:=by
 have hn:=B2.nodes_le hg;have hu:=Di (R0 g);refine E3 Tryz.func83 fun W=>?_
 repeat' (first|(refine I1 ?_;conv=>whnf)|(refine I2 ?_;conv=>whnf)|(refine ⟨fun h=>?_,fun h=>?_⟩<;>conv=>whnf)|(refine As (H9 _ _ _) rfl (Aj ?_))|(refine Co ?_;conv=>whnf)|fail)
 all_goals try (refine An A0 rfl rfl ⟨A6 vb (Cb fun p=>?_),trivial⟩;have p1:=p.1;have p2:=p.2.1;have p3:=p.2.2.1;clear p;simp only [Ey] at * <;>omega)
 refine Fv [] (fun k:Nat=>[(28,.c (vi k))]) (fun k=>[⟨0,[.c (Ax g.ak),.c (vi g.aq),.c (vi g.cap)]⟩]) (fun k=>[]) (fun k=>k≤g.ak.length∧Mu (R0 g) k) (fun k=>g.ak.length-k) fun k hk=>?_;obtain ⟨hk,he⟩:=hk;refine Eh (fun h'=>?_) fun h'=>?_
 ·have h':k<g.ak.length:=by omega
  have hw:=B2.node_le hg h';have hq:(g.ak.getD k default).ax.length≤16777216:=hw;have hv:=Di (fun j=>Ve g k (g.ak.getD k default) ((g.ak.getD k default).ax.getD j default))
  repeat' (first|(refine I1 ?_;conv=>whnf)|(refine I2 ?_;conv=>whnf)|(refine ⟨fun h=>?_,fun h=>?_⟩<;>conv=>whnf)|(refine As (Ty (g.ak.getD k default) hw) rfl (Iv ?_);conv=>whnf)|(refine Co ?_;conv=>whnf)|fail)
  ·exact An A0 rfl rfl ⟨A6 vb (Cb fun p=>by rw [show Lh (g.ak.getD k default)=true from Dg (p.2.2.2 k h').1] at h;exact absurd h Cw),trivial⟩
  ·exact An A0 rfl rfl ⟨A6 vb (Cb fun p=>C7q h (p.2.2.2 k h').2.1),trivial⟩
  rename_i hno
  have hN:Jc (g.ak.getD k default):=Bj (show Lh (g.ak.getD k default)=true by cases hq2:Lh (g.ak.getD k default)<;>simp_all only [Bool.not_false,A9w])
  have hK:(g.ak.getD k default).kind=1↔k=0:=C7p h;have hO:=hN.2.2.2.2.2.2.2.2;refine Fv [] (fun j:Nat=>[(47,.c (vi j))]) (fun j=>[⟨0,[.c (Ax g.ak),.c (vi g.aq),.c (vi g.cap)]⟩,⟨1,[.c (vi (g.ak.getD k default).kind),.c (vi (g.ak.getD k default).a),.c (vi (g.ak.getD k default).b),.c (Ej (g.ak.getD k default).ax)]⟩]) (fun j=>[]) (fun j=>j≤(g.ak.getD k default).ax.length∧Mu (fun j=>Ve g k (g.ak.getD k default) ((g.ak.getD k default).ax.getD j default)) j) (fun j=>(g.ak.getD k default).ax.length-j) fun j hj=>?_;obtain ⟨hj,hej⟩:=hj;refine Eh (fun h2=>?_) fun h2=>?_
  ·have h2:j<(g.ak.getD k default).ax.length:=by first|omega|(simp only [Bu] at h2;omega)
   have hb:=hO _ (Am (d:=default) h2)
   repeat' (first|(refine I1 ?_;conv=>whnf)|(refine I2 ?_;conv=>whnf)|(refine ⟨fun h=>?_,fun h=>?_⟩<;>conv=>whnf)|(refine Co ?_;conv=>whnf)|fail)
   all_goals try (refine An A0 rfl rfl ⟨A6 vb (Cb fun p=>?_),trivial⟩;have q:=(p.2.2.2 k h').2.2 _ (Am (d:=default) h2);clear p hej he hv hu hN hK hO;simp only [Ve,A2t] at q;simp only [Ey] at * <;>omega)
   all_goals
    refine Ci [] (j+1) ⟨by omega,Dh hej (by clear hej he hv hu hN hK hO;simp only [Ve,A2t];simp only [Ey] at * <;>omega)⟩ A7 ⟨rfl,trivial⟩ trivial
  have e:j=(g.ak.getD k default).ax.length:=by first|omega|(simp only [Bu] at h2;omega)
  refine B8 ?_;refine Ci [] (k+1) ⟨by omega,Dh he ⟨hN,hK,Im (e▸hej)⟩⟩ A7 ⟨rfl,trivial⟩ trivial
 have e:k=g.ak.length:=by omega
 exact An A0 rfl rfl ⟨A6 vb (Dg ⟨by simp only [Ey] at * <;>omega,by simp only [Ey] at * <;>omega,by simp only [Ey] at * <;>omega,e▸he⟩),trivial⟩
variable {c : A3}
theorem A3.graph_le {n:Nat}(h:c.w≤n):c.az.w≤n:=by simp only [A3.w] at h;omega
theorem A3.worker_le {n:Nat}(h:c.w≤n){k:Nat}(hk:k<c.aq.length):(c.aq.getD k default).w≤n:=by
 simp only [A3.w,wS] at h;have hle:=Gf Ae.w c.aq k hk;omega
theorem A3.link_le {n:Nat}(h:c.w≤n){k:Nat}(hk:k<c.ay.length):(c.ay.getD k default).w≤n:=by
 simp only [A3.w,wS] at h;have hle:=Gf D4.w c.ay k hk;omega
def M0 (c:A3):Prop:=∀l∈c.ay,l.got≤9223372036854775807
def B03 (c:A3) (i:Nat) (l:D4):Prop:=l.cap=c.az.cap∧A2i c.az.ak.length l.ar∧((i:Int).tdiv c.az.aq=(i:Int).tmod c.az.aq→l.ar.length=0)
instance (c:A3) (i:Nat) (l:D4):Decidable (B03 c i l):=by unfold B03;infer_instance
def Pw (c:A3) (i:Nat):Prop:=Hm (c.ay.getD i default)∧B03 c i (c.ay.getD i default)
instance (c:A3) (i:Nat):Decidable (Pw c i):=by unfold Pw;infer_instance
def Qt (n:Int) (t:G9):Prop:=(0≤t.aj∧t.aj≤n-1)∧(t.bz=false→t.aj=0)∧(-1000000≤t.sum∧t.sum≤1000000)
instance (n:Int) (t:G9):Decidable (Qt n t):=by unfold Qt;infer_instance
def Og (n:Int) (x:D8):Prop:=(0≤x.to_∧x.to_≤n-1)∧(0≤x.ab∧x.ab≤3)
instance (n:Int) (x:D8):Decidable (Og n x):=by unfold Og;infer_instance
def Vd (c:A3):Prop:=I4 c.az∧c.aq.length=c.az.aq∧c.ay.length=c.az.aq * c.az.aq∧c.ap.length=4
instance (c:A3):Decidable (Vd c):=by unfold Vd;infer_instance
def Av (c:A3):Prop:=Vd c∧(∀w∈c.aq,Cp c.az.ak.length w)∧(∀i,i<c.ay.length→Pw c i)∧(∀t∈c.ap,Qt c.az.aq t)∧∀x∈c.ac,Og c.az.aq x
instance (c:A3):Decidable (Av c):=by unfold Av;infer_instance
def At (c:A3):Bool:=decide (Av c)
theorem D1b {n:Int}(h1:1≤n)(h2:n≤4):1≤n * n∧n * n≤16:=by
 have:n=1∨n=2∨n=3∨n=4:=by omega
 rcases this with rfl|rfl|rfl|rfl<;>decide
theorem C2l {n k:Int}(hn:1≤n)(hk:0≤k):0≤k.tdiv n∧k.tdiv n≤k:=by
 obtain ⟨m,rfl⟩:=Un hk;obtain ⟨d,rfl⟩:=Un (show 0≤n by omega)
 rw [←Int.ofNat_tdiv];exact ⟨Int.natCast_nonneg _,Int.ofNat_le.2 (Nat.div_le_self m d)⟩
set_option maxHeartbeats 2000000 in
theorem O7 (x:A3)(hx:x.w≤16777216)(hgo:M0 x):Dj 233 [.agg x.c] [.one (vb (At x))]:=by
 have hg:=A3.graph_le hx;have hx2:=hx;simp only [A3.w,wS] at hx2;refine E3 Tryz.func233 fun W=>?_;refine F0 (Kj x.az hg) ?_;refine Cc (fun hG=>?_) fun hG=>?_
 ·refine Ar ?_
  exact An A0 rfl rfl ⟨A6 vb (Cb fun p=>by rw [show F5 x.az=true from Dg p.1.1] at hG;exact absurd hG Cw),trivial⟩
 have hG:I4 x.az:=Bj (show F5 x.az=true by simpa using hG)
 have hn1:=hG.2.1.1;have hn2:=hG.2.1.2;have hnn:=D1b hn1 hn2
 repeat' (first|(refine I1 ?_;conv=>whnf)|(refine I2 ?_;conv=>whnf)|(refine ⟨fun h=>?_,fun h=>?_⟩<;>conv=>whnf)|(refine Co ?_;conv=>whnf)|(refine Al 13 rfl [0,1,2,3,4,5,6,7,8,9,10,11,12,13,14,15,16,17,18,19,20,21,22,23,24,25,26,27,28,29,30,31,32,33] Ah (Aj ?_))|fail)
 all_goals try (refine An A0 rfl rfl ⟨A6 vb (Cb fun p=>?_),trivial⟩;obtain ⟨_,p1,p2,p3⟩:=p.1;clear p hgo hG;simp only [Ey] at *;omega)
 have hH:Vd x:=by refine ⟨hG,?_,?_,?_⟩<;>(clear hgo hG;simp only [Ey] at *;omega)
 rename_i a1 a2
 clear h a1 a2
 have hu:=Di (fun i=>Cp x.az.ak.length (x.aq.getD i default));refine Fv [] (fun k:Nat=>[(44,.c (vi k))]) (fun k=>[⟨0,[.c (Ax x.az.ak),.c (vi x.az.aq),.c (vi x.az.cap),.c (Af x.aq),.c (B7 x.ay),.c (Au x.ap),.c (Bd x.ac)]⟩]) (fun k=>[]) (fun k=>k≤x.aq.length∧Mu (fun i=>Cp x.az.ak.length (x.aq.getD i default)) k) (fun k=>x.aq.length-k) fun k hk=>?_;obtain ⟨hk,he⟩:=hk;refine Eh (fun h'=>?_) fun h'=>?_
 ·have h':k<x.aq.length:=by omega
  refine B8 ?_;refine F0 (U0 x.az (x.aq.getD k default) hg (A3.worker_le hx h')) ?_;refine Cc (fun h=>?_) fun h=>?_
  ·exact An A0 rfl rfl ⟨A6 vb (Cb fun p=>by rw [show Ls _ _=true from Dg (p.2.1 _ (Am (d:=default) h'))] at h;exact absurd h Cw),trivial⟩
  refine B8 ?_;refine Ci [] (k+1) ⟨by omega,Dh he (Bj (show Ls _ _=true by simpa using h))⟩ A7 ⟨rfl,trivial⟩ trivial
 have e:k=x.aq.length:=by omega
 have hW:∀w∈x.aq,Cp x.az.ak.length w:=Im (p:=fun w=>Cp x.az.ak.length w) (e▸he)
 clear he hu
 have hu:=Di (Pw x);refine Fv [] (fun k:Nat=>[(57,.c (vi k))]) (fun k=>[⟨0,[.c (Ax x.az.ak),.c (vi x.az.aq),.c (vi x.az.cap),.c (Af x.aq),.c (B7 x.ay),.c (Au x.ap),.c (Bd x.ac)]⟩]) (fun k=>[]) (fun k=>k≤x.ay.length∧Mu (Pw x) k) (fun k=>x.ay.length-k) fun k hk=>?_;obtain ⟨hk,he⟩:=hk;refine Eh (fun h'=>?_) fun h'=>?_
 ·have h':k<x.ay.length:=by omega
  have hq:(x.ay.getD k default).ar.length≤16777216:=A3.link_le hx h';have hd:=C2l hn1 (show 0≤(k:Int) by omega)
  repeat' (first|(refine I1 ?_;conv=>whnf)|(refine I2 ?_;conv=>whnf)|(refine ⟨fun h=>?_,fun h=>?_⟩<;>conv=>whnf)|(refine As (Tw (x.ay.getD k default) (A3.link_le hx h') (hgo _ (Am h'))) rfl (Iv ?_);conv=>whnf)|(refine As (Xh x.az (x.ay.getD k default).ar hg hq) rfl (Iv ?_);conv=>whnf)|(refine Co ?_;conv=>whnf)|(refine Al 13 rfl [0,1,2,3,4,5,6,7,8,9,10,11,12,13,14,15,16,17,18,19,20,21,22,23,24,25,26,27,28,29,30,31,32,33] Ah (Aj ?_))|fail)
  all_goals try (refine An A0 rfl rfl ⟨A6 vb (Cb fun p=>?_),trivial⟩;obtain ⟨q1,q2,q3,q4⟩:=p.2.2.1 k h';clear p he hu hgo hG hW hH;simp only [Bu,K6,Yf] at *;first|(simp_all;done)|(simp_all;omega))
  all_goals
   have hs:Pw x k:=by
    refine ⟨Bj (show K6 _=true by simp_all),?_,Bj (show Yf _ _=true by simp_all),?_⟩<;>clear he hu hgo hG hW hH<;>simp only [Bu] at * <;>first|(simp_all;done)|(simp_all;omega)
   refine Ci [] (k+1) ⟨by omega,Dh he hs⟩ A7 ⟨rfl,trivial⟩ trivial
 have hK:∀i,i<x.ay.length→Pw x i:=fun i hi=>he i A7
 clear he hu
 have hu:=Di (fun i=>Qt x.az.aq (x.ap.getD i default));refine Fv [] (fun k:Nat=>[(100,.c (vi k))]) (fun k=>[⟨0,[.c (Ax x.az.ak),.c (vi x.az.aq),.c (vi x.az.cap),.c (Af x.aq),.c (B7 x.ay),.c (Au x.ap),.c (Bd x.ac)]⟩]) (fun k=>[]) (fun k=>k≤x.ap.length∧Mu (fun i=>Qt x.az.aq (x.ap.getD i default)) k) (fun k=>x.ap.length-k) fun k hk=>?_;obtain ⟨hk,he⟩:=hk;refine Eh (fun h'=>?_) fun h'=>?_
 ·have h':k<x.ap.length:=by omega
  repeat' (first|(refine I1 ?_;conv=>whnf)|(refine I2 ?_;conv=>whnf)|(refine ⟨fun h=>?_,fun h=>?_⟩<;>conv=>whnf)|(refine As (H9 _ _ _) rfl (Aj ?_))|(refine Co ?_;conv=>whnf)|(refine Al 13 rfl [0,1,2,3,4,5,6,7,8,9,10,11,12,13,14,15,16,17,18,19,20,21,22,23,24,25,26,27,28,29,30,31,32,33] Ah (Aj ?_))|fail)
  all_goals try (refine An A0 rfl rfl ⟨A6 vb (Cb fun p=>?_),trivial⟩;obtain ⟨q1,q2,q3⟩:=p.2.2.2.1 _ (Am (d:=default) h');clear p he hu hgo hG hW hH hK;simp only [Bu] at *;first|(simp only [Ey] at *;omega)|(simp only [Ey] at *;simp_all;done)|(simp_all;done))
  all_goals
   have hs:Qt x.az.aq (x.ap.getD k default):=by
    refine ⟨?_,?_,?_⟩<;>clear he hu hgo hG hW hH hK<;>simp only [Bu] at * <;>first|(simp only [Ey] at *;omega)|(simp only [Ey] at *;simp_all;done)|(simp_all;done)
   refine Ci [] (k+1) ⟨by omega,Dh he hs⟩ A7 ⟨rfl,trivial⟩ trivial
 have e:k=x.ap.length:=by omega
 have hT:∀t∈x.ap,Qt x.az.aq t:=Im (p:=Qt x.az.aq) (e▸he)
 clear he hu
 have hu:=Di (fun i=>Og x.az.aq (x.ac.getD i default));refine Fv [] (fun k:Nat=>[(130,.c (vi k))]) (fun k=>[⟨0,[.c (Ax x.az.ak),.c (vi x.az.aq),.c (vi x.az.cap),.c (Af x.aq),.c (B7 x.ay),.c (Au x.ap),.c (Bd x.ac)]⟩]) (fun k=>[]) (fun k=>k≤x.ac.length∧Mu (fun i=>Og x.az.aq (x.ac.getD i default)) k) (fun k=>x.ac.length-k) fun k hk=>?_;obtain ⟨hk,he⟩:=hk;refine Eh (fun h'=>?_) fun h'=>?_
 ·have h':k<x.ac.length:=by omega
  repeat' (first|(refine I1 ?_;conv=>whnf)|(refine I2 ?_;conv=>whnf)|(refine ⟨fun h=>?_,fun h=>?_⟩<;>conv=>whnf)|(refine As (H9 _ _ _) rfl (Aj ?_))|(refine Co ?_;conv=>whnf)|(refine Al 13 rfl [0,1,2,3,4,5,6,7,8,9,10,11,12,13,14,15,16,17,18,19,20,21,22,23,24,25,26,27,28,29,30,31,32,33] Ah (Aj ?_))|fail)
  all_goals try (refine An A0 rfl rfl ⟨A6 vb (Cb fun p=>?_),trivial⟩;obtain ⟨q1,q2⟩:=p.2.2.2.2 _ (Am (d:=default) h');clear p he hu hgo hG hW hH hK hT;simp only [Ey] at *;omega)
  all_goals
   have hs:Og x.az.aq (x.ac.getD k default):=by
    refine ⟨?_,?_⟩<;>clear he hu hgo hG hW hH hK hT<;>(simp only [Ey] at *;omega)
   refine Ci [] (k+1) ⟨by omega,Dh he hs⟩ A7 ⟨rfl,trivial⟩ trivial
 have e:k=x.ac.length:=by omega
 have hN:∀t∈x.ac,Og x.az.aq t:=Im (p:=Og x.az.aq) (e▸he);exact An A0 rfl rfl ⟨A6 vb (Dg ⟨hH,hW,hK,hT,hN⟩),trivial⟩
set_option maxHeartbeats 2000000 in
theorem B0m (x:A3)(hx:x.w≤16777216):Dj 157 [.agg x.c] [.one (vb (At x))]:=by
 have hg:=A3.graph_le hx;have hx2:=hx;simp only [A3.w,wS] at hx2;refine E3 Tryz.func157 fun W=>?_;refine F0 (Oq x.az hg) ?_;refine Cc (fun hG=>?_) fun hG=>?_
 ·refine Ar ?_
  exact An A0 rfl rfl ⟨A6 vb (Cb fun p=>by rw [show F5 x.az=true from Dg p.1.1] at hG;exact absurd hG Cw),trivial⟩
 have hG:I4 x.az:=Bj (show F5 x.az=true by simpa using hG)
 have hn1:=hG.2.1.1;have hn2:=hG.2.1.2;have hnn:=D1b hn1 hn2
 repeat' (first|(refine I1 ?_;conv=>whnf)|(refine I2 ?_;conv=>whnf)|(refine ⟨fun h=>?_,fun h=>?_⟩<;>conv=>whnf)|(refine Co ?_;conv=>whnf)|(refine Al 7 rfl [0,1,2,3,4,5,6,7,8] Ah (Aj ?_))|(refine Al 13 rfl [0,1,2,3,4,5,6,7,8,9,10,11,12,13,14,15,16,17,18,19,20,21,22,23,24,25,26,27,28,29,30,31,32,33] Ah (Aj ?_))|fail)
 all_goals try (refine An A0 rfl rfl ⟨A6 vb (Cb fun p=>?_),trivial⟩;obtain ⟨_,p1,p2,p3⟩:=p.1;clear p hG;simp only [Ey] at *;omega)
 have hH:Vd x:=by refine ⟨hG,?_,?_,?_⟩<;>(clear hG;simp only [Ey] at *;omega)
 rename_i a1 a2
 clear h a1 a2
 have hu:=Di (fun i=>Cp x.az.ak.length (x.aq.getD i default));refine Fv [] (fun k:Nat=>[(4,.c (vi k))]) (fun k=>[⟨0,[.c (Ax x.az.ak),.c (vi x.az.aq),.c (vi x.az.cap),.c (Af x.aq),.c (B7 x.ay),.c (Au x.ap),.c (Bd x.ac)]⟩]) (fun k=>[]) (fun k=>k≤x.aq.length∧Mu (fun i=>Cp x.az.ak.length (x.aq.getD i default)) k) (fun k=>x.aq.length-k) fun k hk=>?_;obtain ⟨hk,he⟩:=hk;have hwl:=hH.2.1;refine Eh (fun h'=>?_) fun h'=>?_
 ·have h':k<x.aq.length:=by omega
  refine B8 ?_
  first|(refine Al 7 rfl [0,1,2,3,4,5,6,7,8] Ah (Aj ?_))|(refine Al 13 rfl [0,1,2,3,4,5,6,7,8,9,10,11,12,13,14,15,16,17,18,19,20,21,22,23,24,25,26,27,28,29,30,31,32,33] Ah (Aj ?_))
  refine B8 ?_;refine F0 (B4s x.az (x.aq.getD k default) hg (A3.worker_le hx h')) ?_;refine Cc (fun h=>?_) fun h=>?_
  ·exact An A0 rfl rfl ⟨A6 vb (Cb fun p=>by rw [show Ls _ _=true from Dg (p.2.1 _ (Am (d:=default) h'))] at h;exact absurd h Cw),trivial⟩
  refine B8 ?_;refine Ci [] (k+1) ⟨by omega,Dh he (Bj (show Ls _ _=true by simpa using h))⟩ A7 ⟨rfl,trivial⟩ trivial
 have e:k=x.aq.length:=by omega
 have hW:∀w∈x.aq,Cp x.az.ak.length w:=Im (p:=fun w=>Cp x.az.ak.length w) (e▸he)
 clear he hu
 have hu:=Di (Pw x);refine Fv [] (fun k:Nat=>[(5,.c (vi k))]) (fun k=>[⟨0,[.c (Ax x.az.ak),.c (vi x.az.aq),.c (vi x.az.cap),.c (Af x.aq),.c (B7 x.ay),.c (Au x.ap),.c (Bd x.ac)]⟩]) (fun k=>[]) (fun k=>k≤x.ay.length∧Mu (Pw x) k) (fun k=>x.ay.length-k) fun k hk=>?_;obtain ⟨hk,he⟩:=hk;refine Eh (fun h'=>?_) fun h'=>?_
 ·have h':k<x.ay.length:=by omega
  have hq:(x.ay.getD k default).ar.length≤16777216:=A3.link_le hx h';have hd:=C2l hn1 (show 0≤(k:Int) by omega)
  repeat' (first|(refine I1 ?_;conv=>whnf)|(refine I2 ?_;conv=>whnf)|(refine ⟨fun h=>?_,fun h=>?_⟩<;>conv=>whnf)|(refine As (Uh (x.ay.getD k default) (A3.link_le hx h')) rfl (Iv ?_);conv=>whnf)|(refine As (Xt x.az (x.ay.getD k default).ar hg hq) rfl (Iv ?_);conv=>whnf)|(refine Co ?_;conv=>whnf)|(refine Al 7 rfl [0,1,2,3,4,5,6,7,8] Ah (Aj ?_))|(refine Al 13 rfl [0,1,2,3,4,5,6,7,8,9,10,11,12,13,14,15,16,17,18,19,20,21,22,23,24,25,26,27,28,29,30,31,32,33] Ah (Aj ?_))|fail)
  all_goals try (refine An A0 rfl rfl ⟨A6 vb (Cb fun p=>?_),trivial⟩;obtain ⟨q1,q2,q3,q4⟩:=p.2.2.1 k h';clear p he hu hG hW hH;simp only [Bu,K6,Yf] at *;first|(simp_all;done)|(simp_all;omega))
  all_goals
   have hs:Pw x k:=by
    refine ⟨Bj (show K6 _=true by simp_all),?_,Bj (show Yf _ _=true by simp_all),?_⟩<;>clear he hu hG hW hH<;>simp only [Bu] at * <;>first|(simp_all;done)|(simp_all;omega)
   refine Ci [] (k+1) ⟨by omega,Dh he hs⟩ A7 ⟨rfl,trivial⟩ trivial
 have hK:∀i,i<x.ay.length→Pw x i:=fun i hi=>he i A7
 clear he hu
 have hu:=Di (fun i=>Qt x.az.aq (x.ap.getD i default));refine Fv [] (fun k:Nat=>[(7,.c (vi k))]) (fun k=>[⟨0,[.c (Ax x.az.ak),.c (vi x.az.aq),.c (vi x.az.cap),.c (Af x.aq),.c (B7 x.ay),.c (Au x.ap),.c (Bd x.ac)]⟩]) (fun k=>[]) (fun k=>k≤x.ap.length∧Mu (fun i=>Qt x.az.aq (x.ap.getD i default)) k) (fun k=>x.ap.length-k) fun k hk=>?_;obtain ⟨hk,he⟩:=hk;refine Eh (fun h'=>?_) fun h'=>?_
 ·have h':k<x.ap.length:=by omega
  repeat' (first|(refine I1 ?_;conv=>whnf)|(refine I2 ?_;conv=>whnf)|(refine ⟨fun h=>?_,fun h=>?_⟩<;>conv=>whnf)|(refine As (H3 _ _ _) rfl (Aj ?_))|(refine Co ?_;conv=>whnf)|(refine Al 7 rfl [0,1,2,3,4,5,6,7,8] Ah (Aj ?_))|(refine Al 13 rfl [0,1,2,3,4,5,6,7,8,9,10,11,12,13,14,15,16,17,18,19,20,21,22,23,24,25,26,27,28,29,30,31,32,33] Ah (Aj ?_))|fail)
  all_goals try (refine An A0 rfl rfl ⟨A6 vb (Cb fun p=>?_),trivial⟩;obtain ⟨q1,q2,q3⟩:=p.2.2.2.1 _ (Am (d:=default) h');clear p he hu hG hW hH hK;simp only [Bu] at *;first|(simp only [Ey] at *;omega)|(simp only [Ey] at *;simp_all;done)|(simp_all;done))
  all_goals
   have hs:Qt x.az.aq (x.ap.getD k default):=by
    refine ⟨?_,?_,?_⟩<;>clear he hu hG hW hH hK<;>simp only [Bu] at * <;>first|(simp only [Ey] at *;omega)|(simp only [Ey] at *;simp_all;done)|(simp_all;done)
   refine Ci [] (k+1) ⟨by omega,Dh he hs⟩ A7 ⟨rfl,trivial⟩ trivial
 have e:k=x.ap.length:=by omega
 have hT:∀t∈x.ap,Qt x.az.aq t:=Im (p:=Qt x.az.aq) (e▸he)
 clear he hu
 have hu:=Di (fun i=>Og x.az.aq (x.ac.getD i default));refine Fv [] (fun k:Nat=>[(8,.c (vi k))]) (fun k=>[⟨0,[.c (Ax x.az.ak),.c (vi x.az.aq),.c (vi x.az.cap),.c (Af x.aq),.c (B7 x.ay),.c (Au x.ap),.c (Bd x.ac)]⟩]) (fun k=>[]) (fun k=>k≤x.ac.length∧Mu (fun i=>Og x.az.aq (x.ac.getD i default)) k) (fun k=>x.ac.length-k) fun k hk=>?_;obtain ⟨hk,he⟩:=hk;refine Eh (fun h'=>?_) fun h'=>?_
 ·have h':k<x.ac.length:=by omega
  repeat' (first|(refine I1 ?_;conv=>whnf)|(refine I2 ?_;conv=>whnf)|(refine ⟨fun h=>?_,fun h=>?_⟩<;>conv=>whnf)|(refine As (H3 _ _ _) rfl (Aj ?_))|(refine Co ?_;conv=>whnf)|(refine Al 7 rfl [0,1,2,3,4,5,6,7,8] Ah (Aj ?_))|(refine Al 13 rfl [0,1,2,3,4,5,6,7,8,9,10,11,12,13,14,15,16,17,18,19,20,21,22,23,24,25,26,27,28,29,30,31,32,33] Ah (Aj ?_))|fail)
  all_goals try (refine An A0 rfl rfl ⟨A6 vb (Cb fun p=>?_),trivial⟩;obtain ⟨q1,q2⟩:=p.2.2.2.2 _ (Am (d:=default) h');clear p he hu hG hW hH hK hT;simp only [Ey] at *;omega)
  all_goals
   have hs:Og x.az.aq (x.ac.getD k default):=by
    refine ⟨?_,?_⟩<;>clear he hu hG hW hH hK hT<;>(simp only [Ey] at *;omega)
   refine Ci [] (k+1) ⟨by omega,Dh he hs⟩ A7 ⟨rfl,trivial⟩ trivial
 have e:k=x.ac.length:=by omega
 have hN:∀t∈x.ac,Og x.az.aq t:=Im (p:=Og x.az.aq) (e▸he);exact An A0 rfl rfl ⟨A6 vb (Dg ⟨hH,hW,hK,hT,hN⟩),trivial⟩
theorem Jv (l:List Aa)(h:l.length≤16777216):Dj 174 [.one (A9 l)] [.one (A9 l)]:=by
 refine E3 Tryz.func174 fun W=>?_;refine B9 A0 rfl (A9 l) (Bs) (fun _=>Iz l) A7 (Aj ?_);exact An A0 rfl rfl ⟨rfl,trivial⟩
theorem Fw (l:List Ad)(h:l.length≤16777216):Dj 216 [.one (Ai l)] [.one (Ai l)]:=by
 refine E3 Tryz.func216 fun W=>?_;refine B9 A0 rfl (Ai l) (Bs) (fun _=>Gb l) A7 (Aj ?_);exact An A0 rfl rfl ⟨rfl,trivial⟩
theorem Pk (l:D4)(h:l.w≤16777216):Dj 161 [.agg l.c] [.agg l.c]:=by
 have h:l.ar.length≤16777216:=h;refine E3 Tryz.func161 fun W=>?_;refine Gg (Jv l.ar h) ?_;exact An A0 rfl rfl ⟨⟨rfl,rfl,rfl,rfl,rfl,rfl,trivial⟩,trivial⟩
theorem Pr (l:D4)(h:l.w≤16777216):Dj 210 [.agg l.c] [.agg l.c]:=by
 have h:l.ar.length≤16777216:=h;refine E3 Tryz.func210 fun W=>?_;refine B9 A0 rfl (A9 l.ar) (Bs) (fun _=>Iz l.ar) A7 (Aj ?_);exact An A0 rfl rfl ⟨⟨rfl,rfl,rfl,rfl,rfl,rfl,trivial⟩,trivial⟩
set_option maxHeartbeats 8000000 in
theorem J1 (x:Ae)(h:x.w≤16777216):Dj 160 [.agg x.c] [.agg x.c]:=by
 simp only [Ae.w] at h;refine B25 A0 false Tryz.func160 rfl Cw fun W us hul huv huo hp=>?_
 match us,hul with
 | [v0,v1,v2,v3,v4,v5,v6,v7],_=>
 conv=>whnf
 refine Iy rfl (Dw 0 rfl (Dw 3 rfl (Dw 6 rfl (Dw 9 rfl (Dw 12 rfl (Dw 15 rfl (Dw 18 rfl (Dw 21 rfl ?_))))))));refine Nl [2,5,8,11,14,17,20,23,24,25] [⟨1,4,.rd v0⟩,⟨4,7,.rd v1⟩,⟨7,10,.rd v2⟩,⟨10,13,.rd v3⟩,⟨13,16,.rd v4⟩,⟨16,19,.rd v5⟩,⟨19,22,.rd v6⟩,⟨22,25,.rd v7⟩] Ah ?_;refine L9 (s':=?_) rfl Dq ?_ ?_;rotate_left;refine Aj ?_;refine B4h hp 0 0 rfl rfl ?_;refine Gg (Jv x.ar A7) ?_;exact C0
 refine L9 (s':=?_) rfl Dq ?_ ?_;rotate_left;refine Aj ?_;refine B4h hp 0 1 rfl rfl ?_;refine Gg (Jv x.ae A7) ?_;exact C0
 refine L9 (s':=?_) rfl Dq ?_ ?_;rotate_left;refine Aj ?_;refine B4h hp 0 2 rfl rfl ?_;refine Gg (Jv x.au A7) ?_;exact C0
 refine L9 (s':=?_) rfl Dq ?_ ?_;rotate_left;refine Aj ?_;refine B4h hp 0 3 rfl rfl ?_;refine Gg (Fw x.cells A7) ?_;exact C0
 refine L9 (s':=?_) rfl Dq ?_ ?_;rotate_left;refine Aj ?_;refine Jf hp 4 rfl 16 rfl ?_;refine B9 A0 rfl (Ej x.ah) (Bs) (fun _=>Sq x.ah) A7 (Aj ?_);exact C0
 refine L9 (s':=?_) rfl Dq ?_ ?_;rotate_left;refine Aj ?_;refine Jf hp 5 rfl 19 rfl ?_;refine B9 A0 rfl (D9 x.al) (Bs) (fun _=>Ts x.al) A7 (Aj ?_);exact C0
 refine L9 (s':=?_) rfl Dq ?_ ?_;rotate_left;refine Aj ?_;refine Jf hp 6 rfl 22 rfl ?_;refine B9 A0 rfl (D9 x.an) (Bs) (fun _=>Ts x.an) A7 (Aj ?_);exact C0
 refine L9 (s':=?_) rfl Dq ?_ ?_;rotate_left;refine Aj ?_;refine Jf hp 7 rfl 25 rfl ?_;refine B9 A0 rfl (Hu x.ai) (Bs) (fun _=>A67 x.ai) A7 (Aj ?_);exact C0
 refine Ms rfl Dq ?_;refine Ms rfl Dq ?_;refine Ln A0 Ah Dq (GW.out (Iv ?_));conv=>whnf
 exact An A0 rfl rfl ⟨⟨rfl,rfl,rfl,rfl,rfl,rfl,rfl,rfl,trivial⟩,trivial⟩
set_option maxHeartbeats 8000000 in
theorem A85 (x:Ae)(h:x.w≤16777216):Dj 209 [.agg x.c] [.agg x.c]:=by
 simp only [Ae.w] at h;refine B25 A0 false Tryz.func209 rfl Cw fun W us hul huv huo hp=>?_
 match us,hul with
 | [v0,v1,v2,v3,v4,v5,v6,v7],_=>
 conv=>whnf
 refine Iy rfl (Dw 1 rfl (Dw 5 rfl (Dw 9 rfl (Dw 13 rfl (Dw 17 rfl (Dw 21 rfl (Dw 25 rfl (Dw 29 rfl ?_))))))));refine Nl [3,7,11,15,19,23,27,31,32,33] [⟨0,3,.emp 5⟩,⟨2,5,.rd v0⟩,⟨4,7,.emp 5⟩,⟨6,9,.rd v1⟩,⟨8,11,.emp 5⟩,⟨10,13,.rd v2⟩,⟨12,15,.emp 4⟩,⟨14,17,.rd v3⟩,⟨16,19,.emp 1⟩,⟨18,21,.rd v4⟩,⟨20,23,.emp 1⟩,⟨22,25,.rd v5⟩,⟨24,27,.emp 1⟩,⟨26,29,.rd v6⟩,⟨28,31,.emp 2⟩,⟨30,33,.rd v7⟩] Ah ?_;refine L9 (s':=?_) rfl Dq ?_ ?_;rotate_left;refine Aj ?_;refine Jf hp 0 rfl 5 rfl ?_;refine B9 A0 rfl (A9 x.ar) (Bs) (fun _=>Iz x.ar) A7 (Aj ?_);exact C0
 refine L9 (s':=?_) rfl Dq ?_ ?_;rotate_left;refine Aj ?_;refine Jf hp 1 rfl 9 rfl ?_;refine B9 A0 rfl (A9 x.ae) (Bs) (fun _=>Iz x.ae) A7 (Aj ?_);exact C0
 refine L9 (s':=?_) rfl Dq ?_ ?_;rotate_left;refine Aj ?_;refine Jf hp 2 rfl 13 rfl ?_;refine B9 A0 rfl (A9 x.au) (Bs) (fun _=>Iz x.au) A7 (Aj ?_);exact C0
 refine L9 (s':=?_) rfl Dq ?_ ?_;rotate_left;refine Aj ?_;refine Jf hp 3 rfl 17 rfl ?_;refine B9 A0 rfl (Ai x.cells) (Bs) (fun _=>Gb x.cells) A7 (Aj ?_);exact C0
 refine L9 (s':=?_) rfl Dq ?_ ?_;rotate_left;refine Aj ?_;refine Jf hp 4 rfl 21 rfl ?_;refine B9 A0 rfl (Ej x.ah) (Bs) (fun _=>Sq x.ah) A7 (Aj ?_);exact C0
 refine L9 (s':=?_) rfl Dq ?_ ?_;rotate_left;refine Aj ?_;refine Jf hp 5 rfl 25 rfl ?_;refine B9 A0 rfl (D9 x.al) (Bs) (fun _=>Ts x.al) A7 (Aj ?_);exact C0
 refine L9 (s':=?_) rfl Dq ?_ ?_;rotate_left;refine Aj ?_;refine Jf hp 6 rfl 29 rfl ?_;refine B9 A0 rfl (D9 x.an) (Bs) (fun _=>Ts x.an) A7 (Aj ?_);exact C0
 refine L9 (s':=?_) rfl Dq ?_ ?_;rotate_left;refine Aj ?_;refine Jf hp 7 rfl 33 rfl ?_;refine B9 A0 rfl (Hu x.ai) (Bs) (fun _=>A67 x.ai) A7 (Aj ?_);exact C0
 refine Ms rfl Dq ?_;refine Ms rfl Dq ?_;refine Ln A0 Ah Dq (GW.out (Iv ?_));conv=>whnf
 exact An A0 rfl rfl ⟨⟨rfl,rfl,rfl,rfl,rfl,rfl,rfl,rfl,trivial⟩,trivial⟩
theorem B5l (x:D5)(h:x.w≤16777216):Dj 173 [.agg x.c] [.agg x.c]:=by
 have h:x.ax.length≤16777216:=h;refine E3 Tryz.func173 fun W=>?_;refine B9 A0 rfl (Ej x.ax) (Bs) (fun _=>Sq x.ax) A7 (Aj ?_);exact An A0 rfl rfl ⟨⟨rfl,rfl,rfl,rfl,trivial⟩,trivial⟩
theorem S3 (x:B2)(h:x.w≤16777216):Dj 117 [.agg x.c] [.agg x.c]:=by
 have h:x.ak.length+(x.ak.map D5.w).sum≤16777216:=h;refine E3 Tryz.func117 fun W=>?_;refine Xy 2 0 4 (fun i=>D5.c (([]:List D5).getD i default)) rfl rfl ?_
 refine Ok A0 false [] (fun k:Nat=>[(14,.c (vi k))]) (fun _=>[⟨0,[.c (Ax x.ak),.c (vi x.aq),.c (vi x.cap)]⟩,⟨2,[.own 3,.c (vi x.aq),.c (vi x.cap)]⟩,⟨1,[.any,.any,.any]⟩]) (fun k=>[⟨3,Ax (x.ak.take k)⟩])
  (fun k=>k≤x.ak.length) (fun k=>x.ak.length-k) 0 (Fk _) ⟨rfl,trivial⟩ A2j ⟨rfl,trivial⟩ trivial Ah (fun k hk=>?_)
 conv=>whnf
 refine Eh (fun h=>?_) fun h=>?_
 ·have h:k<x.ak.length:=by omega
  have hle:=Gf D5.w x.ak k h;refine B8 ?_;refine B5p rfl [0,1,2,3,4,5,6,7] Ah (Aj ?_);refine Gg (B5l (x.ak.getD k default) A7) ?_;refine Mv A0 rfl (Aj ?_);refine B9 A0 rfl (Ax (x.ak.take k++[x.ak.getD k default])) (Ao rfl) Hy (by simp only [Eo];omega) (Er ?_);refine Ci [(3,7)] (k+1) A7 A7 ⟨rfl,trivial⟩ ⟨?_,trivial⟩;exact A6 Ax (Ff x.ak k h).symm
 refine An A0 rfl rfl ⟨⟨?_,rfl,rfl,trivial⟩,trivial⟩;exact A6 Ax (F9 _ _ A7)
theorem Sf (x:B2)(h:x.w≤16777216):Dj 77 [.agg x.c] [.agg x.c]:=by
 have h:x.ak.length+(x.ak.map D5.w).sum≤16777216:=h;refine E3 Tryz.func77 fun W=>?_;refine H5 3 (Ax []) rfl C3 ?_
 refine Ok A0 false [7] (fun k:Nat=>[(4,.c (vi k))]) (fun _=>[⟨0,[.c (Ax x.ak),.c (vi x.aq),.c (vi x.cap)]⟩,⟨2,[.own 3,.c (vi x.aq),.c (vi x.cap)]⟩,⟨1,[.any,.any,.any]⟩]) (fun k=>[⟨3,Ax (x.ak.take k)⟩])
  (fun k=>k≤x.ak.length) (fun k=>x.ak.length-k) 0 (Fk _) ⟨rfl,trivial⟩ A2j ⟨rfl,trivial⟩ trivial Ah (fun k hk=>?_)
 conv=>whnf
 refine Eh (fun h=>?_) fun h=>?_
 ·have h:k<x.ak.length:=by omega
  have hle:=Gf D5.w x.ak k h;have ho:(x.ak.getD k default).ax.length≤16777216:=by simp only [D5.w] at hle;omega
  refine B8 ?_;refine B9 A0 rfl (Ej (x.ak.getD k default).ax) (Bs) (fun _=>Sq _) (by first|omega|(simp only [Bu];omega)) (Aj ?_);refine Mv A0 rfl (Aj ?_);refine B9 A0 rfl (Ax (x.ak.take k++[x.ak.getD k default])) (Ao rfl) Hy (by simp only [Eo];omega) (Er ?_);refine Ci [(3,8)] (k+1) A7 A7 ⟨rfl,trivial⟩ ⟨?_,trivial⟩;exact A6 Ax (Ff x.ak k h).symm
 refine An A0 rfl rfl ⟨⟨?_,rfl,rfl,trivial⟩,trivial⟩;exact A6 Ax (F9 _ _ A7)
set_option maxHeartbeats 8000000 in
theorem F3 (x:A3)(h:x.w≤16777216):Dj 102 [.agg x.c] [.agg x.c]:=by
 have hg:=A3.graph_le h;have h2:=h;simp only [A3.w,wS] at h2;refine B25 A0 false Tryz.func102 rfl Cw fun W us hul huv huo hp=>?_
 match us,hul with
 | [v0,v1,v2,v3,v4,v5,v6],_=>
 conv=>whnf
 refine C09 4 ?_;refine D2i A0 false (J:=Unit) [10,13,16,17] (fun _=>[(3,.box 2 0)]) (fun _=>[⟨2,[.own 3,.c (vi x.az.aq),.c (vi x.az.cap),.c (.val (.slice none 0 0)),.c (.val (.slice none 0 0)),.own 4,.own 5]⟩,⟨0,[.c (.val v0),.c (.val v1),.c (.val v2),.c (.val v3),.c (.val v4),.c (.val v5),.c (.val v6)]⟩,⟨1,[.c (.val (.slice none 0 0)),.c (vi 0),.c (vi 0),.c (.val (.slice none 0 0)),.c (.val (.slice none 0 0)),.c (.val (.slice none 0 0)),.c (.val (.slice none 0 0))]⟩]) (fun _=>[⟨3,Ax x.az.ak⟩,⟨4,Au x.ap⟩,⟨5,Bd x.ac⟩]) (fun _=>True) ?_ ?_
 ·conv=>whnf
  refine Iy rfl (Dw 0 rfl (Dw 3 rfl (Dw 6 rfl ?_)));refine Nl [2,5,8,9,10,11] [⟨1,9,.ra [v0,v1,v2]⟩,⟨4,12,.rd v5⟩,⟨7,15,.rd v6⟩] Ah ?_;refine Nb (s1:=?_) (s2:=?_) A0 [2,5,8,9,10,11] 2 10 [5,8,9,10,11] [2,5,8,9,11] rfl rfl Ah Dq Cw Cw ?_ ?_ ?_ ?_;rotate_left 2;refine Aj ?_;refine P2 hp 0 0 0 rfl ?_;refine P2 hp 0 1 1 rfl ?_;refine P2 hp 0 2 2 rfl ?_;refine Gg (S3 x.az hg) ?_;exact C0
  refine Nb (s1:=?_) (s2:=?_) A0 [5,8,9,10,11] 5 10 [8,9,10,11] [5,8,9,11] rfl rfl Ah Dq Cw Cw ?_ ?_ ?_ ?_;rotate_left 2;refine Aj ?_;refine Jf hp 5 rfl 12 rfl ?_;refine B9 A0 rfl (Au x.ap) (Bs) (fun _=>Mc x.ap) A7 (Aj ?_);exact C0
  refine Nb (s1:=?_) (s2:=?_) A0 [8,9,10,11] 8 10 [9,10,11] [8,9,11] rfl rfl Ah Dq Cw Cw ?_ ?_ ?_ ?_;rotate_left 2;refine Aj ?_;refine Jf hp 6 rfl 15 rfl ?_;refine B9 A0 rfl (Bd x.ac) (Bs) (fun _=>Gw x.ac) A7 (Aj ?_);exact C0
  refine Nb (s1:=?_) (s2:=?_) A0 [9,10,11] 9 10 [10,11] [9,11] rfl rfl Ah Dq Cw Cw ?_ ?_ ?_ ?_;rotate_left 2;refine Er ?_;exact C0
  refine Ms rfl Dq ?_;refine Ms rfl Dq ?_;refine Ln A0 Ah Dq (GW.out (Iv ?_));conv=>whnf
  exact Ci [(2,9),(3,6),(4,7),(5,8)] () trivial Qu ⟨rfl,trivial⟩ ⟨rfl,rfl,rfl,trivial⟩
  refine Er ?_;exact C0
  refine Ms rfl Dq ?_;refine Ms rfl Dq ?_;refine Ln A0 Ah Dq (GW.out (Iv ?_));conv=>whnf
  exact Ci [(2,9),(3,6),(4,7),(5,8)] () trivial Qu ⟨rfl,trivial⟩ ⟨rfl,rfl,rfl,trivial⟩
  refine Er ?_;exact C0
  refine L9 (s':=?_) rfl Dq ?_ ?_;rotate_left;refine Aj ?_;refine Jf hp 6 rfl 15 rfl ?_;refine B9 A0 rfl (Bd x.ac) (Bs) (fun _=>Gw x.ac) A7 (Aj ?_);exact C0
  refine Ms rfl Dq ?_;refine Ms rfl Dq ?_;refine Ln A0 Ah Dq (GW.out (Iv ?_));conv=>whnf
  exact Ci [(2,8),(3,6),(4,7),(5,9)] () trivial Qu ⟨rfl,trivial⟩ ⟨rfl,rfl,rfl,trivial⟩
  refine Er ?_;exact C0
  refine L9 (s':=?_) rfl Dq ?_ ?_;rotate_left;refine Aj ?_;refine Jf hp 5 rfl 12 rfl ?_;refine B9 A0 rfl (Au x.ap) (Bs) (fun _=>Mc x.ap) A7 (Aj ?_);exact C0
  refine L9 (s':=?_) rfl Dq ?_ ?_;rotate_left;refine Aj ?_;refine Jf hp 6 rfl 15 rfl ?_;refine B9 A0 rfl (Bd x.ac) (Bs) (fun _=>Gw x.ac) A7 (Aj ?_);exact C0
  refine Ms rfl Dq ?_;refine Ms rfl Dq ?_;refine Ln A0 Ah Dq (GW.out (Iv ?_));conv=>whnf
  exact Ci [(2,7),(3,6),(4,8),(5,9)] () trivial Qu ⟨rfl,trivial⟩ ⟨rfl,rfl,rfl,trivial⟩
  refine Er ?_;exact C0
  refine L9 (s':=?_) rfl Dq ?_ ?_;rotate_left;refine Aj ?_;refine P2 hp 0 0 0 rfl ?_;refine P2 hp 0 1 1 rfl ?_;refine P2 hp 0 2 2 rfl ?_;refine Gg (S3 x.az hg) ?_;exact C0
  refine L9 (s':=?_) rfl Dq ?_ ?_;rotate_left;refine Aj ?_;refine Jf hp 5 rfl 12 rfl ?_;refine B9 A0 rfl (Au x.ap) (Bs) (fun _=>Mc x.ap) A7 (Aj ?_);exact C0
  refine L9 (s':=?_) rfl Dq ?_ ?_;rotate_left;refine Aj ?_;refine Jf hp 6 rfl 15 rfl ?_;refine B9 A0 rfl (Bd x.ac) (Bs) (fun _=>Gw x.ac) A7 (Aj ?_);exact C0
  refine Ms rfl Dq ?_;refine Ms rfl Dq ?_;refine Ln A0 Ah Dq (GW.out (Iv ?_));conv=>whnf
  exact Ci [(2,6),(3,7),(4,8),(5,9)] () trivial Qu ⟨rfl,trivial⟩ ⟨rfl,rfl,rfl,trivial⟩
 intro _ _;refine B4g hp 0 3 3 rfl rfl rfl ?_;refine B4g hp 0 4 4 rfl rfl rfl ?_;refine Xy 2 3 8 (fun i=>Ae.c (([]:List Ae).getD i default)) rfl rfl ?_;refine Xy 2 4 6 (fun i=>D4.c (([]:List D4).getD i default)) rfl rfl ?_;refine Aj ?_;refine Fv [] (fun k:Nat=>[(21,.c (vi k))]) (fun k=>[⟨2,[.own 3,.c (vi x.az.aq),.c (vi x.az.cap),.own 6,.own 7,.own 4,.own 5]⟩,⟨0,[.c (.val v0),.c (.val v1),.c (.val v2),.c (Af x.aq),.c (B7 x.ay),.c (.val v5),.c (.val v6)]⟩,⟨1,[.c (.val (.slice none 0 0)),.c (vi 0),.c (vi 0),.c (.val (.slice none 0 0)),.c (.val (.slice none 0 0)),.c (.val (.slice none 0 0)),.c (.val (.slice none 0 0))]⟩]) (fun k=>[⟨3,Ax x.az.ak⟩,⟨4,Au x.ap⟩,⟨5,Bd x.ac⟩,⟨6,Af (x.aq.take k)⟩,⟨7,B7 []⟩]) (fun k=>k≤x.aq.length) (fun k=>x.aq.length-k) fun k hk=>?_;refine Eh (fun h'=>?_) fun h'=>?_
 ·have h':k<x.aq.length:=by omega
  have hw:=A3.worker_le h h';refine B8 ?_
  first|(refine Al 1 rfl [0,1,3,4,6,7,2,5,8,9,10,11] Ah (Aj ?_))|(refine Al 5 rfl [0,1,2,3,4,5,6,7] Ah (Aj ?_))|(refine Al 10 rfl [0,1,2,3,4,5,6,7] Ah (Aj ?_))
  refine B8 ?_;refine Gg (J1 (x.aq.getD k default) hw) ?_;refine Mv A0 rfl (Aj ?_);refine B9 A0 rfl (Af (x.aq.take k++[x.aq.getD k default])) (Ao rfl) Hy (by simp only [Eo];omega) (Er ?_);refine Ci [(6,18)] (k+1) A7 A7 ⟨rfl,trivial⟩ ⟨rfl,rfl,rfl,A6 Af (Ff x.aq k h').symm,rfl,trivial⟩
 rw [F9 x.aq k A7];refine Fv [] (fun j:Nat=>[(36,.c (vi j))]) (fun j=>[⟨2,[.own 3,.c (vi x.az.aq),.c (vi x.az.cap),.own 6,.own 7,.own 4,.own 5]⟩,⟨0,[.c (.val v0),.c (.val v1),.c (.val v2),.c (Af x.aq),.c (B7 x.ay),.c (.val v5),.c (.val v6)]⟩,⟨1,[.c (.val (.slice none 0 0)),.c (vi 0),.c (vi 0),.c (.val (.slice none 0 0)),.c (.val (.slice none 0 0)),.c (.val (.slice none 0 0)),.c (.val (.slice none 0 0))]⟩]) (fun j=>[⟨3,Ax x.az.ak⟩,⟨4,Au x.ap⟩,⟨5,Bd x.ac⟩,⟨6,Af x.aq⟩,⟨7,B7 (x.ay.take j)⟩]) (fun j=>j≤x.ay.length) (fun j=>x.ay.length-j) fun j hj=>?_;refine Eh (fun h''=>?_) fun h''=>?_
 ·have h'':j<x.ay.length:=by omega
  have hl:=A3.link_le h h'';refine B8 ?_
  first|(refine Al 1 rfl [0,1,3,4,6,7,2,5,8,9,10,11] Ah (Aj ?_))|(refine Al 5 rfl [0,1,2,3,4,5,6,7] Ah (Aj ?_))|(refine Al 10 rfl [0,1,2,3,4,5,6,7] Ah (Aj ?_))
  refine B8 ?_;refine Gg (Pk (x.ay.getD j default) hl) ?_;refine Mv A0 rfl (Aj ?_);refine B9 A0 rfl (B7 (x.ay.take j++[x.ay.getD j default])) (Ao rfl) Hy (by simp only [Eo];omega) (Er ?_);refine Ci [(7,11)] (j+1) A7 A7 ⟨rfl,trivial⟩ ⟨rfl,rfl,rfl,rfl,A6 B7 (Ff x.ay j h'').symm,trivial⟩
 refine An A0 rfl rfl ⟨⟨rfl,rfl,rfl,rfl,?_,rfl,rfl,trivial⟩,trivial⟩;exact A6 B7 (F9 _ _ A7)
set_option maxHeartbeats 8000000 in
theorem A5e (x:A3)(h:x.w≤16777216):Dj 156 [.agg x.c] [.agg x.c]:=by
 have hg:=A3.graph_le h;have h2:=h;simp only [A3.w,wS] at h2;refine B25 A0 false Tryz.func156 rfl Cw fun W us hul huv huo hp=>?_
 match us,hul with
 | [v0,v1,v2,v3,v4,v5,v6],_=>
 conv=>whnf
 refine C09 4 ?_;refine D2i A0 false (J:=Unit) [8,9,12,13,16,17] (fun _=>[(3,.box 2 0)]) (fun _=>[⟨2,[.own 3,.c (vi x.az.aq),.c (vi x.az.cap),.c (.val (.slice none 0 0)),.c (.val (.slice none 0 0)),.own 4,.own 5]⟩,⟨0,[.c (.val v0),.c (.val v1),.c (.val v2),.c (.val v3),.c (.val v4),.c (.val v5),.c (.val v6)]⟩,⟨1,[.c (.val (.slice none 0 0)),.c (vi 0),.c (vi 0),.c (.val (.slice none 0 0)),.c (.val (.slice none 0 0)),.c (.val (.slice none 0 0)),.c (.val (.slice none 0 0))]⟩]) (fun _=>[⟨3,Ax x.az.ak⟩,⟨4,Au x.ap⟩,⟨5,Bd x.ac⟩]) (fun _=>True) ?_ ?_
 ·conv=>whnf
  refine Iy rfl (Dw 0 rfl (Dw 4 rfl (Dw 8 rfl ?_)));refine Nl [2,6,10,11,12,13] [⟨1,7,.ra [v0,v1,v2]⟩,⟨3,9,.emp 5⟩,⟨5,11,.rd v5⟩,⟨7,13,.emp 3⟩,⟨9,15,.rd v6⟩] Ah ?_;refine Nb (s1:=?_) (s2:=?_) A0 [2,6,10,11,12,13] 2 12 [6,10,11,12,13] [2,6,10,11,13] rfl rfl Ah Dq Cw Cw ?_ ?_ ?_ ?_;rotate_left 2;refine Aj ?_;refine P2 hp 0 0 0 rfl ?_;refine P2 hp 0 1 1 rfl ?_;refine P2 hp 0 2 2 rfl ?_;refine Gg (Sf x.az hg) ?_;exact C0
  refine Nb (s1:=?_) (s2:=?_) A0 [6,10,11,12,13] 6 12 [10,11,12,13] [6,10,11,13] rfl rfl Ah Dq Cw Cw ?_ ?_ ?_ ?_;rotate_left 2;refine Aj ?_;refine Jf hp 5 rfl 11 rfl ?_;refine B9 A0 rfl (Au x.ap) (Bs) (fun _=>Mc x.ap) A7 (Aj ?_);exact C0
  refine Nb (s1:=?_) (s2:=?_) A0 [10,11,12,13] 10 12 [11,12,13] [10,11,13] rfl rfl Ah Dq Cw Cw ?_ ?_ ?_ ?_;rotate_left 2;refine Aj ?_;refine Jf hp 6 rfl 15 rfl ?_;refine B9 A0 rfl (Bd x.ac) (Bs) (fun _=>Gw x.ac) A7 (Aj ?_);exact C0
  refine Nb (s1:=?_) (s2:=?_) A0 [11,12,13] 11 12 [12,13] [11,13] rfl rfl Ah Dq Cw Cw ?_ ?_ ?_ ?_;rotate_left 2;refine Er ?_;exact C0
  refine Ms rfl Dq ?_;refine Ms rfl Dq ?_;refine Ln A0 Ah Dq (GW.out (Iv ?_));conv=>whnf
  exact Ci [(2,11),(3,6),(4,8),(5,10)] () trivial Qu ⟨rfl,trivial⟩ ⟨rfl,rfl,rfl,trivial⟩
  refine Er ?_;exact C0
  refine Ms rfl Dq ?_;refine Ms rfl Dq ?_;refine Ln A0 Ah Dq (GW.out (Iv ?_));conv=>whnf
  exact Ci [(2,11),(3,6),(4,8),(5,10)] () trivial Qu ⟨rfl,trivial⟩ ⟨rfl,rfl,rfl,trivial⟩
  refine Er ?_;exact C0
  refine L9 (s':=?_) rfl Dq ?_ ?_;rotate_left;refine Aj ?_;refine Jf hp 6 rfl 15 rfl ?_;refine B9 A0 rfl (Bd x.ac) (Bs) (fun _=>Gw x.ac) A7 (Aj ?_);exact C0
  refine Ms rfl Dq ?_;refine Ms rfl Dq ?_;refine Ln A0 Ah Dq (GW.out (Iv ?_));conv=>whnf
  exact Ci [(2,9),(3,6),(4,8),(5,11)] () trivial Qu ⟨rfl,trivial⟩ ⟨rfl,rfl,rfl,trivial⟩
  refine Er ?_;exact C0
  refine L9 (s':=?_) rfl Dq ?_ ?_;rotate_left;refine Aj ?_;refine Jf hp 5 rfl 11 rfl ?_;refine B9 A0 rfl (Au x.ap) (Bs) (fun _=>Mc x.ap) A7 (Aj ?_);exact C0
  refine L9 (s':=?_) rfl Dq ?_ ?_;rotate_left;refine Aj ?_;refine Jf hp 6 rfl 15 rfl ?_;refine B9 A0 rfl (Bd x.ac) (Bs) (fun _=>Gw x.ac) A7 (Aj ?_);exact C0
  refine Ms rfl Dq ?_;refine Ms rfl Dq ?_;refine Ln A0 Ah Dq (GW.out (Iv ?_));conv=>whnf
  exact Ci [(2,7),(3,6),(4,9),(5,11)] () trivial Qu ⟨rfl,trivial⟩ ⟨rfl,rfl,rfl,trivial⟩
  refine Er ?_;exact C0
  refine L9 (s':=?_) rfl Dq ?_ ?_;rotate_left;refine Aj ?_;refine P2 hp 0 0 0 rfl ?_;refine P2 hp 0 1 1 rfl ?_;refine P2 hp 0 2 2 rfl ?_;refine Gg (Sf x.az hg) ?_;exact C0
  refine L9 (s':=?_) rfl Dq ?_ ?_;rotate_left;refine Aj ?_;refine Jf hp 5 rfl 11 rfl ?_;refine B9 A0 rfl (Au x.ap) (Bs) (fun _=>Mc x.ap) A7 (Aj ?_);exact C0
  refine L9 (s':=?_) rfl Dq ?_ ?_;rotate_left;refine Aj ?_;refine Jf hp 6 rfl 15 rfl ?_;refine B9 A0 rfl (Bd x.ac) (Bs) (fun _=>Gw x.ac) A7 (Aj ?_);exact C0
  refine Ms rfl Dq ?_;refine Ms rfl Dq ?_;refine Ln A0 Ah Dq (GW.out (Iv ?_));conv=>whnf
  exact Ci [(2,6),(3,7),(4,9),(5,11)] () trivial Qu ⟨rfl,trivial⟩ ⟨rfl,rfl,rfl,trivial⟩
 intro _ _;refine B4g hp 0 3 3 rfl rfl rfl ?_;refine B4g hp 0 4 4 rfl rfl rfl ?_;refine Xy 2 3 8 (fun i=>Ae.c (([]:List Ae).getD i default)) rfl rfl ?_;refine Xy 2 4 6 (fun i=>D4.c (([]:List D4).getD i default)) rfl rfl ?_;refine Aj ?_;refine Fv [] (fun k:Nat=>[(4,.c (vi k))]) (fun k=>[⟨2,[.own 3,.c (vi x.az.aq),.c (vi x.az.cap),.own 6,.own 7,.own 4,.own 5]⟩,⟨0,[.c (.val v0),.c (.val v1),.c (.val v2),.c (Af x.aq),.c (B7 x.ay),.c (.val v5),.c (.val v6)]⟩,⟨1,[.c (.val (.slice none 0 0)),.c (vi 0),.c (vi 0),.c (.val (.slice none 0 0)),.c (.val (.slice none 0 0)),.c (.val (.slice none 0 0)),.c (.val (.slice none 0 0))]⟩]) (fun k=>[⟨3,Ax x.az.ak⟩,⟨4,Au x.ap⟩,⟨5,Bd x.ac⟩,⟨6,Af (x.aq.take k)⟩,⟨7,B7 []⟩]) (fun k=>k≤x.aq.length) (fun k=>x.aq.length-k) fun k hk=>?_;refine Eh (fun h'=>?_) fun h'=>?_
 ·have h':k<x.aq.length:=by omega
  have hw:=A3.worker_le h h';refine B8 ?_
  first|(refine Al 1 rfl [0,1,4,5,8,9,2,3,6,7,10,11,12,13] Ah (Aj ?_))|(refine Al 5 rfl [0,1,2,3,4,5,6,7,8,9,10,11] Ah (Aj ?_))|(refine Al 9 rfl [0,1,2,3,4,5,6,7,8,9,10,11] Ah (Aj ?_))
  refine B8 ?_;refine Gg (A85 (x.aq.getD k default) hw) ?_;refine Mv A0 rfl (Aj ?_);refine B9 A0 rfl (Af (x.aq.take k++[x.aq.getD k default])) (Ao rfl) Hy (by simp only [Eo];omega) (Er ?_);refine Ci [(6,17)] (k+1) A7 A7 ⟨rfl,trivial⟩ ⟨rfl,rfl,rfl,A6 Af (Ff x.aq k h').symm,rfl,trivial⟩
 rw [F9 x.aq k A7];refine Fv [] (fun j:Nat=>[(5,.c (vi j))]) (fun j=>[⟨2,[.own 3,.c (vi x.az.aq),.c (vi x.az.cap),.own 6,.own 7,.own 4,.own 5]⟩,⟨0,[.c (.val v0),.c (.val v1),.c (.val v2),.c (Af x.aq),.c (B7 x.ay),.c (.val v5),.c (.val v6)]⟩,⟨1,[.c (.val (.slice none 0 0)),.c (vi 0),.c (vi 0),.c (.val (.slice none 0 0)),.c (.val (.slice none 0 0)),.c (.val (.slice none 0 0)),.c (.val (.slice none 0 0))]⟩]) (fun j=>[⟨3,Ax x.az.ak⟩,⟨4,Au x.ap⟩,⟨5,Bd x.ac⟩,⟨6,Af x.aq⟩,⟨7,B7 (x.ay.take j)⟩]) (fun j=>j≤x.ay.length) (fun j=>x.ay.length-j) fun j hj=>?_;refine Eh (fun h''=>?_) fun h''=>?_
 ·have h'':j<x.ay.length:=by omega
  have hl:=A3.link_le h h'';refine B8 ?_
  first|(refine Al 1 rfl [0,1,4,5,8,9,2,3,6,7,10,11,12,13] Ah (Aj ?_))|(refine Al 5 rfl [0,1,2,3,4,5,6,7,8,9,10,11] Ah (Aj ?_))|(refine Al 9 rfl [0,1,2,3,4,5,6,7,8,9,10,11] Ah (Aj ?_))
  refine B8 ?_;refine Gg (Pr (x.ay.getD j default) hl) ?_;refine Mv A0 rfl (Aj ?_);refine B9 A0 rfl (B7 (x.ay.take j++[x.ay.getD j default])) (Ao rfl) Hy (by simp only [Eo];omega) (Er ?_);refine Ci [(7,10)] (j+1) A7 A7 ⟨rfl,trivial⟩ ⟨rfl,rfl,rfl,rfl,A6 B7 (Ff x.ay j h'').symm,trivial⟩
 refine An A0 rfl rfl ⟨⟨rfl,rfl,rfl,rfl,?_,rfl,rfl,trivial⟩,trivial⟩;exact A6 B7 (F9 _ _ A7)
end Go.Proofs.YtmhcebdkjgkmlaaGreatDoor
