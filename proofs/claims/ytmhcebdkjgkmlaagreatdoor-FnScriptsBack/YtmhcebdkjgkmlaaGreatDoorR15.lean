/- Part 15 of the proof that each of the laws FnScriptsBack returns true for every input. No conditions. -/
import Derived.Test.YtmhcebdkjgkmlaaGreatDoorR8

set_option linter.unusedSimpArgs false
set_option linter.unusedVariables false
set_option maxRecDepth 100000
namespace Go.Proofs.YtmhcebdkjgkmlaaGreatDoor
open Go.Sx
def A06 (l:List A9) (i:Nat):Prop:=(l.getD i default).op=0∧(l.getD i default).af.turn=0∧(0<i→(l.getD (i-1) default).af.am≤(l.getD i default).af.am)
instance (l:List A9) (i:Nat):Decidable (A06 l i):=by unfold A06;infer_instance
def B6q (l:List A9):Prop:=∀i,i<l.length→A06 l i
instance (l:List A9):Decidable (B6q l):=by unfold B6q;infer_instance
def Kb (n:Int):Prop:= -1000000≤n∧n≤1000000
instance (n:Int):Decidable (Kb n):=by unfold Kb;infer_instance
def A4l (l:List Int):Prop:=∀n∈l,Kb n
instance (l:List Int):Decidable (A4l l):=by unfold A4l;infer_instance
def B81 (l:List Ih) (i:Nat):Prop:=∀k,k<i→(l.getD k default).am≠(l.getD i default).am
instance (l:List Ih) (i:Nat):Decidable (B81 l i):=by unfold B81;infer_instance
def Ye (l:List Ih) (i:Nat):Prop:=(0≤(l.getD i default).am∧(l.getD i default).am≤3)∧B81 l i
instance (l:List Ih) (i:Nat):Decidable (Ye l i):=by unfold Ye;infer_instance
def B6n (l:List Ih):Prop:=∀i,i<l.length→Ye l i
instance (l:List Ih):Decidable (B6n l):=by unfold B6n;infer_instance
def Ta (n:Nat) (x:Aj):Prop:=(A07 n x.al∧A07 n x.bq∧A07 n x.ap∧T9 x.cells)
instance (n:Nat) (x:Aj):Decidable (Ta n x):=by unfold Ta;infer_instance
def Tb (x:Aj):Prop:=(x.ai.length=4∧x.ah.length=4∧x.ao.length=4)
instance (x:Aj):Decidable (Tb x):=by unfold Tb;infer_instance
def Db (n:Nat) (x:Aj):Prop:=Ta n x∧Tb x∧B6q x.ap∧A4l x.ai∧B6n x.bz
instance (n:Nat) (x:Aj):Decidable (Db n x):=by unfold Db;infer_instance
def M0 (n:Nat) (x:Aj):Bool:=decide (Db n x)
theorem A4r {l:List Ih}{i:Nat}(h:i≤l.length):(l.take i).any (fun d=>d.am==(l.getD i default).am)=false↔B81 l i:=by
 rw [A2d]
 constructor
 ·intro h1 k hk e
  have hm:l.getD k default∈l.take i:=by
   have hk2:k<(l.take i).length:=by simp;omega
   have:(l.take i).getD k default=l.getD k default:=by simp [List.getD,hk]
   rw [←this];exact Am hk2
  exact h1 _ hm (by simpa using e)
 intro h1 d hd c;obtain ⟨k,hk,e⟩:=Po hd;have hk2:k<i:=by simp at hk;omega
 have hk3:k<l.length:=by omega
 refine h1 k hk2 ?_;rw [List.getD,Dh hk3];simp only [List.getElem_take] at e
 simpa [e] using c
theorem C7f {α:Type} [Inhabited α] {es:Nat}{e:α→List Ad}{xs:List α}{k:Nat}(h:k≤xs.length):Xj xs.length es (fun i=>e (xs.getD i default)) 0 (k:Int) (Mu es e (xs.take k)):=by
 have:=X8 (es:=es) (e:=e) (xs:=xs) (l:=0) (h:=(k:Int)) A7 A7 A7
 simpa using this
theorem Tt (g:Ax)(x:Aj)(hg:g.w≤16777216)(hx:x.w≤16777216):Df 268 [.agg g.c,.agg x.c] [.one (vb (M0 g.ay.length x))]:=by
 have hx2:=hx;simp only [Aj.w] at hx2;refine Dy Tryz.func268 fun W=>?_
 repeat' (first|(refine Gy ?_;conv=>whnf)|(refine Gz ?_;conv=>whnf)|(refine ⟨fun h=>?_,fun h=>?_⟩<;>conv=>whnf)|(refine Ao (X1 g x.al hg A7) rfl (I7 ?_);conv=>whnf)|(refine Ao (X1 g x.bq hg A7) rfl (I7 ?_);conv=>whnf)|(refine Ao (X1 g x.ap hg A7) rfl (I7 ?_);conv=>whnf)|(refine Ao (B4d x.cells A7) rfl (I7 ?_);conv=>whnf)|(refine D6 ?_;conv=>whnf)|(refine Ae 6 rfl [0,1,2,3,4,5,6,7,8,9,10,11,12,13,14,15,16,17,18,19,20,21,22,23,24,25,26] Ak (Ag ?_))|(refine Ae 20 rfl [0,1,2,3,4,5,6,7,8,9,10,11,12] Ak (Ag ?_))|fail)
 all_goals try (refine Af A0 rfl rfl ⟨A6 vb (Cx fun p=>?_),trivial⟩;obtain ⟨⟨p1,p2,p3,p4⟩,_⟩:=p;simp_all [Xy,Wv];done)
 have hA:Ta g.ay.length x:=by unfold Ta;refine ⟨?_,?_,?_,?_⟩<;>simp_all [Xy,Wv]
 rename_i a1 a2 a3
 clear h a1 a2 a3
 have hu:=Dm (A06 x.ap);refine Fs [] (fun k:Nat=>[(39,.c (vi k))]) (fun k=>[⟨0,[.c (Ay g.ay),.c (vi g.aq),.c (vi g.cap)]⟩,⟨1,[.c (Aa x.al),.c (Aa x.bq),.c (Aa x.ap),.c (As x.cells),.c (De x.ai),.c (Dz x.ah),.c (Dz x.ao),.c (Hy x.bz)]⟩]) (fun k=>[]) (fun k=>k≤x.ap.length∧Mv (A06 x.ap) k) (fun k=>x.ap.length-k) fun k hk=>?_;obtain ⟨hk,he⟩:=hk;refine E3 (fun h'=>?_) fun h'=>?_
 ·have h':k<x.ap.length:=by omega
  have e1:((k:Int)-1).toNat=k-1:=by omega
  repeat' (first|(refine Gy ?_;conv=>whnf)|(refine Gz ?_;conv=>whnf)|(refine ⟨fun h=>?_,fun h=>?_⟩<;>conv=>whnf)|(refine D6 ?_;conv=>whnf)|(refine Ae 6 rfl [0,1,2,3,4,5,6,7,8,9,10,11,12,13,14,15,16,17,18,19,20,21,22,23,24,25,26] Ak (Ag ?_))|(refine Ae 20 rfl [0,1,2,3,4,5,6,7,8,9,10,11,12] Ak (Ag ?_))|fail)
  all_goals try (refine Af A0 rfl rfl ⟨A6 vb (Cx fun p=>?_),trivial⟩;have p:=p.2.2.1 k h';clear he hA hu;simp only [A06] at p;simp only [Es] at *;first|omega|(simp only [e1] at *;omega))
  all_goals
   have hs:A06 x.ap k:=by clear he hA hu;simp only [A06];simp only [Es] at *;first|omega|(simp only [e1] at *;omega)
   refine Co [] (k+1) ⟨by omega,Dl he hs⟩ A7 ⟨rfl,trivial⟩ trivial
 have e:k=x.ap.length:=by omega
 have hI:B6q x.ap:=fun i hi=>he i A7
 clear he hu
 repeat' (first|(refine Gy ?_;conv=>whnf)|(refine Gz ?_;conv=>whnf)|(refine ⟨fun h=>?_,fun h=>?_⟩<;>conv=>whnf)|(refine D6 ?_;conv=>whnf)|(refine Ae 6 rfl [0,1,2,3,4,5,6,7,8,9,10,11,12,13,14,15,16,17,18,19,20,21,22,23,24,25,26] Ak (Ag ?_))|(refine Ae 20 rfl [0,1,2,3,4,5,6,7,8,9,10,11,12] Ak (Ag ?_))|fail)
 all_goals try (refine Af A0 rfl rfl ⟨A6 vb (Cx fun p=>?_),trivial⟩;obtain ⟨p1,p2,p3⟩:=p.2.1;clear hA hI p;simp only [Es] at *;omega)
 have hL:Tb x:=by clear hA hI;unfold Tb;simp only [Es] at *;omega
 rename_i a1 a2
 clear h a1 a2
 have hu:=Dm (fun i=>Kb (x.ai.getD i default));refine Fs [] (fun k:Nat=>[(91,.c (vi k))]) (fun k=>[⟨0,[.c (Ay g.ay),.c (vi g.aq),.c (vi g.cap)]⟩,⟨1,[.c (Aa x.al),.c (Aa x.bq),.c (Aa x.ap),.c (As x.cells),.c (De x.ai),.c (Dz x.ah),.c (Dz x.ao),.c (Hy x.bz)]⟩]) (fun k=>[]) (fun k=>k≤x.ai.length∧Mv (fun i=>Kb (x.ai.getD i default)) k) (fun k=>x.ai.length-k) fun k hk=>?_;obtain ⟨hk,he⟩:=hk;refine E3 (fun h'=>?_) fun h'=>?_
 ·have h':k<x.ai.length:=by omega
  refine B6 ?_;refine Ao (Hw _ _ _) rfl (Ag ?_);refine C2 (fun h=>?_) fun h=>?_
  ·exact Af A0 rfl rfl ⟨A6 vb (Cx fun p=>by have:=p.2.2.2.1 _ (Am (d:=default) h');clear hA hI he p;simp only [Kb] at this;simp only [Es] at *;omega),trivial⟩
  refine B6 ?_;refine Co [] (k+1) ⟨by omega,Dl he (by clear he hA hI;simp only [Kb];simp only [Es] at *;omega)⟩ A7 ⟨rfl,trivial⟩ trivial
 have e:k=x.ai.length:=by omega
 have hS:A4l x.ai:=Io (p:=Kb) (e▸he)
 clear he hu
 have hu:=Dm (Ye x.bz);refine Fs [] (fun k:Nat=>[(102,.c (vi k))]) (fun k=>[⟨0,[.c (Ay g.ay),.c (vi g.aq),.c (vi g.cap)]⟩,⟨1,[.c (Aa x.al),.c (Aa x.bq),.c (Aa x.ap),.c (As x.cells),.c (De x.ai),.c (Dz x.ah),.c (Dz x.ao),.c (Hy x.bz)]⟩]) (fun k=>[]) (fun k=>k≤x.bz.length∧Mv (Ye x.bz) k) (fun k=>x.bz.length-k) fun k hk=>?_;obtain ⟨hk,he⟩:=hk;refine E3 (fun h'=>?_) fun h'=>?_
 ·have h':k<x.bz.length:=by omega
  repeat' (first|(refine Gy ?_;conv=>whnf)|(refine Gz ?_;conv=>whnf)|(refine ⟨fun h=>?_,fun h=>?_⟩<;>conv=>whnf)|(refine Ao (Hw _ _ _) rfl (Ag ?_))|(refine D6 ?_;conv=>whnf)|(refine Ae 6 rfl [0,1,2,3,4,5,6,7,8,9,10,11,12,13,14,15,16,17,18,19,20,21,22,23,24,25,26] Ak (Ag ?_))|(refine Ae 20 rfl [0,1,2,3,4,5,6,7,8,9,10,11,12] Ak (Ag ?_))|fail)
  ·exact Af A0 rfl rfl ⟨A6 vb (Cx fun p=>by have:=(p.2.2.2.2 k h').1;clear hA hI he hS p;simp only [Es] at *;omega),trivial⟩
  have hd:0≤(x.bz.getD k default).am∧(x.bz.getD k default).am≤3:=by clear hA hI he hS hu;simp only [Es] at *;omega
  refine P9 A0 rfl ⟨by omega,by omega,by omega⟩ (Hy (x.bz.take k)) (C7f A7) (Ft ?_);refine Ao (A5s (x.bz.take k) (x.bz.getD k default).am (by simp only [G2];omega)) rfl (Ft ?_);refine C2 (fun h2=>?_) fun h2=>?_
  ·exact Af A0 rfl rfl ⟨A6 vb (Cx fun p=>by have:=(A4r A7).2 (p.2.2.2.2 k h').2;rw [this] at h2;exact absurd h2 Bk),trivial⟩
  refine B6 ?_;refine Co [] (k+1) ⟨by omega,Dl he ⟨hd,(A4r A7).1 h2⟩⟩ A7 ⟨rfl,trivial⟩ trivial
 have e:k=x.bz.length:=by omega
 exact Af A0 rfl rfl ⟨A6 vb (D7 ⟨hA,hL,hI,hS,fun i hi=>he i A7⟩),trivial⟩
theorem B23 (g:Ax)(x:Aj)(hg:g.w≤16777216)(hx:x.w≤16777216):Df 211 [.agg g.c,.agg x.c] [.one (vb (M0 g.ay.length x))]:=by
 have hx2:=hx;simp only [Aj.w] at hx2;refine Dy Tryz.func211 fun W=>?_
 repeat' (first|(refine Gy ?_;conv=>whnf)|(refine Gz ?_;conv=>whnf)|(refine ⟨fun h=>?_,fun h=>?_⟩<;>conv=>whnf)|(refine Ao (Xa g x.al hg A7) rfl (I7 ?_);conv=>whnf)|(refine Ao (Xa g x.bq hg A7) rfl (I7 ?_);conv=>whnf)|(refine Ao (Xa g x.ap hg A7) rfl (I7 ?_);conv=>whnf)|(refine Ao (B51 x.cells A7) rfl (I7 ?_);conv=>whnf)|(refine D6 ?_;conv=>whnf)|(refine Ae 7 rfl [0,1,2,3,4,5,6,7,8,9,10,11,12,13,14,15,16,17,18,19,20,21,22,23,24,25,26,27,28,29,30,31,32,33,34,35,36,37,38] Ak (Ag ?_))|(refine Ae 22 rfl [0,1,2,3,4,5,6,7,8,9,10,11,12] Ak (Ag ?_))|fail)
 all_goals try (refine Af A0 rfl rfl ⟨A6 vb (Cx fun p=>?_),trivial⟩;obtain ⟨⟨p1,p2,p3,p4⟩,⟨p5,p6,p7⟩,_⟩:=p;first|(simp only [Es] at *;omega)|(simp_all [Xy,Wv];done))
 have hA:Ta g.ay.length x:=by unfold Ta;refine ⟨?_,?_,?_,?_⟩<;>simp_all [Xy,Wv]
 have hL:Tb x:=by clear hA;unfold Tb;simp only [Es] at *;omega
 rename_i a1 a2 a3 a4 a5 a6
 clear h a1 a2 a3 a4 a5 a6
 have hu:=Dm (A06 x.ap);refine Fs [] (fun k:Nat=>[(6,.c (vi k))]) (fun k=>[⟨0,[.c (Ay g.ay),.c (vi g.aq),.c (vi g.cap)]⟩,⟨1,[.c (Aa x.al),.c (Aa x.bq),.c (Aa x.ap),.c (As x.cells),.c (De x.ai),.c (Dz x.ah),.c (Dz x.ao),.c (Hy x.bz)]⟩]) (fun k=>[]) (fun k=>k≤x.ap.length∧Mv (A06 x.ap) k) (fun k=>x.ap.length-k) fun k hk=>?_;obtain ⟨hk,he⟩:=hk;refine E3 (fun h'=>?_) fun h'=>?_
 ·have h':k<x.ap.length:=by omega
  have e1:((k:Int)-1).toNat=k-1:=by omega
  repeat' (first|(refine Gy ?_;conv=>whnf)|(refine Gz ?_;conv=>whnf)|(refine ⟨fun h=>?_,fun h=>?_⟩<;>conv=>whnf)|(refine D6 ?_;conv=>whnf)|(refine Ae 7 rfl [0,1,2,3,4,5,6,7,8,9,10,11,12,13,14,15,16,17,18,19,20,21,22,23,24,25,26,27,28,29,30,31,32,33,34,35,36,37,38] Ak (Ag ?_))|(refine Ae 22 rfl [0,1,2,3,4,5,6,7,8,9,10,11,12] Ak (Ag ?_))|fail)
  all_goals try (refine Af A0 rfl rfl ⟨A6 vb (Cx fun p=>?_),trivial⟩;have p:=p.2.2.1 k h';clear he hA hL hu;simp only [A06] at p;simp only [Es] at *;first|omega|(simp only [e1] at *;omega))
  all_goals
   have hs:A06 x.ap k:=by clear he hA hL hu;simp only [A06];simp only [Es] at *;first|omega|(simp only [e1] at *;omega)
   refine Co [] (k+1) ⟨by omega,Dl he hs⟩ A7 ⟨rfl,trivial⟩ trivial
 have e:k=x.ap.length:=by omega
 have hI:B6q x.ap:=fun i hi=>he i A7
 clear he hu
 have hsl:x.ai.length=4:=hL.1;have hu:=Dm (fun i=>Kb (x.ai.getD i default));refine Fs [] (fun k:Nat=>[(7,.c (vi k))]) (fun k=>[⟨0,[.c (Ay g.ay),.c (vi g.aq),.c (vi g.cap)]⟩,⟨1,[.c (Aa x.al),.c (Aa x.bq),.c (Aa x.ap),.c (As x.cells),.c (De x.ai),.c (Dz x.ah),.c (Dz x.ao),.c (Hy x.bz)]⟩]) (fun k=>[]) (fun k=>k≤x.ai.length∧Mv (fun i=>Kb (x.ai.getD i default)) k) (fun k=>x.ai.length-k) fun k hk=>?_;obtain ⟨hk,he⟩:=hk;refine E3 (fun h'=>?_) fun h'=>?_
 ·have h':k<x.ai.length:=by omega
  refine B6 ?_;refine Ao (Hm _ _ _) rfl (Ag ?_);refine C2 (fun h=>?_) fun h=>?_
  ·exact Af A0 rfl rfl ⟨A6 vb (Cx fun p=>by have:=p.2.2.2.1 _ (Am (d:=default) h');clear hA hI he p;simp only [Kb] at this;simp only [Es] at *;omega),trivial⟩
  refine B6 ?_;refine Co [] (k+1) ⟨by omega,Dl he (by clear he hA hI;simp only [Kb];simp only [Es] at *;omega)⟩ A7 ⟨rfl,trivial⟩ trivial
 have e:k=x.ai.length:=by omega
 have hS:A4l x.ai:=Io (p:=Kb) (e▸he)
 clear he hu
 have hu:=Dm (Ye x.bz);refine Fs [] (fun k:Nat=>[(8,.c (vi k))]) (fun k=>[⟨0,[.c (Ay g.ay),.c (vi g.aq),.c (vi g.cap)]⟩,⟨1,[.c (Aa x.al),.c (Aa x.bq),.c (Aa x.ap),.c (As x.cells),.c (De x.ai),.c (Dz x.ah),.c (Dz x.ao),.c (Hy x.bz)]⟩]) (fun k=>[]) (fun k=>k≤x.bz.length∧Mv (Ye x.bz) k) (fun k=>x.bz.length-k) fun k hk=>?_;obtain ⟨hk,he⟩:=hk;refine E3 (fun h'=>?_) fun h'=>?_
 ·have h':k<x.bz.length:=by omega
  refine B6 ?_;refine Ao (Hm _ _ _) rfl (Ag ?_);refine C2 (fun h=>?_) fun h=>?_
  ·exact Af A0 rfl rfl ⟨A6 vb (Cx fun p=>by have:=(p.2.2.2.2 k h').1;clear hA hI he hS p;simp only [Es] at *;omega),trivial⟩
  have hd:0≤(x.bz.getD k default).am∧(x.bz.getD k default).am≤3:=by clear hA hI he hS hu;simp only [Es] at *;omega
  have hv:=Dm (fun i=>(x.bz.getD i default).am≠(x.bz.getD k default).am);refine Fs [] (fun j:Nat=>[(9,.c (vi j))]) (fun j=>[⟨0,[.c (Ay g.ay),.c (vi g.aq),.c (vi g.cap)]⟩,⟨1,[.c (Aa x.al),.c (Aa x.bq),.c (Aa x.ap),.c (As x.cells),.c (De x.ai),.c (Dz x.ah),.c (Dz x.ao),.c (Hy x.bz)]⟩]) (fun j=>[]) (fun j=>j≤k∧Mv (fun i=>(x.bz.getD i default).am≠(x.bz.getD k default).am) j) (fun j=>k-j) fun j hj=>?_;obtain ⟨hj,hej⟩:=hj;refine E3 (fun h3=>?_) fun h3=>?_
  ·have h3:j<k:=by omega
   first|(refine Ae 7 rfl [0,1,2,3,4,5,6,7,8,9,10,11,12,13,14,15,16,17,18,19,20,21,22,23,24,25,26,27,28,29,30,31,32,33,34,35,36,37,38] Ak (Ag ?_))|(refine Ae 22 rfl [0,1,2,3,4,5,6,7,8,9,10,11,12] Ak (Ag ?_))
   refine B6 ?_;refine Mf (fun h4=>?_) fun h4=>?_
   ·exact Af A0 rfl rfl ⟨A6 vb (Cx fun p=>(p.2.2.2.2 k h').2 j h3 h4),trivial⟩
   refine B6 ?_;refine Co [] (j+1) ⟨by omega,Dl hej h4⟩ A7 ⟨rfl,trivial⟩ trivial
  have e:j=k:=by omega
  refine B6 ?_;refine Co [] (k+1) ⟨by omega,Dl he ⟨hd,fun i hi=>hej i A7⟩⟩ A7 ⟨rfl,trivial⟩ trivial
 have e:k=x.bz.length:=by omega
 exact Af A0 rfl rfl ⟨A6 vb (D7 ⟨hA,hL,hI,hS,fun i hi=>he i A7⟩),trivial⟩
end Go.Proofs.YtmhcebdkjgkmlaaGreatDoor
