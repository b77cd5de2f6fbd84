/- Part 10 of the proof that each of the laws FnColours returns true for every input. No conditions. -/
import Derived.Test.YtdendlkeiaccpaaGreatDoorP8
import Derived.Test.YtdendlkeiaccpaaGreatDoorP9
import Derived.Test.YtdendlkeiaccpaaGreatDoorP7

set_option linter.unusedSimpArgs false
set_option linter.unusedVariables false
set_option maxRecDepth 100000
namespace Go.Proofs.YtdendlkeiaccpaaGreatDoor
open Go.Sx
def Sq (l:List Ae) (i:Nat):Prop:=(l.getD i default).op=0∧(l.getD i default).stamp.turn=0∧(0<i→(l.getD (i-1) default).stamp.epoch≤(l.getD i default).stamp.epoch)
instance (l:List Ae) (i:Nat):Decidable (Sq l i):=by unfold Sq;infer_instance
def A2i (l:List Ae):Prop:=∀i,i<l.length→Sq l i
instance (l:List Ae):Decidable (A2i l):=by unfold A2i;infer_instance
def Gj (n:Int):Prop:= -1000000≤n∧n≤1000000
instance (n:Int):Decidable (Gj n):=by unfold Gj;infer_instance
def A2l (l:List Int):Prop:=∀n∈l,Gj n
instance (l:List Int):Decidable (A2l l):=by unfold A2l;infer_instance
def A66 (l:List Dn) (i:Nat):Prop:=∀k,k<i→(l.getD k default).epoch≠(l.getD i default).epoch
instance (l:List Dn) (i:Nat):Decidable (A66 l i):=by unfold A66;infer_instance
def Qh (l:List Dn) (i:Nat):Prop:=(0≤(l.getD i default).epoch∧(l.getD i default).epoch≤3)∧A66 l i
instance (l:List Dn) (i:Nat):Decidable (Qh l i):=by unfold Qh;infer_instance
def V5 (l:List Dn):Prop:=∀i,i<l.length→Qh l i
instance (l:List Dn):Decidable (V5 l):=by unfold V5;infer_instance
def Lp (n:Nat) (x:Aa):Prop:=(Sr n x.queue∧Sr n x.staged∧Sr n x.inputs∧Mu x.cells)
instance (n:Nat) (x:Aa):Decidable (Lp n x):=by unfold Lp;infer_instance
def My (x:Aa):Prop:=(x.sums.length=4∧x.black.length=4∧x.caps.length=4)
instance (x:Aa):Decidable (My x):=by unfold My;infer_instance
def Cx (n:Nat) (x:Aa):Prop:=Lp n x∧My x∧A2i x.inputs∧A2l x.sums∧V5 x.dones
instance (n:Nat) (x:Aa):Decidable (Cx n x):=by unfold Cx;infer_instance
def Ij (n:Nat) (x:Aa):Bool:=decide (Cx n x)
theorem Vh {l:List Dn}{i:Nat}(h:i≤l.length):(l.take i).any (fun d=>d.epoch==(l.getD i default).epoch)=false↔A66 l i:=by
 rw [List.any_eq_false]
 constructor
 ·intro h1 k hk e
  have hm:l.getD k default∈l.take i:=by
   have hk2:k<(l.take i).length:=by simp;omega
   have:(l.take i).getD k default=l.getD k default:=by simp [List.getD,hk]
   rw [←this];exact Ay hk2
  exact h1 _ hm (by simpa using e)
 intro h1 d hd c
 obtain ⟨k,hk,e⟩:=List.getElem_of_mem hd
 have hk2:k<i:=by simp at hk;omega
 have hk3:k<l.length:=by omega
 refine h1 k hk2 ?_
 rw [List.getD,List.getElem?_eq_getElem hk3]
 simp only [List.getElem_take] at e
 simpa [e] using c
theorem B4p {α:Type} [Inhabited α] {es:Nat}{e:α→List Af}{xs:List α}{k:Nat}(h:k≤xs.length):Vb xs.length es (fun i=>e (xs.getD i default)) 0 (k:Int) (Kq es e (xs.take k)):=by
 have:=A1y (es:=es) (e:=e) (xs:=xs) (l:=0) (h:=(k:Int)) Ac Ac Ac
 simpa using this
theorem A08 (g:Aq)(x:Aa)(hg:g.w≤16777216)(hx:x.w≤16777216):Be Tryz.prog 127 [.agg g.c,.agg x.c] [.one (vb (Ij g.nodes.length x))]:=by
 have hx2:=hx
 simp only [Aa.w] at hx2
 refine B5 A0 false Tryz.func127 rfl Az fun W=>?_
 conv=>whnf
 repeat' (first|(refine J1 ?_;conv=>whnf)|(refine J2 ?_;conv=>whnf)|(refine ⟨fun h=>?_,fun h=>?_⟩<;>conv=>whnf)|(refine At (Po g x.queue hg Ac) rfl (I5 ?_);conv=>whnf)|(refine At (Po g x.staged hg Ac) rfl (I5 ?_);conv=>whnf)|(refine At (Po g x.inputs hg Ac) rfl (I5 ?_);conv=>whnf)|(refine At (A3k x.cells Ac) rfl (I5 ?_);conv=>whnf)|(refine Ep ?_;conv=>whnf)|(refine Ax 6 rfl [0,1,2,3,4,5,6,7,8,9,10,11,12,13,14,15,16,17,18,19,20,21,22,23,24,25,26] A7 (A8 ?_))|(refine Ax 20 rfl [0,1,2,3,4,5,6,7,8,9,10,11,12] A7 (A8 ?_))|fail)
 all_goals try (refine Ap A0 rfl rfl ⟨congrArg vb (decide_eq_false fun p=>?_),trivial⟩;obtain ⟨⟨p1,p2,p3,p4⟩,_⟩:=p;simp_all [Q5,Pl];done)
 have hA:Lp g.nodes.length x:=by unfold Lp;refine ⟨?_,?_,?_,?_⟩<;>simp_all [Q5,Pl]
 rename_i a1 a2 a3
 clear h a1 a2 a3
 have hu:=Da (Sq x.inputs)
 refine C0 A0 false [] (fun k:Nat=>[(39,.c (vi k))]) (fun k=>[⟨0,[.c (Bn g.nodes),.c (vi g.workers),.c (vi g.cap)]⟩,⟨1,[.c (Ag x.queue),.c (Ag x.staged),.c (Ag x.inputs),.c (Bm x.cells),.c (Au x.sums),.c (Dq x.black),.c (Dq x.caps),.c (G1 x.dones)]⟩]) (fun k=>[])
  (fun k=>k≤x.inputs.length∧J4 (Sq x.inputs) k) (fun k=>x.inputs.length-k) 0 ⟨Nat.zero_le _,by first|rfl|assumption|simp⟩ ⟨G3,trivial⟩ Cg trivial Co A7 (fun k hk=>?_)
 obtain ⟨hk,he⟩:=hk
 conv=>whnf
 refine F4 (fun h'=>?_) fun h'=>?_<;>conv=>whnf
 ·have h':k<x.inputs.length:=by omega
  have e1:((k:Int)-1).toNat=k-1:=by omega
  repeat' (first|(refine J1 ?_;conv=>whnf)|(refine J2 ?_;conv=>whnf)|(refine ⟨fun h=>?_,fun h=>?_⟩<;>conv=>whnf)|(refine Ep ?_;conv=>whnf)|(refine Ax 6 rfl [0,1,2,3,4,5,6,7,8,9,10,11,12,13,14,15,16,17,18,19,20,21,22,23,24,25,26] A7 (A8 ?_))|(refine Ax 20 rfl [0,1,2,3,4,5,6,7,8,9,10,11,12] A7 (A8 ?_))|fail)
  all_goals try (refine Ap A0 rfl rfl ⟨congrArg vb (decide_eq_false fun p=>?_),trivial⟩;have p:=p.2.2.1 k h';clear he hA hu;simp only [Sq] at p;simp only [beq_iff_eq,beq_eq_false_iff_ne,bne_iff_ne,bne_eq_false_iff_eq,Bool.not_eq_true',Bool.not_eq_false',Go.Sx.Ah,Go.Sx.Aw,decide_eq_true_eq,decide_eq_false_iff_not,ne_eq,Int.not_lt,Int.not_le,ge_iff_le,gt_iff_lt,Int.toNat_zero,Int.toNat_one,Int.toNat_natCast] at *;first|omega|(simp only [e1] at *;omega))
  all_goals
   have hs:Sq x.inputs k:=by clear he hA hu;simp only [Sq];simp only [beq_iff_eq,beq_eq_false_iff_ne,bne_iff_ne,bne_eq_false_iff_eq,Bool.not_eq_true',Bool.not_eq_false',Go.Sx.Ah,Go.Sx.Aw,decide_eq_true_eq,decide_eq_false_iff_not,ne_eq,Int.not_lt,Int.not_le,ge_iff_le,gt_iff_lt,Int.toNat_zero,Int.toNat_one,Int.toNat_natCast] at *;first|omega|(simp only [e1] at *;omega)
   refine B8 [] (k+1) ⟨by omega,D9 he hs⟩ Ac ⟨rfl,trivial⟩ trivial Cg A7 Co A7
 have e:k=x.inputs.length:=by omega
 have hI:A2i x.inputs:=fun i hi=>he i Ac
 clear he hu
 repeat' (first|(refine J1 ?_;conv=>whnf)|(refine J2 ?_;conv=>whnf)|(refine ⟨fun h=>?_,fun h=>?_⟩<;>conv=>whnf)|(refine Ep ?_;conv=>whnf)|(refine Ax 6 rfl [0,1,2,3,4,5,6,7,8,9,10,11,12,13,14,15,16,17,18,19,20,21,22,23,24,25,26] A7 (A8 ?_))|(refine Ax 20 rfl [0,1,2,3,4,5,6,7,8,9,10,11,12] A7 (A8 ?_))|fail)
 all_goals try (refine Ap A0 rfl rfl ⟨congrArg vb (decide_eq_false fun p=>?_),trivial⟩;obtain ⟨p1,p2,p3⟩:=p.2.1;clear hA hI p;simp only [beq_iff_eq,beq_eq_false_iff_ne,bne_iff_ne,bne_eq_false_iff_eq,Bool.not_eq_true',Bool.not_eq_false',Go.Sx.Ah,Go.Sx.Aw,decide_eq_true_eq,decide_eq_false_iff_not,ne_eq,Int.not_lt,Int.not_le,ge_iff_le,gt_iff_lt,Int.toNat_zero,Int.toNat_one,Int.toNat_natCast] at *;omega)
 have hL:My x:=by clear hA hI;unfold My;simp only [beq_iff_eq,beq_eq_false_iff_ne,bne_iff_ne,bne_eq_false_iff_eq,Bool.not_eq_true',Bool.not_eq_false',Go.Sx.Ah,Go.Sx.Aw,decide_eq_true_eq,decide_eq_false_iff_not,ne_eq,Int.not_lt,Int.not_le,ge_iff_le,gt_iff_lt,Int.toNat_zero,Int.toNat_one,Int.toNat_natCast] at *;omega
 rename_i a1 a2
 clear h a1 a2
 have hu:=Da (fun i=>Gj (x.sums.getD i default))
 refine C0 A0 false [] (fun k:Nat=>[(91,.c (vi k))]) (fun k=>[⟨0,[.c (Bn g.nodes),.c (vi g.workers),.c (vi g.cap)]⟩,⟨1,[.c (Ag x.queue),.c (Ag x.staged),.c (Ag x.inputs),.c (Bm x.cells),.c (Au x.sums),.c (Dq x.black),.c (Dq x.caps),.c (G1 x.dones)]⟩]) (fun k=>[])
  (fun k=>k≤x.sums.length∧J4 (fun i=>Gj (x.sums.getD i default)) k) (fun k=>x.sums.length-k) 0 ⟨Nat.zero_le _,by first|rfl|assumption|simp⟩ ⟨G3,trivial⟩ Cg trivial Co A7 (fun k hk=>?_)
 obtain ⟨hk,he⟩:=hk
 conv=>whnf
 refine F4 (fun h'=>?_) fun h'=>?_<;>conv=>whnf
 ·have h':k<x.sums.length:=by omega
  (repeat refine An ?_)
  refine At (I3 _ _ _) rfl (A8 ?_)
  refine ⟨fun h=>?_,fun h=>?_⟩<;>conv=>whnf
  ·exact Ap A0 rfl rfl ⟨congrArg vb (decide_eq_false fun p=>by have:=p.2.2.2.1 _ (Ay (d:=default) h');clear hA hI he p;simp only [Gj] at this;simp only [beq_iff_eq,beq_eq_false_iff_ne,bne_iff_ne,bne_eq_false_iff_eq,Bool.not_eq_true',Bool.not_eq_false',Go.Sx.Ah,Go.Sx.Aw,decide_eq_true_eq,decide_eq_false_iff_not,ne_eq,Int.not_lt,Int.not_le,ge_iff_le,gt_iff_lt,Int.toNat_zero,Int.toNat_one,Int.toNat_natCast] at *;omega),trivial⟩
  (repeat refine An ?_)
  refine B8 [] (k+1) ⟨by omega,D9 he (by clear he hA hI;simp only [Gj];simp only [beq_iff_eq,beq_eq_false_iff_ne,bne_iff_ne,bne_eq_false_iff_eq,Bool.not_eq_true',Bool.not_eq_false',Go.Sx.Ah,Go.Sx.Aw,decide_eq_true_eq,decide_eq_false_iff_not,ne_eq,Int.not_lt,Int.not_le,ge_iff_le,gt_iff_lt,Int.toNat_zero,Int.toNat_one,Int.toNat_natCast] at *;omega)⟩ Ac ⟨rfl,trivial⟩ trivial Cg A7 Co A7
 have e:k=x.sums.length:=by omega
 have hS:A2l x.sums:=Gg (p:=Gj) (e▸he)
 clear he hu
 have hu:=Da (Qh x.dones)
 refine C0 A0 false [] (fun k:Nat=>[(102,.c (vi k))]) (fun k=>[⟨0,[.c (Bn g.nodes),.c (vi g.workers),.c (vi g.cap)]⟩,⟨1,[.c (Ag x.queue),.c (Ag x.staged),.c (Ag x.inputs),.c (Bm x.cells),.c (Au x.sums),.c (Dq x.black),.c (Dq x.caps),.c (G1 x.dones)]⟩]) (fun k=>[])
  (fun k=>k≤x.dones.length∧J4 (Qh x.dones) k) (fun k=>x.dones.length-k) 0 ⟨Nat.zero_le _,by first|rfl|assumption|simp⟩ ⟨G3,trivial⟩ Cg trivial Co A7 (fun k hk=>?_)
 obtain ⟨hk,he⟩:=hk
 conv=>whnf
 refine F4 (fun h'=>?_) fun h'=>?_<;>conv=>whnf
 ·have h':k<x.dones.length:=by omega
  repeat' (first|(refine J1 ?_;conv=>whnf)|(refine J2 ?_;conv=>whnf)|(refine ⟨fun h=>?_,fun h=>?_⟩<;>conv=>whnf)|(refine At (I3 _ _ _) rfl (A8 ?_))|(refine Ep ?_;conv=>whnf)|(refine Ax 6 rfl [0,1,2,3,4,5,6,7,8,9,10,11,12,13,14,15,16,17,18,19,20,21,22,23,24,25,26] A7 (A8 ?_))|(refine Ax 20 rfl [0,1,2,3,4,5,6,7,8,9,10,11,12] A7 (A8 ?_))|fail)
  ·exact Ap A0 rfl rfl ⟨congrArg vb (decide_eq_false fun p=>by have:=(p.2.2.2.2 k h').1;clear hA hI he hS p;simp only [beq_iff_eq,beq_eq_false_iff_ne,bne_iff_ne,bne_eq_false_iff_eq,Bool.not_eq_true',Bool.not_eq_false',Go.Sx.Ah,Go.Sx.Aw,decide_eq_true_eq,decide_eq_false_iff_not,ne_eq,Int.not_lt,Int.not_le,ge_iff_le,gt_iff_lt,Int.toNat_zero,Int.toNat_one,Int.toNat_natCast] at *;omega),trivial⟩
  have hd:0≤(x.dones.getD k default).epoch∧(x.dones.getD k default).epoch≤3:=by clear hA hI he hS hu;simp only [beq_iff_eq,beq_eq_false_iff_ne,bne_iff_ne,bne_eq_false_iff_eq,Bool.not_eq_true',Bool.not_eq_false',Go.Sx.Ah,Go.Sx.Aw,decide_eq_true_eq,decide_eq_false_iff_not,ne_eq,Int.not_lt,Int.not_le,ge_iff_le,gt_iff_lt,Int.toNat_zero,Int.toNat_one,Int.toNat_natCast] at *;omega
  refine Nl A0 rfl rfl rfl rfl rfl rfl rfl rfl rfl ⟨by omega,by omega,by omega⟩ (G1 (x.dones.take k)) (B4p Ac) (A8 ?_)
  repeat refine Bd ?_
  refine At (Wc (x.dones.take k) (x.dones.getD k default).epoch (by simp only [List.length_take];omega)) rfl (A8 ?_)
  repeat refine Bd ?_
  refine ⟨fun h2=>?_,fun h2=>?_⟩<;>conv=>whnf
  ·exact Ap A0 rfl rfl ⟨congrArg vb (decide_eq_false fun p=>by have:=(Vh Ac).2 (p.2.2.2.2 k h').2;rw [this] at h2;exact absurd h2 Az),trivial⟩
  (repeat refine An ?_)
  refine B8 [] (k+1) ⟨by omega,D9 he ⟨hd,(Vh Ac).1 h2⟩⟩ Ac ⟨rfl,trivial⟩ trivial Cg A7 Co A7
 have e:k=x.dones.length:=by omega
 exact Ap A0 rfl rfl ⟨congrArg vb (decide_eq_true ⟨hA,hL,hI,hS,fun i hi=>he i Ac⟩),trivial⟩
theorem Nt (g:Aq)(x:Aa)(hg:g.w≤16777216)(hx:x.w≤16777216):Be Tryz.prog 137 [.agg g.c,.agg x.c] [.one (vb (Ij g.nodes.length x))]:=by
 have hx2:=hx
 simp only [Aa.w] at hx2
 refine B5 A0 false Tryz.func137 rfl Az fun W=>?_
 conv=>whnf
 repeat' (first|(refine J1 ?_;conv=>whnf)|(refine J2 ?_;conv=>whnf)|(refine ⟨fun h=>?_,fun h=>?_⟩<;>conv=>whnf)|(refine At (Pv g x.queue hg Ac) rfl (I5 ?_);conv=>whnf)|(refine At (Pv g x.staged hg Ac) rfl (I5 ?_);conv=>whnf)|(refine At (Pv g x.inputs hg Ac) rfl (I5 ?_);conv=>whnf)|(refine At (A4n x.cells Ac) rfl (I5 ?_);conv=>whnf)|(refine Ep ?_;conv=>whnf)|(refine Ax 7 rfl [0,1,2,3,4,5,6,7,8,9,10,11,12,13,14,15,16,17,18,19,20,21,22,23,24,25,26,27,28,29,30,31,32,33,34,35,36,37,38] A7 (A8 ?_))|(refine Ax 22 rfl [0,1,2,3,4,5,6,7,8,9,10,11,12] A7 (A8 ?_))|fail)
 all_goals try (refine Ap A0 rfl rfl ⟨congrArg vb (decide_eq_false fun p=>?_),trivial⟩;obtain ⟨⟨p1,p2,p3,p4⟩,⟨p5,p6,p7⟩,_⟩:=p;first|(simp only [beq_iff_eq,beq_eq_false_iff_ne,bne_iff_ne,bne_eq_false_iff_eq,Bool.not_eq_true',Bool.not_eq_false',Go.Sx.Ah,Go.Sx.Aw,decide_eq_true_eq,decide_eq_false_iff_not,ne_eq,Int.not_lt,Int.not_le,ge_iff_le,gt_iff_lt,Int.toNat_zero,Int.toNat_one,Int.toNat_natCast] at *;omega)|(simp_all [Q5,Pl];done))
 have hA:Lp g.nodes.length x:=by unfold Lp;refine ⟨?_,?_,?_,?_⟩<;>simp_all [Q5,Pl]
 have hL:My x:=by clear hA;unfold My;simp only [beq_iff_eq,beq_eq_false_iff_ne,bne_iff_ne,bne_eq_false_iff_eq,Bool.not_eq_true',Bool.not_eq_false',Go.Sx.Ah,Go.Sx.Aw,decide_eq_true_eq,decide_eq_false_iff_not,ne_eq,Int.not_lt,Int.not_le,ge_iff_le,gt_iff_lt,Int.toNat_zero,Int.toNat_one,Int.toNat_natCast] at *;omega
 rename_i a1 a2 a3 a4 a5 a6
 clear h a1 a2 a3 a4 a5 a6
 have hu:=Da (Sq x.inputs)
 refine C0 A0 false [] (fun k:Nat=>[(6,.c (vi k))]) (fun k=>[⟨0,[.c (Bn g.nodes),.c (vi g.workers),.c (vi g.cap)]⟩,⟨1,[.c (Ag x.queue),.c (Ag x.staged),.c (Ag x.inputs),.c (Bm x.cells),.c (Au x.sums),.c (Dq x.black),.c (Dq x.caps),.c (G1 x.dones)]⟩]) (fun k=>[])
  (fun k=>k≤x.inputs.length∧J4 (Sq x.inputs) k) (fun k=>x.inputs.length-k) 0 ⟨Nat.zero_le _,by first|rfl|assumption|simp⟩ ⟨G3,trivial⟩ Cg trivial Co A7 (fun k hk=>?_)
 obtain ⟨hk,he⟩:=hk
 conv=>whnf
 refine F4 (fun h'=>?_) fun h'=>?_<;>conv=>whnf
 ·have h':k<x.inputs.length:=by omega
  have e1:((k:Int)-1).toNat=k-1:=by omega
  repeat' (first|(refine J1 ?_;conv=>whnf)|(refine J2 ?_;conv=>whnf)|(refine ⟨fun h=>?_,fun h=>?_⟩<;>conv=>whnf)|(refine Ep ?_;conv=>whnf)|(refine Ax 7 rfl [0,1,2,3,4,5,6,7,8,9,10,11,12,13,14,15,16,17,18,19,20,21,22,23,24,25,26,27,28,29,30,31,32,33,34,35,36,37,38] A7 (A8 ?_))|(refine Ax 22 rfl [0,1,2,3,4,5,6,7,8,9,10,11,12] A7 (A8 ?_))|fail)
  all_goals try (refine Ap A0 rfl rfl ⟨congrArg vb (decide_eq_false fun p=>?_),trivial⟩;have p:=p.2.2.1 k h';clear he hA hL hu;simp only [Sq] at p;simp only [beq_iff_eq,beq_eq_false_iff_ne,bne_iff_ne,bne_eq_false_iff_eq,Bool.not_eq_true',Bool.not_eq_false',Go.Sx.Ah,Go.Sx.Aw,decide_eq_true_eq,decide_eq_false_iff_not,ne_eq,Int.not_lt,Int.not_le,ge_iff_le,gt_iff_lt,Int.toNat_zero,Int.toNat_one,Int.toNat_natCast] at *;first|omega|(simp only [e1] at *;omega))
  all_goals
   have hs:Sq x.inputs k:=by clear he hA hL hu;simp only [Sq];simp only [beq_iff_eq,beq_eq_false_iff_ne,bne_iff_ne,bne_eq_false_iff_eq,Bool.not_eq_true',Bool.not_eq_false',Go.Sx.Ah,Go.Sx.Aw,decide_eq_true_eq,decide_eq_false_iff_not,ne_eq,Int.not_lt,Int.not_le,ge_iff_le,gt_iff_lt,Int.toNat_zero,Int.toNat_one,Int.toNat_natCast] at *;first|omega|(simp only [e1] at *;omega)
   refine B8 [] (k+1) ⟨by omega,D9 he hs⟩ Ac ⟨rfl,trivial⟩ trivial Cg A7 Co A7
 have e:k=x.inputs.length:=by omega
 have hI:A2i x.inputs:=fun i hi=>he i Ac
 clear he hu
 have hsl:x.sums.length=4:=hL.1
 have hu:=Da (fun i=>Gj (x.sums.getD i default))
 refine C0 A0 false [] (fun k:Nat=>[(7,.c (vi k))]) (fun k=>[⟨0,[.c (Bn g.nodes),.c (vi g.workers),.c (vi g.cap)]⟩,⟨1,[.c (Ag x.queue),.c (Ag x.staged),.c (Ag x.inputs),.c (Bm x.cells),.c (Au x.sums),.c (Dq x.black),.c (Dq x.caps),.c (G1 x.dones)]⟩]) (fun k=>[])
  (fun k=>k≤x.sums.length∧J4 (fun i=>Gj (x.sums.getD i default)) k) (fun k=>x.sums.length-k) 0 ⟨Nat.zero_le _,by first|rfl|assumption|simp⟩ ⟨G3,trivial⟩ Cg trivial Co A7 (fun k hk=>?_)
 obtain ⟨hk,he⟩:=hk
 conv=>whnf
 refine F4 (fun h'=>?_) fun h'=>?_<;>conv=>whnf
 ·have h':k<x.sums.length:=by omega
  (repeat refine An ?_)
  refine At (Fc _ _ _) rfl (A8 ?_)
  refine ⟨fun h=>?_,fun h=>?_⟩<;>conv=>whnf
  ·exact Ap A0 rfl rfl ⟨congrArg vb (decide_eq_false fun p=>by have:=p.2.2.2.1 _ (Ay (d:=default) h');clear hA hI he p;simp only [Gj] at this;simp only [beq_iff_eq,beq_eq_false_iff_ne,bne_iff_ne,bne_eq_false_iff_eq,Bool.not_eq_true',Bool.not_eq_false',Go.Sx.Ah,Go.Sx.Aw,decide_eq_true_eq,decide_eq_false_iff_not,ne_eq,Int.not_lt,Int.not_le,ge_iff_le,gt_iff_lt,Int.toNat_zero,Int.toNat_one,Int.toNat_natCast] at *;omega),trivial⟩
  (repeat refine An ?_)
  refine B8 [] (k+1) ⟨by omega,D9 he (by clear he hA hI;simp only [Gj];simp only [beq_iff_eq,beq_eq_false_iff_ne,bne_iff_ne,bne_eq_false_iff_eq,Bool.not_eq_true',Bool.not_eq_false',Go.Sx.Ah,Go.Sx.Aw,decide_eq_true_eq,decide_eq_false_iff_not,ne_eq,Int.not_lt,Int.not_le,ge_iff_le,gt_iff_lt,Int.toNat_zero,Int.toNat_one,Int.toNat_natCast] at *;omega)⟩ Ac ⟨rfl,trivial⟩ trivial Cg A7 Co A7
 have e:k=x.sums.length:=by omega
 have hS:A2l x.sums:=Gg (p:=Gj) (e▸he)
 clear he hu
 have hu:=Da (Qh x.dones)
 refine C0 A0 false [] (fun k:Nat=>[(8,.c (vi k))]) (fun k=>[⟨0,[.c (Bn g.nodes),.c (vi g.workers),.c (vi g.cap)]⟩,⟨1,[.c (Ag x.queue),.c (Ag x.staged),.c (Ag x.inputs),.c (Bm x.cells),.c (Au x.sums),.c (Dq x.black),.c (Dq x.caps),.c (G1 x.dones)]⟩]) (fun k=>[])
  (fun k=>k≤x.dones.length∧J4 (Qh x.dones) k) (fun k=>x.dones.length-k) 0 ⟨Nat.zero_le _,by first|rfl|assumption|simp⟩ ⟨G3,trivial⟩ Cg trivial Co A7 (fun k hk=>?_)
 obtain ⟨hk,he⟩:=hk
 conv=>whnf
 refine F4 (fun h'=>?_) fun h'=>?_<;>conv=>whnf
 ·have h':k<x.dones.length:=by omega
  (repeat refine An ?_)
  refine At (Fc _ _ _) rfl (A8 ?_)
  refine ⟨fun h=>?_,fun h=>?_⟩<;>conv=>whnf
  ·exact Ap A0 rfl rfl ⟨congrArg vb (decide_eq_false fun p=>by have:=(p.2.2.2.2 k h').1;clear hA hI he hS p;simp only [beq_iff_eq,beq_eq_false_iff_ne,bne_iff_ne,bne_eq_false_iff_eq,Bool.not_eq_true',Bool.not_eq_false',Go.Sx.Ah,Go.Sx.Aw,decide_eq_true_eq,decide_eq_false_iff_not,ne_eq,Int.not_lt,Int.not_le,ge_iff_le,gt_iff_lt,Int.toNat_zero,Int.toNat_one,Int.toNat_natCast] at *;omega),trivial⟩
  have hd:0≤(x.dones.getD k default).epoch∧(x.dones.getD k default).epoch≤3:=by clear hA hI he hS hu;simp only [beq_iff_eq,beq_eq_false_iff_ne,bne_iff_ne,bne_eq_false_iff_eq,Bool.not_eq_true',Bool.not_eq_false',Go.Sx.Ah,Go.Sx.Aw,decide_eq_true_eq,decide_eq_false_iff_not,ne_eq,Int.not_lt,Int.not_le,ge_iff_le,gt_iff_lt,Int.toNat_zero,Int.toNat_one,Int.toNat_natCast] at *;omega
  have hv:=Da (fun i=>(x.dones.getD i default).epoch≠(x.dones.getD k default).epoch)
  refine C0 A0 false [] (fun j:Nat=>[(9,.c (vi j))]) (fun j=>[⟨0,[.c (Bn g.nodes),.c (vi g.workers),.c (vi g.cap)]⟩,⟨1,[.c (Ag x.queue),.c (Ag x.staged),.c (Ag x.inputs),.c (Bm x.cells),.c (Au x.sums),.c (Dq x.black),.c (Dq x.caps),.c (G1 x.dones)]⟩]) (fun j=>[])
   (fun j=>j≤k∧J4 (fun i=>(x.dones.getD i default).epoch≠(x.dones.getD k default).epoch) j) (fun j=>k-j) 0 ⟨Nat.zero_le _,by first|rfl|assumption|simp⟩ ⟨G3,trivial⟩ Cg trivial Co A7 (fun j hj=>?_)
  obtain ⟨hj,hej⟩:=hj
  conv=>whnf
  refine F4 (fun h3=>?_) fun h3=>?_<;>conv=>whnf
  ·have h3:j<k:=by omega
   first|(refine Ax 7 rfl [0,1,2,3,4,5,6,7,8,9,10,11,12,13,14,15,16,17,18,19,20,21,22,23,24,25,26,27,28,29,30,31,32,33,34,35,36,37,38] A7 (A8 ?_))|(refine Ax 22 rfl [0,1,2,3,4,5,6,7,8,9,10,11,12] A7 (A8 ?_))
   (repeat refine An ?_)
   refine ⟨fun h4=>have h4:=eq_of_beq h4;?_,fun h4=>have h4:=beq_eq_false_iff_ne.1 h4;?_⟩<;>conv=>whnf
   ·exact Ap A0 rfl rfl ⟨congrArg vb (decide_eq_false fun p=>(p.2.2.2.2 k h').2 j h3 h4),trivial⟩
   (repeat refine An ?_)
   refine B8 [] (j+1) ⟨by omega,D9 hej h4⟩ Ac ⟨rfl,trivial⟩ trivial Cg A7 Co A7
  have e:j=k:=by omega
  (repeat refine An ?_)
  refine B8 [] (k+1) ⟨by omega,D9 he ⟨hd,fun i hi=>hej i Ac⟩⟩ Ac ⟨rfl,trivial⟩ trivial Cg A7 Co A7
 have e:k=x.dones.length:=by omega
 exact Ap A0 rfl rfl ⟨congrArg vb (decide_eq_true ⟨hA,hL,hI,hS,fun i hi=>he i Ac⟩),trivial⟩
theorem A3m (g:Aq)(hg:g.w≤16777216):Be Tryz.prog 126 [.agg g.c] [.one (vb (Hi g))]:=by
 have hn:=Aq.nodes_le hg
 have hu:=Da (Ln g)
 refine B5 A0 false Tryz.func126 rfl Az fun W=>?_
 conv=>whnf
 repeat' (first|(refine J1 ?_;conv=>whnf)|(refine J2 ?_;conv=>whnf)|(refine ⟨fun h=>?_,fun h=>?_⟩<;>conv=>whnf)|(refine At (I3 _ _ _) rfl (A8 ?_))|(refine Ep ?_;conv=>whnf)|fail)
 all_goals try (refine Ap A0 rfl rfl ⟨congrArg vb (decide_eq_false fun p=>?_),trivial⟩;have p1:=p.1;have p2:=p.2.1;have p3:=p.2.2.1;clear p;simp only [beq_iff_eq,beq_eq_false_iff_ne,bne_iff_ne,bne_eq_false_iff_eq,Bool.not_eq_true',Bool.not_eq_false',Go.Sx.Ah,Go.Sx.Aw,decide_eq_true_eq,decide_eq_false_iff_not,ne_eq,Int.not_lt,Int.not_le,ge_iff_le,gt_iff_lt,Int.toNat_zero,Int.toNat_one,Int.toNat_natCast] at * <;>omega)
 refine C0 A0 false [] (fun k:Nat=>[(28,.c (vi k))]) (fun k=>[⟨0,[.c (Bn g.nodes),.c (vi g.workers),.c (vi g.cap)]⟩]) (fun k=>[])
  (fun k=>k≤g.nodes.length∧J4 (Ln g) k) (fun k=>g.nodes.length-k) 0 ⟨Nat.zero_le _,by first|rfl|assumption|simp⟩ ⟨G3,trivial⟩ Cg trivial Co A7 (fun k hk=>?_)
 obtain ⟨hk,he⟩:=hk
 conv=>whnf
 refine F4 (fun h'=>?_) fun h'=>?_<;>conv=>whnf
 ·have h':k<g.nodes.length:=by omega
  have hw:=Aq.node_le hg h'
  have hq:(g.nodes.getD k default).outs.length≤16777216:=hw
  have hv:=Da (fun j=>O8 g k (g.nodes.getD k default) ((g.nodes.getD k default).outs.getD j default))
  repeat' (first|(refine J1 ?_;conv=>whnf)|(refine J2 ?_;conv=>whnf)|(refine ⟨fun h=>?_,fun h=>?_⟩<;>conv=>whnf)|(refine At (A52 (g.nodes.getD k default) hw) rfl (I5 ?_);conv=>whnf)|(refine Ep ?_;conv=>whnf)|fail)
  ·exact Ap A0 rfl rfl ⟨congrArg vb (decide_eq_false fun p=>by rw [show Mb (g.nodes.getD k default)=true from decide_eq_true (p.2.2.2 k h').1] at h;exact absurd h Az),trivial⟩
  ·exact Ap A0 rfl rfl ⟨congrArg vb (decide_eq_false fun p=>B3s h (p.2.2.2 k h').2.1),trivial⟩
  rename_i hno
  have hN:K6 (g.nodes.getD k default):=of_decide_eq_true (show Mb (g.nodes.getD k default)=true by cases hq2:Mb (g.nodes.getD k default)<;>simp_all only [Bool.not_false,Bool.true_eq_false])
  have hK:(g.nodes.getD k default).kind=1↔k=0:=B3r h
  have hO:=hN.2.2.2.2.2.2.2.2
  refine C0 A0 false [] (fun j:Nat=>[(47,.c (vi j))]) (fun j=>[⟨0,[.c (Bn g.nodes),.c (vi g.workers),.c (vi g.cap)]⟩,⟨1,[.c (vi (g.nodes.getD k default).kind),.c (vi (g.nodes.getD k default).a),.c (vi (g.nodes.getD k default).b),.c (Au (g.nodes.getD k default).outs)]⟩]) (fun j=>[])
   (fun j=>j≤(g.nodes.getD k default).outs.length∧J4 (fun j=>O8 g k (g.nodes.getD k default) ((g.nodes.getD k default).outs.getD j default)) j) (fun j=>(g.nodes.getD k default).outs.length-j) 0 ⟨Nat.zero_le _,by first|rfl|assumption|simp⟩ ⟨G3,trivial⟩ Cg trivial Co A7 (fun j hj=>?_)
  obtain ⟨hj,hej⟩:=hj
  conv=>whnf
  refine F4 (fun h2=>?_) fun h2=>?_<;>conv=>whnf
  ·have h2:j<(g.nodes.getD k default).outs.length:=by first|omega|(simp only [Int.toNat_natCast] at h2;omega)
   have hb:=hO _ (Ay (d:=default) h2)
   repeat' (first|(refine J1 ?_;conv=>whnf)|(refine J2 ?_;conv=>whnf)|(refine ⟨fun h=>?_,fun h=>?_⟩<;>conv=>whnf)|(refine Ep ?_;conv=>whnf)|fail)
   all_goals try (refine Ap A0 rfl rfl ⟨congrArg vb (decide_eq_false fun p=>?_),trivial⟩;have q:=(p.2.2.2 k h').2.2 _ (Ay (d:=default) h2);clear p hej he hv hu hN hK hO;simp only [O8,T1] at q;simp only [beq_iff_eq,beq_eq_false_iff_ne,bne_iff_ne,bne_eq_false_iff_eq,Bool.not_eq_true',Bool.not_eq_false',Go.Sx.Ah,Go.Sx.Aw,decide_eq_true_eq,decide_eq_false_iff_not,ne_eq,Int.not_lt,Int.not_le,ge_iff_le,gt_iff_lt,Int.toNat_zero,Int.toNat_one,Int.toNat_natCast] at * <;>omega)
   all_goals
    refine B8 [] (j+1) ⟨by omega,D9 hej (by clear hej he hv hu hN hK hO;simp only [O8,T1];simp only [beq_iff_eq,beq_eq_false_iff_ne,bne_iff_ne,bne_eq_false_iff_eq,Bool.not_eq_true',Bool.not_eq_false',Go.Sx.Ah,Go.Sx.Aw,decide_eq_true_eq,decide_eq_false_iff_not,ne_eq,Int.not_lt,Int.not_le,ge_iff_le,gt_iff_lt,Int.toNat_zero,Int.toNat_one,Int.toNat_natCast] at * <;>omega)⟩ Ac ⟨rfl,trivial⟩ trivial Cg A7 Co A7
  have e:j=(g.nodes.getD k default).outs.length:=by first|omega|(simp only [Int.toNat_natCast] at h2;omega)
  (repeat refine An ?_)
  refine B8 [] (k+1) ⟨by omega,D9 he ⟨hN,hK,Gg (e▸hej)⟩⟩ Ac ⟨rfl,trivial⟩ trivial Cg A7 Co A7
 have e:k=g.nodes.length:=by omega
 exact Ap A0 rfl rfl ⟨congrArg vb (decide_eq_true ⟨by simp only [beq_iff_eq,beq_eq_false_iff_ne,bne_iff_ne,bne_eq_false_iff_eq,Bool.not_eq_true',Bool.not_eq_false',Go.Sx.Ah,Go.Sx.Aw,decide_eq_true_eq,decide_eq_false_iff_not,ne_eq,Int.not_lt,Int.not_le,ge_iff_le,gt_iff_lt,Int.toNat_zero,Int.toNat_one,Int.toNat_natCast] at * <;>omega,by simp only [beq_iff_eq,beq_eq_false_iff_ne,bne_iff_ne,bne_eq_false_iff_eq,Bool.not_eq_true',Bool.not_eq_false',Go.Sx.Ah,Go.Sx.Aw,decide_eq_true_eq,decide_eq_false_iff_not,ne_eq,Int.not_lt,Int.not_le,ge_iff_le,gt_iff_lt,Int.toNat_zero,Int.toNat_one,Int.toNat_natCast] at * <;>omega,by simp only [beq_iff_eq,beq_eq_false_iff_ne,bne_iff_ne,bne_eq_false_iff_eq,Bool.not_eq_true',Bool.not_eq_false',Go.Sx.Ah,Go.Sx.Aw,decide_eq_true_eq,decide_eq_false_iff_not,ne_eq,Int.not_lt,Int.not_le,ge_iff_le,gt_iff_lt,Int.toNat_zero,Int.toNat_one,Int.toNat_natCast] at * <;>omega,e▸he⟩),trivial⟩
end Go.Proofs.YtdendlkeiaccpaaGreatDoor
