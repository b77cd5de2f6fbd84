/- Part 11 of the proof that each of the laws FnTotals returns true for every input. No conditions. -/
import Derived.Test.YtdendlkeiaccpaaGreatP4
import Derived.Test.YtdendlkeiaccpaaGreatP6
import Derived.Test.YtdendlkeiaccpaaGreatP10

set_option linter.unusedSimpArgs false
set_option linter.unusedVariables false
set_option maxRecDepth 100000
namespace Go.Proofs.YtdendlkeiaccpaaGreat
open Go.Sx
theorem Se (xs:List A9)(e:Int)(hx:xs.length≤16777216):Bi Tryz.prog 241 [.one (Aa xs),.one (vi e)] [.one (Aa (Gz xs e))]:=by
 refine Bd A0 false Tryz.func241 rfl Aw fun W=>?_
 conv=>whnf
 refine Dv 0 (Aa []) rfl Ds ?_
 refine Bv A0 false [7] (fun k:Nat=>[(6,.c (vi k))]) (fun k=>[]) (fun k=>[⟨0,Aa (Gz (xs.take k) e)⟩])
  (fun k=>k≤xs.length) (fun k=>xs.length-k) 0 (Nat.zero_le _) ⟨F3,trivial⟩ trivial ⟨F2,trivial⟩ Cj A7 (fun k hk=>?_)
 conv=>whnf
 refine Es (fun h=>?_) fun h=>?_<;>conv=>whnf
 ·have h:k<xs.length:=by omega
  have hs:=Hm (fun r=>r.stamp.epoch==e) xs k h
  have hb:=Fe (fun r=>r.stamp.epoch==e) xs k
  (repeat refine Am ?_)
  refine ⟨fun hc=>?_,fun hc=>?_⟩<;>conv=>whnf
  ·(repeat refine Am ?_)
   refine Av A0 rfl rfl rfl rfl rfl rfl rfl rfl rfl rfl rfl (Aa (Gz (xs.take k) e++[xs.getD k default])) (Ad rfl) Bj (by show (List.filter _ _).length+1≤_;omega) (A8 ?_)
   (repeat refine Am ?_)
   refine B6 [(0,2)] (k+1) Ab Ab ⟨rfl,trivial⟩ ⟨congrArg Aa (by show _=List.filter _ _;rw [hs];exact congrArg (fun l=>List.filter _ (xs.take k)++l) (if_pos hc).symm),trivial⟩ trivial A7 Cj A7
  (repeat refine Am ?_)
  refine B6 [] (k+1) Ab Ab ⟨rfl,trivial⟩ ⟨congrArg Aa (by show _=List.filter _ _;rw [hs];exact (List.append_nil _).symm.trans (congrArg (fun l=>List.filter _ (xs.take k)++l) (if_neg (Bool.eq_false_iff.1 hc)).symm)),trivial⟩ trivial A7 Cj A7
 refine B2 A0 rfl rfl ⟨?_,trivial⟩
 exact congrArg (fun l=>Aa (Gz l e)) (E6 xs k Ab)
theorem A3m (x:Ac)(e:Int)(h:x.w≤16777216):Bi Tryz.prog 213 [.agg x.c,.one (vi e)] [.one (vb (A21 x e))]:=by
 have hl:x.inputs.length≤16777216:=by simp only [Ac.w] at h;omega
 refine Bd A0 false Tryz.func213 rfl Aw fun W=>?_
 conv=>whnf
 refine Bv A0 false [] (fun k:Nat=>[(5,.c (vi k))]) (fun k=>[⟨0,[.c (Aa x.queue),.c (Aa x.staged),.c (Aa x.inputs),.c (Bg x.cells),.c (Ap x.sums),.c (Eg x.black),.c (Eg x.caps),.c (Il x.dones)]⟩]) (fun k=>[])
  (fun k=>k≤x.inputs.length∧(x.inputs.take k).any (fun r=>decide (r.stamp.epoch≤e))=false) (fun k=>x.inputs.length-k) 0 ⟨Nat.zero_le _,by first|rfl|assumption|simp⟩ ⟨F3,trivial⟩ Cf trivial Cj A7 (fun k hk=>?_)
 obtain ⟨hk,he⟩:=hk
 conv=>whnf
 refine Es (fun h=>?_) fun h=>?_<;>conv=>whnf
 ·have h:k<x.inputs.length:=by omega
  (repeat refine Am ?_)
  refine ⟨fun hc=>?_,fun hc=>?_⟩<;>conv=>whnf
  ·exact B2 A0 rfl rfl ⟨congrArg vb (Mz h hc),trivial⟩
  (repeat refine Am ?_)
  refine B6 [] (k+1) ⟨by omega,Hz he h hc⟩ Ab ⟨rfl,trivial⟩ trivial Cf A7 Cj A7
 exact B2 A0 rfl rfl ⟨congrArg vb (by rw [E6 x.inputs k Ab] at he;exact he),trivial⟩
theorem Vb (x:Ac)(e:Int)(h:x.w≤16777216):Bi Tryz.prog 189 [.agg x.c,.one (vi e)] [.one (vb (G0 x e))]:=by
 have hl:x.dones.length≤16777216:=by simp only [Ac.w] at h;omega
 refine Bd A0 false Tryz.func189 rfl Aw fun W=>?_
 conv=>whnf
 refine Bv A0 false [] (fun k:Nat=>[(5,.c (vi k))]) (fun k=>[⟨0,[.c (Aa x.queue),.c (Aa x.staged),.c (Aa x.inputs),.c (Bg x.cells),.c (Ap x.sums),.c (Eg x.black),.c (Eg x.caps),.c (Il x.dones)]⟩]) (fun k=>[])
  (fun k=>k≤x.dones.length∧(x.dones.take k).any (fun d=>d.epoch==e)=false) (fun k=>x.dones.length-k) 0 ⟨Nat.zero_le _,by first|rfl|assumption|simp⟩ ⟨F3,trivial⟩ Cf trivial Cj A7 (fun k hk=>?_)
 obtain ⟨hk,he⟩:=hk
 conv=>whnf
 refine Es (fun h=>?_) fun h=>?_<;>conv=>whnf
 ·have h:k<x.dones.length:=by omega
  (repeat refine Am ?_)
  refine ⟨fun hc=>?_,fun hc=>?_⟩<;>conv=>whnf
  ·exact B2 A0 rfl rfl ⟨congrArg vb (Mz h hc),trivial⟩
  (repeat refine Am ?_)
  refine B6 [] (k+1) ⟨by omega,Hz he h hc⟩ Ab ⟨rfl,trivial⟩ trivial Cf A7 Cj A7
 exact B2 A0 rfl rfl ⟨congrArg vb (by rw [E6 x.dones k Ab] at he;exact he),trivial⟩
theorem A3o (x:Ac)(e:Int)(h:x.w≤16777216):Bi Tryz.prog 214 [.agg x.c,.one (vi e)] [.one (vi (A3z x e))]:=by
 simp only [Ac.w] at h
 have h1:=P6 x.queue e
 have h2:=P6 x.staged e
 refine Bd A0 false Tryz.func214 rfl Aw fun W=>?_
 conv=>whnf
 first|(refine B5 1 rfl [0,1,2,5,6,7,3,4,8,9,10,11] A7 (A8 ?_))
 refine Az (Se x.queue e Ab) rfl (A8 ?_)
 refine Az (Se x.staged e Ab) rfl (A8 ?_)
 (repeat refine Am ?_)
 exact B2 A0 rfl rfl ⟨congrArg vi (by simp only [A3z];omega),trivial⟩
theorem Wb (x:Ac)(e:Int)(hx:x.w≤16777216):Bi Tryz.prog 187 [.agg x.c,.one (vi e)] [.one (vb (Jr x e))]:=by
 refine Bd A0 false Tryz.func187 rfl Aw fun W=>?_
 conv=>whnf
 refine Az (A3m x e hx) rfl (A8 ?_)
 repeat' (first|(refine Oo ?_;conv=>whnf)|(refine Oq ?_;conv=>whnf)|(refine ⟨fun h=>?_,fun h=>?_⟩<;>conv=>whnf)|(refine Gl ?_;conv=>whnf)|fail)
 all_goals first
  |(refine Az (A3o x e hx) rfl (A8 ?_))
  |(refine B2 A0 rfl rfl ⟨?_,trivial⟩;(conv=>whnf);refine congrArg vb ?_;simp_all [Jr];done)
 repeat' (first|(refine Oo ?_;conv=>whnf)|(refine Oq ?_;conv=>whnf)|(refine ⟨fun h=>?_,fun h=>?_⟩<;>conv=>whnf)|(refine Gl ?_;conv=>whnf)|fail)
 all_goals (refine B2 A0 rfl rfl ⟨?_,trivial⟩;(conv=>whnf);refine congrArg vb ?_;simp_all [Jr])
def Zn (l:List A9) (i:Nat):Prop:=(l.getD i default).op=0∧(l.getD i default).stamp.turn=0∧(0<i→(l.getD (i-1) default).stamp.epoch≤(l.getD i default).stamp.epoch)
instance (l:List A9) (i:Nat):Decidable (Zn l i):=by unfold Zn;infer_instance
def A5n (l:List A9):Prop:=∀i,i<l.length→Zn l i
instance (l:List A9):Decidable (A5n l):=by unfold A5n;infer_instance
def Hv (n:Int):Prop:= -1000000≤n∧n≤1000000
instance (n:Int):Decidable (Hv n):=by unfold Hv;infer_instance
def A35 (l:List Int):Prop:=∀n∈l,Hv n
instance (l:List Int):Decidable (A35 l):=by unfold A35;infer_instance
def A7u (l:List Fi) (i:Nat):Prop:=∀k,k<i→(l.getD k default).epoch≠(l.getD i default).epoch
instance (l:List Fi) (i:Nat):Decidable (A7u l i):=by unfold A7u;infer_instance
def T4 (l:List Fi) (i:Nat):Prop:=(0≤(l.getD i default).epoch∧(l.getD i default).epoch≤3)∧A7u l i
instance (l:List Fi) (i:Nat):Decidable (T4 l i):=by unfold T4;infer_instance
def Xq (l:List Fi):Prop:=∀i,i<l.length→T4 l i
instance (l:List Fi):Decidable (Xq l):=by unfold Xq;infer_instance
def Np (n:Nat) (x:Ac):Prop:=(Qt n x.queue∧Qt n x.staged∧Qt n x.inputs∧Lf x.cells)
instance (n:Nat) (x:Ac):Decidable (Np n x):=by unfold Np;infer_instance
def Pk (x:Ac):Prop:=(x.sums.length=4∧x.black.length=4∧x.caps.length=4)
instance (x:Ac):Decidable (Pk x):=by unfold Pk;infer_instance
def Cs (n:Nat) (x:Ac):Prop:=Np n x∧Pk x∧A5n x.inputs∧A35 x.sums∧Xq x.dones
instance (n:Nat) (x:Ac):Decidable (Cs n x):=by unfold Cs;infer_instance
def K7 (n:Nat) (x:Ac):Bool:=decide (Cs n x)
theorem Mb (g:Ao)(x:Ac)(hg:g.w≤16777216)(hx:x.w≤16777216):Bi Tryz.prog 74 [.agg g.c,.agg x.c] [.one (vb (K7 g.nodes.length x))]:=by
 have hx2:=hx
 simp only [Ac.w] at hx2
 refine Bd A0 false Tryz.func74 rfl Aw fun W=>?_
 conv=>whnf
 repeat' (first|(refine Oo ?_;conv=>whnf)|(refine Oq ?_;conv=>whnf)|(refine ⟨fun h=>?_,fun h=>?_⟩<;>conv=>whnf)|(refine Az (Ny g x.queue hg Ab) rfl (Jf ?_);conv=>whnf)|(refine Az (Ny g x.staged hg Ab) rfl (Jf ?_);conv=>whnf)|(refine Az (Ny g x.inputs hg Ab) rfl (Jf ?_);conv=>whnf)|(refine Az (A1o x.cells Ab) rfl (Jf ?_);conv=>whnf)|(refine I8 ?_;conv=>whnf)|(refine B5 7 rfl [0,1,2,3,4,5,6,7,8,9,10,11,12,13,14,15,16,17,18,19,20,21,22,23,24,25,26,27,28,29,30,31,32,33,34,35,36,37,38] A7 (A8 ?_))|(refine B5 22 rfl [0,1,2,3,4,5,6,7,8,9,10,11,12] A7 (A8 ?_))|fail)
 all_goals try (refine B2 A0 rfl rfl ⟨congrArg vb (decide_eq_false fun p=>?_),trivial⟩;obtain ⟨⟨p1,p2,p3,p4⟩,⟨p5,p6,p7⟩,_⟩:=p;first|(simp only [beq_iff_eq,beq_eq_false_iff_ne,bne_iff_ne,bne_eq_false_iff_eq,Bool.not_eq_true',Bool.not_eq_false',Go.Sx.Au,Go.Sx.Bo,decide_eq_true_eq,decide_eq_false_iff_not,ne_eq,Int.not_lt,Int.not_le,ge_iff_le,gt_iff_lt,Int.toNat_zero,Int.toNat_one,Int.toNat_natCast] at *;omega)|(simp_all [A02,Y0];done))
 have hA:Np g.nodes.length x:=by unfold Np;refine ⟨?_,?_,?_,?_⟩<;>simp_all [A02,Y0]
 have hL:Pk x:=by clear hA;unfold Pk;simp only [beq_iff_eq,beq_eq_false_iff_ne,bne_iff_ne,bne_eq_false_iff_eq,Bool.not_eq_true',Bool.not_eq_false',Go.Sx.Au,Go.Sx.Bo,decide_eq_true_eq,decide_eq_false_iff_not,ne_eq,Int.not_lt,Int.not_le,ge_iff_le,gt_iff_lt,Int.toNat_zero,Int.toNat_one,Int.toNat_natCast] at *;omega
 rename_i a1 a2 a3 a4 a5 a6
 clear h a1 a2 a3 a4 a5 a6
 have hu:=F0 (Zn x.inputs)
 refine Bv A0 false [] (fun k:Nat=>[(6,.c (vi k))]) (fun k=>[⟨0,[.c (Br g.nodes),.c (vi g.workers),.c (vi g.cap)]⟩,⟨1,[.c (Aa x.queue),.c (Aa x.staged),.c (Aa x.inputs),.c (Bg x.cells),.c (Ap x.sums),.c (Eg x.black),.c (Eg x.caps),.c (Il x.dones)]⟩]) (fun k=>[])
  (fun k=>k≤x.inputs.length∧Mw (Zn x.inputs) k) (fun k=>x.inputs.length-k) 0 ⟨Nat.zero_le _,by first|rfl|assumption|simp⟩ ⟨F3,trivial⟩ Cf trivial Cj A7 (fun k hk=>?_)
 obtain ⟨hk,he⟩:=hk
 conv=>whnf
 refine Es (fun h'=>?_) fun h'=>?_<;>conv=>whnf
 ·have h':k<x.inputs.length:=by omega
  have e1:((k:Int)-1).toNat=k-1:=by omega
  repeat' (first|(refine Oo ?_;conv=>whnf)|(refine Oq ?_;conv=>whnf)|(refine ⟨fun h=>?_,fun h=>?_⟩<;>conv=>whnf)|(refine I8 ?_;conv=>whnf)|(refine B5 7 rfl [0,1,2,3,4,5,6,7,8,9,10,11,12,13,14,15,16,17,18,19,20,21,22,23,24,25,26,27,28,29,30,31,32,33,34,35,36,37,38] A7 (A8 ?_))|(refine B5 22 rfl [0,1,2,3,4,5,6,7,8,9,10,11,12] A7 (A8 ?_))|fail)
  all_goals try (refine B2 A0 rfl rfl ⟨congrArg vb (decide_eq_false fun p=>?_),trivial⟩;have p:=p.2.2.1 k h';clear he hA hL hu;simp only [Zn] at p;simp only [beq_iff_eq,beq_eq_false_iff_ne,bne_iff_ne,bne_eq_false_iff_eq,Bool.not_eq_true',Bool.not_eq_false',Go.Sx.Au,Go.Sx.Bo,decide_eq_true_eq,decide_eq_false_iff_not,ne_eq,Int.not_lt,Int.not_le,ge_iff_le,gt_iff_lt,Int.toNat_zero,Int.toNat_one,Int.toNat_natCast] at *;first|omega|(simp only [e1] at *;omega))
  all_goals
   have hs:Zn x.inputs k:=by clear he hA hL hu;simp only [Zn];simp only [beq_iff_eq,beq_eq_false_iff_ne,bne_iff_ne,bne_eq_false_iff_eq,Bool.not_eq_true',Bool.not_eq_false',Go.Sx.Au,Go.Sx.Bo,decide_eq_true_eq,decide_eq_false_iff_not,ne_eq,Int.not_lt,Int.not_le,ge_iff_le,gt_iff_lt,Int.toNat_zero,Int.toNat_one,Int.toNat_natCast] at *;first|omega|(simp only [e1] at *;omega)
   refine B6 [] (k+1) ⟨by omega,Ez he hs⟩ Ab ⟨rfl,trivial⟩ trivial Cf A7 Cj A7
 have e:k=x.inputs.length:=by omega
 have hI:A5n x.inputs:=fun i hi=>he i Ab
 clear he hu
 have hsl:x.sums.length=4:=hL.1
 have hu:=F0 (fun i=>Hv (x.sums.getD i default))
 refine Bv A0 false [] (fun k:Nat=>[(7,.c (vi k))]) (fun k=>[⟨0,[.c (Br g.nodes),.c (vi g.workers),.c (vi g.cap)]⟩,⟨1,[.c (Aa x.queue),.c (Aa x.staged),.c (Aa x.inputs),.c (Bg x.cells),.c (Ap x.sums),.c (Eg x.black),.c (Eg x.caps),.c (Il x.dones)]⟩]) (fun k=>[])
  (fun k=>k≤x.sums.length∧Mw (fun i=>Hv (x.sums.getD i default)) k) (fun k=>x.sums.length-k) 0 ⟨Nat.zero_le _,by first|rfl|assumption|simp⟩ ⟨F3,trivial⟩ Cf trivial Cj A7 (fun k hk=>?_)
 obtain ⟨hk,he⟩:=hk
 conv=>whnf
 refine Es (fun h'=>?_) fun h'=>?_<;>conv=>whnf
 ·have h':k<x.sums.length:=by omega
  (repeat refine Am ?_)
  refine Az (Ep _ _ _) rfl (A8 ?_)
  refine ⟨fun h=>?_,fun h=>?_⟩<;>conv=>whnf
  ·exact B2 A0 rfl rfl ⟨congrArg vb (decide_eq_false fun p=>by have:=p.2.2.2.1 _ (B9 (d:=default) h');clear hA hI he p;simp only [Hv] at this;simp only [beq_iff_eq,beq_eq_false_iff_ne,bne_iff_ne,bne_eq_false_iff_eq,Bool.not_eq_true',Bool.not_eq_false',Go.Sx.Au,Go.Sx.Bo,decide_eq_true_eq,decide_eq_false_iff_not,ne_eq,Int.not_lt,Int.not_le,ge_iff_le,gt_iff_lt,Int.toNat_zero,Int.toNat_one,Int.toNat_natCast] at *;omega),trivial⟩
  (repeat refine Am ?_)
  refine B6 [] (k+1) ⟨by omega,Ez he (by clear he hA hI;simp only [Hv];simp only [beq_iff_eq,beq_eq_false_iff_ne,bne_iff_ne,bne_eq_false_iff_eq,Bool.not_eq_true',Bool.not_eq_false',Go.Sx.Au,Go.Sx.Bo,decide_eq_true_eq,decide_eq_false_iff_not,ne_eq,Int.not_lt,Int.not_le,ge_iff_le,gt_iff_lt,Int.toNat_zero,Int.toNat_one,Int.toNat_natCast] at *;omega)⟩ Ab ⟨rfl,trivial⟩ trivial Cf A7 Cj A7
 have e:k=x.sums.length:=by omega
 have hS:A35 x.sums:=K6 (p:=Hv) (e▸he)
 clear he hu
 have hu:=F0 (T4 x.dones)
 refine Bv A0 false [] (fun k:Nat=>[(8,.c (vi k))]) (fun k=>[⟨0,[.c (Br g.nodes),.c (vi g.workers),.c (vi g.cap)]⟩,⟨1,[.c (Aa x.queue),.c (Aa x.staged),.c (Aa x.inputs),.c (Bg x.cells),.c (Ap x.sums),.c (Eg x.black),.c (Eg x.caps),.c (Il x.dones)]⟩]) (fun k=>[])
  (fun k=>k≤x.dones.length∧Mw (T4 x.dones) k) (fun k=>x.dones.length-k) 0 ⟨Nat.zero_le _,by first|rfl|assumption|simp⟩ ⟨F3,trivial⟩ Cf trivial Cj A7 (fun k hk=>?_)
 obtain ⟨hk,he⟩:=hk
 conv=>whnf
 refine Es (fun h'=>?_) fun h'=>?_<;>conv=>whnf
 ·have h':k<x.dones.length:=by omega
  (repeat refine Am ?_)
  refine Az (Ep _ _ _) rfl (A8 ?_)
  refine ⟨fun h=>?_,fun h=>?_⟩<;>conv=>whnf
  ·exact B2 A0 rfl rfl ⟨congrArg vb (decide_eq_false fun p=>by have:=(p.2.2.2.2 k h').1;clear hA hI he hS p;simp only [beq_iff_eq,beq_eq_false_iff_ne,bne_iff_ne,bne_eq_false_iff_eq,Bool.not_eq_true',Bool.not_eq_false',Go.Sx.Au,Go.Sx.Bo,decide_eq_true_eq,decide_eq_false_iff_not,ne_eq,Int.not_lt,Int.not_le,ge_iff_le,gt_iff_lt,Int.toNat_zero,Int.toNat_one,Int.toNat_natCast] at *;omega),trivial⟩
  have hd:0≤(x.dones.getD k default).epoch∧(x.dones.getD k default).epoch≤3:=by clear hA hI he hS hu;simp only [beq_iff_eq,beq_eq_false_iff_ne,bne_iff_ne,bne_eq_false_iff_eq,Bool.not_eq_true',Bool.not_eq_false',Go.Sx.Au,Go.Sx.Bo,decide_eq_true_eq,decide_eq_false_iff_not,ne_eq,Int.not_lt,Int.not_le,ge_iff_le,gt_iff_lt,Int.toNat_zero,Int.toNat_one,Int.toNat_natCast] at *;omega
  have hv:=F0 (fun i=>(x.dones.getD i default).epoch≠(x.dones.getD k default).epoch)
  refine Bv A0 false [] (fun j:Nat=>[(9,.c (vi j))]) (fun j=>[⟨0,[.c (Br g.nodes),.c (vi g.workers),.c (vi g.cap)]⟩,⟨1,[.c (Aa x.queue),.c (Aa x.staged),.c (Aa x.inputs),.c (Bg x.cells),.c (Ap x.sums),.c (Eg x.black),.c (Eg x.caps),.c (Il x.dones)]⟩]) (fun j=>[])
   (fun j=>j≤k∧Mw (fun i=>(x.dones.getD i default).epoch≠(x.dones.getD k default).epoch) j) (fun j=>k-j) 0 ⟨Nat.zero_le _,by first|rfl|assumption|simp⟩ ⟨F3,trivial⟩ Cf trivial Cj A7 (fun j hj=>?_)
  obtain ⟨hj,hej⟩:=hj
  conv=>whnf
  refine Es (fun h3=>?_) fun h3=>?_<;>conv=>whnf
  ·have h3:j<k:=by omega
   first|(refine B5 7 rfl [0,1,2,3,4,5,6,7,8,9,10,11,12,13,14,15,16,17,18,19,20,21,22,23,24,25,26,27,28,29,30,31,32,33,34,35,36,37,38] A7 (A8 ?_))|(refine B5 22 rfl [0,1,2,3,4,5,6,7,8,9,10,11,12] A7 (A8 ?_))
   (repeat refine Am ?_)
   refine ⟨fun h4=>have h4:=eq_of_beq h4;?_,fun h4=>have h4:=beq_eq_false_iff_ne.1 h4;?_⟩<;>conv=>whnf
   ·exact B2 A0 rfl rfl ⟨congrArg vb (decide_eq_false fun p=>(p.2.2.2.2 k h').2 j h3 h4),trivial⟩
   (repeat refine Am ?_)
   refine B6 [] (j+1) ⟨by omega,Ez hej h4⟩ Ab ⟨rfl,trivial⟩ trivial Cf A7 Cj A7
  have e:j=k:=by omega
  (repeat refine Am ?_)
  refine B6 [] (k+1) ⟨by omega,Ez he ⟨hd,fun i hi=>hej i Ab⟩⟩ Ab ⟨rfl,trivial⟩ trivial Cf A7 Cj A7
 have e:k=x.dones.length:=by omega
 exact B2 A0 rfl rfl ⟨congrArg vb (decide_eq_true ⟨hA,hL,hI,hS,fun i hi=>he i Ab⟩),trivial⟩
end Go.Proofs.YtdendlkeiaccpaaGreat
