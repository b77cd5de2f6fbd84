/- Part 11 of the proof that each of the laws FnExactRunScriptOf, FnExactSpreadResult returns true for every input. No conditions. -/
import Derived.Test.YtlbmkgkmbjadcaaGreatP9
import Derived.Test.YtlbmkgkmbjadcaaGreatP10

set_option linter.unusedSimpArgs false
set_option linter.unusedVariables false
set_option maxRecDepth 100000
namespace Go.Proofs.YtlbmkgkmbjadcaaGreat
open Go.Sx
def Sr (l:List A3) (i:Nat):Prop:=(l.getD i default).op=0∧(l.getD i default).stamp.turn=0∧(0<i→(l.getD (i-1) default).stamp.epoch≤(l.getD i default).stamp.epoch)
instance (l:List A3) (i:Nat):Decidable (Sr l i):=by unfold Sr;infer_instance
def A4z (l:List A3):Prop:=∀i,i<l.length→Sr l i
instance (l:List A3):Decidable (A4z l):=by unfold A4z;infer_instance
def Hc (n:Int):Prop:= -1000000≤n∧n≤1000000
instance (n:Int):Decidable (Hc n):=by unfold Hc;infer_instance
def Ve (l:List Int):Prop:=∀n∈l,Hc n
instance (l:List Int):Decidable (Ve l):=by unfold Ve;infer_instance
def A6y (l:List Bp) (i:Nat):Prop:=∀k,k<i→(l.getD k default).epoch≠(l.getD i default).epoch
instance (l:List Bp) (i:Nat):Decidable (A6y l i):=by unfold A6y;infer_instance
def Qt (l:List Bp) (i:Nat):Prop:=(0≤(l.getD i default).epoch∧(l.getD i default).epoch≤3)∧A6y l i
instance (l:List Bp) (i:Nat):Decidable (Qt l i):=by unfold Qt;infer_instance
def A4w (l:List Bp):Prop:=∀i,i<l.length→Qt l i
instance (l:List Bp):Decidable (A4w l):=by unfold A4w;infer_instance
def N7 (n:Nat) (x:A6):Prop:=(Ss n x.queue∧Ss n x.staged∧Ss n x.inputs∧N5 x.cells)
instance (n:Nat) (x:A6):Decidable (N7 n x):=by unfold N7;infer_instance
def N8 (x:A6):Prop:=(x.sums.length=4∧x.black.length=4∧x.caps.length=4)
instance (x:A6):Decidable (N8 x):=by unfold N8;infer_instance
def Da (n:Nat) (x:A6):Prop:=N7 n x∧N8 x∧A4z x.inputs∧Ve x.sums∧A4w x.dones
instance (n:Nat) (x:A6):Decidable (Da n x):=by unfold Da;infer_instance
def Ib (n:Nat) (x:A6):Bool:=decide (Da n x)
theorem Vm {l:List Bp}{i:Nat}(h:i≤l.length):(l.take i).any (fun d=>d.epoch==(l.getD i default).epoch)=false↔A6y l i:=by
 rw [List.any_eq_false]
 constructor
 ·intro h1 k hk e
  have hm:l.getD k default∈l.take i:=by
   have hk2:k<(l.take i).length:=by simp;omega
   have:(l.take i).getD k default=l.getD k default:=by simp [List.getD,hk]
   rw [←this];exact B2 hk2
  exact h1 _ hm (by simpa using e)
 ·intro h1 d hd c
  obtain ⟨k,hk,e⟩:=List.getElem_of_mem hd
  have hk2:k<i:=by simp at hk;omega
  have hk3:k<l.length:=by omega
  refine h1 k hk2 ?_
  rw [List.getD,List.getElem?_eq_getElem hk3]
  simp only [List.getElem_take] at e
  simpa [e] using c
theorem B3o {α:Type} [Inhabited α] {es:Nat}{e:α→List Ab}{xs:List α}{k:Nat}(h:k≤xs.length):Vd xs.length es (fun i=>e (xs.getD i default)) 0 (k:Int) (Cb es e (xs.take k)):=by
 have:=A1s (es:=es) (e:=e) (xs:=xs) (l:=0) (h:=(k:Int)) Ad Ad Ad
 simpa using this
theorem Nt (g:Ar)(x:A6)(hg:g.w≤16777216)(hx:x.w≤16777216):Aq Tryz.prog 180 [.agg g.c,.agg x.c] [.one (vb (Ib g.nodes.length x))]:=by
 have hx2:=hx
 simp only [A6.w] at hx2
 refine Aj A0 false Tryz.func180 rfl Bs fun W=>?_
 conv=>whnf
 repeat' (first|(refine Ki ?_;conv=>whnf)|(refine Kj ?_;conv=>whnf)|(refine ⟨fun h=>?_,fun h=>?_⟩<;>conv=>whnf)|(refine Ai (Py g x.queue hg Ad) rfl (Iy ?_);conv=>whnf)|(refine Ai (Py g x.staged hg Ad) rfl (Iy ?_);conv=>whnf)|(refine Ai (Py g x.inputs hg Ad) rfl (Iy ?_);conv=>whnf)|(refine Ai (A25 x.cells Ad) rfl (Iy ?_);conv=>whnf)|(refine Fe ?_;conv=>whnf)|(refine Ak 6 rfl [0,1,2,3,4,5,6,7,8,9,10,11,12,13,14,15,16,17,18,19,20,21,22,23,24,25,26] A5 (Ae ?_))|(refine Ak 20 rfl [0,1,2,3,4,5,6,7,8,9,10,11,12] A5 (Ae ?_))|fail)
 all_goals try (refine Ah A0 rfl rfl ⟨congrArg vb (decide_eq_false fun p=>?_),trivial⟩;obtain ⟨⟨p1,p2,p3,p4⟩,_⟩:=p;simp_all [Qf,Pu];done)
 have hA:N7 g.nodes.length x:=by unfold N7;refine ⟨?_,?_,?_,?_⟩<;>simp_all [Qf,Pu]
 rename_i a1 a2 a3
 clear h a1 a2 a3
 have hu:=Dd (Sr x.inputs)
 refine B6 A0 false [] (fun k:Nat=>[(39,.c (vi k))]) (fun k=>[⟨0,[.c (Bb g.nodes),.c (vi g.workers),.c (vi g.cap)]⟩,⟨1,[.c (A9 x.queue),.c (A9 x.staged),.c (A9 x.inputs),.c (Ao x.cells),.c (Eu x.sums),.c (Cx x.black),.c (Cx x.caps),.c (Er x.dones)]⟩]) (fun k=>[])
  (fun k=>k≤x.inputs.length∧J2 (Sr x.inputs) k) (fun k=>x.inputs.length-k) 0 ⟨Nat.zero_le _,by first|rfl|assumption|simp⟩ ⟨by first|rfl|simp [Cr,ren2,ren1,ren0],trivial⟩ Cp trivial Cc A5 (fun k hk=>?_)
 obtain ⟨hk,he⟩:=hk
 conv=>whnf
 refine F2 (fun h'=>?_) fun h'=>?_<;>conv=>whnf
 ·have h':k<x.inputs.length:=by omega
  have e1:((k:Int)-1).toNat=k-1:=by omega
  repeat' (first|(refine Ki ?_;conv=>whnf)|(refine Kj ?_;conv=>whnf)|(refine ⟨fun h=>?_,fun h=>?_⟩<;>conv=>whnf)|(refine Fe ?_;conv=>whnf)|(refine Ak 6 rfl [0,1,2,3,4,5,6,7,8,9,10,11,12,13,14,15,16,17,18,19,20,21,22,23,24,25,26] A5 (Ae ?_))|(refine Ak 20 rfl [0,1,2,3,4,5,6,7,8,9,10,11,12] A5 (Ae ?_))|fail)
  all_goals try (refine Ah A0 rfl rfl ⟨congrArg vb (decide_eq_false fun p=>?_),trivial⟩;have p:=p.2.2.1 k h';clear he hA hu;simp only [Sr] at p;simp only [beq_iff_eq,beq_eq_false_iff_ne,bne_iff_ne,bne_eq_false_iff_eq,Bool.not_eq_true',Bool.not_eq_false',Go.Sx.Am,Go.Sx.Aw,decide_eq_true_eq,decide_eq_false_iff_not,ne_eq,Int.not_lt,Int.not_le,ge_iff_le,gt_iff_lt,Int.toNat_zero,Int.toNat_one,Int.toNat_natCast] at *;first|omega|(simp only [e1] at *;omega))
  all_goals
   have hs:Sr x.inputs k:=by clear he hA hu;simp only [Sr];simp only [beq_iff_eq,beq_eq_false_iff_ne,bne_iff_ne,bne_eq_false_iff_eq,Bool.not_eq_true',Bool.not_eq_false',Go.Sx.Am,Go.Sx.Aw,decide_eq_true_eq,decide_eq_false_iff_not,ne_eq,Int.not_lt,Int.not_le,ge_iff_le,gt_iff_lt,Int.toNat_zero,Int.toNat_one,Int.toNat_natCast] at *;first|omega|(simp only [e1] at *;omega)
   refine At [] (k+1) ⟨by omega,Dc he hs⟩ Ad ⟨rfl,trivial⟩ trivial Cp A5 Cc A5
 have e:k=x.inputs.length:=by omega
 have hI:A4z x.inputs:=fun i hi=>he i Ad
 clear he hu
 repeat' (first|(refine Ki ?_;conv=>whnf)|(refine Kj ?_;conv=>whnf)|(refine ⟨fun h=>?_,fun h=>?_⟩<;>conv=>whnf)|(refine Fe ?_;conv=>whnf)|(refine Ak 6 rfl [0,1,2,3,4,5,6,7,8,9,10,11,12,13,14,15,16,17,18,19,20,21,22,23,24,25,26] A5 (Ae ?_))|(refine Ak 20 rfl [0,1,2,3,4,5,6,7,8,9,10,11,12] A5 (Ae ?_))|fail)
 all_goals try (refine Ah A0 rfl rfl ⟨congrArg vb (decide_eq_false fun p=>?_),trivial⟩;obtain ⟨p1,p2,p3⟩:=p.2.1;clear hA hI p;simp only [beq_iff_eq,beq_eq_false_iff_ne,bne_iff_ne,bne_eq_false_iff_eq,Bool.not_eq_true',Bool.not_eq_false',Go.Sx.Am,Go.Sx.Aw,decide_eq_true_eq,decide_eq_false_iff_not,ne_eq,Int.not_lt,Int.not_le,ge_iff_le,gt_iff_lt,Int.toNat_zero,Int.toNat_one,Int.toNat_natCast] at *;omega)
 have hL:N8 x:=by clear hA hI;unfold N8;simp only [beq_iff_eq,beq_eq_false_iff_ne,bne_iff_ne,bne_eq_false_iff_eq,Bool.not_eq_true',Bool.not_eq_false',Go.Sx.Am,Go.Sx.Aw,decide_eq_true_eq,decide_eq_false_iff_not,ne_eq,Int.not_lt,Int.not_le,ge_iff_le,gt_iff_lt,Int.toNat_zero,Int.toNat_one,Int.toNat_natCast] at *;omega
 rename_i a1 a2
 clear h a1 a2
 have hu:=Dd (fun i=>Hc (x.sums.getD i default))
 refine B6 A0 false [] (fun k:Nat=>[(91,.c (vi k))]) (fun k=>[⟨0,[.c (Bb g.nodes),.c (vi g.workers),.c (vi g.cap)]⟩,⟨1,[.c (A9 x.queue),.c (A9 x.staged),.c (A9 x.inputs),.c (Ao x.cells),.c (Eu x.sums),.c (Cx x.black),.c (Cx x.caps),.c (Er x.dones)]⟩]) (fun k=>[])
  (fun k=>k≤x.sums.length∧J2 (fun i=>Hc (x.sums.getD i default)) k) (fun k=>x.sums.length-k) 0 ⟨Nat.zero_le _,by first|rfl|assumption|simp⟩ ⟨by first|rfl|simp [Cr,ren2,ren1,ren0],trivial⟩ Cp trivial Cc A5 (fun k hk=>?_)
 obtain ⟨hk,he⟩:=hk
 conv=>whnf
 refine F2 (fun h'=>?_) fun h'=>?_<;>conv=>whnf
 ·have h':k<x.sums.length:=by omega
  (repeat refine An ?_)
  refine Ai (Hj _ _ _) rfl (Ae ?_)
  refine ⟨fun h=>?_,fun h=>?_⟩<;>conv=>whnf
  ·exact Ah A0 rfl rfl ⟨congrArg vb (decide_eq_false fun p=>by have:=p.2.2.2.1 _ (B2 (d:=default) h');clear hA hI he p;simp only [Hc] at this;simp only [beq_iff_eq,beq_eq_false_iff_ne,bne_iff_ne,bne_eq_false_iff_eq,Bool.not_eq_true',Bool.not_eq_false',Go.Sx.Am,Go.Sx.Aw,decide_eq_true_eq,decide_eq_false_iff_not,ne_eq,Int.not_lt,Int.not_le,ge_iff_le,gt_iff_lt,Int.toNat_zero,Int.toNat_one,Int.toNat_natCast] at *;omega),trivial⟩
  ·(repeat refine An ?_)
   refine At [] (k+1) ⟨by omega,Dc he (by clear he hA hI;simp only [Hc];simp only [beq_iff_eq,beq_eq_false_iff_ne,bne_iff_ne,bne_eq_false_iff_eq,Bool.not_eq_true',Bool.not_eq_false',Go.Sx.Am,Go.Sx.Aw,decide_eq_true_eq,decide_eq_false_iff_not,ne_eq,Int.not_lt,Int.not_le,ge_iff_le,gt_iff_lt,Int.toNat_zero,Int.toNat_one,Int.toNat_natCast] at *;omega)⟩ Ad ⟨rfl,trivial⟩ trivial Cp A5 Cc A5
 have e:k=x.sums.length:=by omega
 have hS:Ve x.sums:=Gb (p:=Hc) (e▸he)
 clear he hu
 have hu:=Dd (Qt x.dones)
 refine B6 A0 false [] (fun k:Nat=>[(102,.c (vi k))]) (fun k=>[⟨0,[.c (Bb g.nodes),.c (vi g.workers),.c (vi g.cap)]⟩,⟨1,[.c (A9 x.queue),.c (A9 x.staged),.c (A9 x.inputs),.c (Ao x.cells),.c (Eu x.sums),.c (Cx x.black),.c (Cx x.caps),.c (Er x.dones)]⟩]) (fun k=>[])
  (fun k=>k≤x.dones.length∧J2 (Qt x.dones) k) (fun k=>x.dones.length-k) 0 ⟨Nat.zero_le _,by first|rfl|assumption|simp⟩ ⟨by first|rfl|simp [Cr,ren2,ren1,ren0],trivial⟩ Cp trivial Cc A5 (fun k hk=>?_)
 obtain ⟨hk,he⟩:=hk
 conv=>whnf
 refine F2 (fun h'=>?_) fun h'=>?_<;>conv=>whnf
 ·have h':k<x.dones.length:=by omega
  repeat' (first|(refine Ki ?_;conv=>whnf)|(refine Kj ?_;conv=>whnf)|(refine ⟨fun h=>?_,fun h=>?_⟩<;>conv=>whnf)|(refine Ai (Hj _ _ _) rfl (Ae ?_))|(refine Fe ?_;conv=>whnf)|(refine Ak 6 rfl [0,1,2,3,4,5,6,7,8,9,10,11,12,13,14,15,16,17,18,19,20,21,22,23,24,25,26] A5 (Ae ?_))|(refine Ak 20 rfl [0,1,2,3,4,5,6,7,8,9,10,11,12] A5 (Ae ?_))|fail)
  ·exact Ah A0 rfl rfl ⟨congrArg vb (decide_eq_false fun p=>by have:=(p.2.2.2.2 k h').1;clear hA hI he hS p;simp only [beq_iff_eq,beq_eq_false_iff_ne,bne_iff_ne,bne_eq_false_iff_eq,Bool.not_eq_true',Bool.not_eq_false',Go.Sx.Am,Go.Sx.Aw,decide_eq_true_eq,decide_eq_false_iff_not,ne_eq,Int.not_lt,Int.not_le,ge_iff_le,gt_iff_lt,Int.toNat_zero,Int.toNat_one,Int.toNat_natCast] at *;omega),trivial⟩
  have hd:0≤(x.dones.getD k default).epoch∧(x.dones.getD k default).epoch≤3:=by clear hA hI he hS hu;simp only [beq_iff_eq,beq_eq_false_iff_ne,bne_iff_ne,bne_eq_false_iff_eq,Bool.not_eq_true',Bool.not_eq_false',Go.Sx.Am,Go.Sx.Aw,decide_eq_true_eq,decide_eq_false_iff_not,ne_eq,Int.not_lt,Int.not_le,ge_iff_le,gt_iff_lt,Int.toNat_zero,Int.toNat_one,Int.toNat_natCast] at *;omega
  refine O0 A0 rfl rfl rfl rfl rfl rfl rfl rfl rfl ⟨by omega,by omega,by omega⟩ (Er (x.dones.take k)) (B3o Ad) (Ae ?_)
  repeat refine B9 ?_
  refine Ai (Wf (x.dones.take k) (x.dones.getD k default).epoch (by simp only [List.length_take];omega)) rfl (Ae ?_)
  repeat refine B9 ?_
  refine ⟨fun h2=>?_,fun h2=>?_⟩<;>conv=>whnf
  ·exact Ah A0 rfl rfl ⟨congrArg vb (decide_eq_false fun p=>by have:=(Vm Ad).2 (p.2.2.2.2 k h').2;rw [this] at h2;exact absurd h2 Bs),trivial⟩
  ·(repeat refine An ?_)
   refine At [] (k+1) ⟨by omega,Dc he ⟨hd,(Vm Ad).1 h2⟩⟩ Ad ⟨rfl,trivial⟩ trivial Cp A5 Cc A5
 ·have e:k=x.dones.length:=by omega
  exact Ah A0 rfl rfl ⟨congrArg vb (decide_eq_true ⟨hA,hL,hI,hS,fun i hi=>he i Ad⟩),trivial⟩
theorem A1y (g:Ar)(x:A6)(hg:g.w≤16777216)(hx:x.w≤16777216):Aq Tryz.prog 188 [.agg g.c,.agg x.c] [.one (vb (Ib g.nodes.length x))]:=by
 have hx2:=hx
 simp only [A6.w] at hx2
 refine Aj A0 false Tryz.func188 rfl Bs fun W=>?_
 conv=>whnf
 repeat' (first|(refine Ki ?_;conv=>whnf)|(refine Kj ?_;conv=>whnf)|(refine ⟨fun h=>?_,fun h=>?_⟩<;>conv=>whnf)|(refine Ai (Q3 g x.queue hg Ad) rfl (Iy ?_);conv=>whnf)|(refine Ai (Q3 g x.staged hg Ad) rfl (Iy ?_);conv=>whnf)|(refine Ai (Q3 g x.inputs hg Ad) rfl (Iy ?_);conv=>whnf)|(refine Ai (A4e x.cells Ad) rfl (Iy ?_);conv=>whnf)|(refine Fe ?_;conv=>whnf)|(refine Ak 7 rfl [0,1,2,3,4,5,6,7,8,9,10,11,12,13,14,15,16,17,18,19,20,21,22,23,24,25,26,27,28,29,30,31,32,33,34,35,36,37,38] A5 (Ae ?_))|(refine Ak 22 rfl [0,1,2,3,4,5,6,7,8,9,10,11,12] A5 (Ae ?_))|fail)
 all_goals try (refine Ah A0 rfl rfl ⟨congrArg vb (decide_eq_false fun p=>?_),trivial⟩;obtain ⟨⟨p1,p2,p3,p4⟩,⟨p5,p6,p7⟩,_⟩:=p;first|(simp only [beq_iff_eq,beq_eq_false_iff_ne,bne_iff_ne,bne_eq_false_iff_eq,Bool.not_eq_true',Bool.not_eq_false',Go.Sx.Am,Go.Sx.Aw,decide_eq_true_eq,decide_eq_false_iff_not,ne_eq,Int.not_lt,Int.not_le,ge_iff_le,gt_iff_lt,Int.toNat_zero,Int.toNat_one,Int.toNat_natCast] at *;omega)|(simp_all [Qf,Pu];done))
 have hA:N7 g.nodes.length x:=by unfold N7;refine ⟨?_,?_,?_,?_⟩<;>simp_all [Qf,Pu]
 have hL:N8 x:=by clear hA;unfold N8;simp only [beq_iff_eq,beq_eq_false_iff_ne,bne_iff_ne,bne_eq_false_iff_eq,Bool.not_eq_true',Bool.not_eq_false',Go.Sx.Am,Go.Sx.Aw,decide_eq_true_eq,decide_eq_false_iff_not,ne_eq,Int.not_lt,Int.not_le,ge_iff_le,gt_iff_lt,Int.toNat_zero,Int.toNat_one,Int.toNat_natCast] at *;omega
 rename_i a1 a2 a3 a4 a5 a6
 clear h a1 a2 a3 a4 a5 a6
 have hu:=Dd (Sr x.inputs)
 refine B6 A0 false [] (fun k:Nat=>[(6,.c (vi k))]) (fun k=>[⟨0,[.c (Bb g.nodes),.c (vi g.workers),.c (vi g.cap)]⟩,⟨1,[.c (A9 x.queue),.c (A9 x.staged),.c (A9 x.inputs),.c (Ao x.cells),.c (Eu x.sums),.c (Cx x.black),.c (Cx x.caps),.c (Er x.dones)]⟩]) (fun k=>[])
  (fun k=>k≤x.inputs.length∧J2 (Sr x.inputs) k) (fun k=>x.inputs.length-k) 0 ⟨Nat.zero_le _,by first|rfl|assumption|simp⟩ ⟨by first|rfl|simp [Cr,ren2,ren1,ren0],trivial⟩ Cp trivial Cc A5 (fun k hk=>?_)
 obtain ⟨hk,he⟩:=hk
 conv=>whnf
 refine F2 (fun h'=>?_) fun h'=>?_<;>conv=>whnf
 ·have h':k<x.inputs.length:=by omega
  have e1:((k:Int)-1).toNat=k-1:=by omega
  repeat' (first|(refine Ki ?_;conv=>whnf)|(refine Kj ?_;conv=>whnf)|(refine ⟨fun h=>?_,fun h=>?_⟩<;>conv=>whnf)|(refine Fe ?_;conv=>whnf)|(refine Ak 7 rfl [0,1,2,3,4,5,6,7,8,9,10,11,12,13,14,15,16,17,18,19,20,21,22,23,24,25,26,27,28,29,30,31,32,33,34,35,36,37,38] A5 (Ae ?_))|(refine Ak 22 rfl [0,1,2,3,4,5,6,7,8,9,10,11,12] A5 (Ae ?_))|fail)
  all_goals try (refine Ah A0 rfl rfl ⟨congrArg vb (decide_eq_false fun p=>?_),trivial⟩;have p:=p.2.2.1 k h';clear he hA hL hu;simp only [Sr] at p;simp only [beq_iff_eq,beq_eq_false_iff_ne,bne_iff_ne,bne_eq_false_iff_eq,Bool.not_eq_true',Bool.not_eq_false',Go.Sx.Am,Go.Sx.Aw,decide_eq_true_eq,decide_eq_false_iff_not,ne_eq,Int.not_lt,Int.not_le,ge_iff_le,gt_iff_lt,Int.toNat_zero,Int.toNat_one,Int.toNat_natCast] at *;first|omega|(simp only [e1] at *;omega))
  all_goals
   have hs:Sr x.inputs k:=by clear he hA hL hu;simp only [Sr];simp only [beq_iff_eq,beq_eq_false_iff_ne,bne_iff_ne,bne_eq_false_iff_eq,Bool.not_eq_true',Bool.not_eq_false',Go.Sx.Am,Go.Sx.Aw,decide_eq_true_eq,decide_eq_false_iff_not,ne_eq,Int.not_lt,Int.not_le,ge_iff_le,gt_iff_lt,Int.toNat_zero,Int.toNat_one,Int.toNat_natCast] at *;first|omega|(simp only [e1] at *;omega)
   refine At [] (k+1) ⟨by omega,Dc he hs⟩ Ad ⟨rfl,trivial⟩ trivial Cp A5 Cc A5
 have e:k=x.inputs.length:=by omega
 have hI:A4z x.inputs:=fun i hi=>he i Ad
 clear he hu
 have hsl:x.sums.length=4:=hL.1
 have hu:=Dd (fun i=>Hc (x.sums.getD i default))
 refine B6 A0 false [] (fun k:Nat=>[(7,.c (vi k))]) (fun k=>[⟨0,[.c (Bb g.nodes),.c (vi g.workers),.c (vi g.cap)]⟩,⟨1,[.c (A9 x.queue),.c (A9 x.staged),.c (A9 x.inputs),.c (Ao x.cells),.c (Eu x.sums),.c (Cx x.black),.c (Cx x.caps),.c (Er x.dones)]⟩]) (fun k=>[])
  (fun k=>k≤x.sums.length∧J2 (fun i=>Hc (x.sums.getD i default)) k) (fun k=>x.sums.length-k) 0 ⟨Nat.zero_le _,by first|rfl|assumption|simp⟩ ⟨by first|rfl|simp [Cr,ren2,ren1,ren0],trivial⟩ Cp trivial Cc A5 (fun k hk=>?_)
 obtain ⟨hk,he⟩:=hk
 conv=>whnf
 refine F2 (fun h'=>?_) fun h'=>?_<;>conv=>whnf
 ·have h':k<x.sums.length:=by omega
  (repeat refine An ?_)
  refine Ai (Gv _ _ _) rfl (Ae ?_)
  refine ⟨fun h=>?_,fun h=>?_⟩<;>conv=>whnf
  ·exact Ah A0 rfl rfl ⟨congrArg vb (decide_eq_false fun p=>by have:=p.2.2.2.1 _ (B2 (d:=default) h');clear hA hI he p;simp only [Hc] at this;simp only [beq_iff_eq,beq_eq_false_iff_ne,bne_iff_ne,bne_eq_false_iff_eq,Bool.not_eq_true',Bool.not_eq_false',Go.Sx.Am,Go.Sx.Aw,decide_eq_true_eq,decide_eq_false_iff_not,ne_eq,Int.not_lt,Int.not_le,ge_iff_le,gt_iff_lt,Int.toNat_zero,Int.toNat_one,Int.toNat_natCast] at *;omega),trivial⟩
  ·(repeat refine An ?_)
   refine At [] (k+1) ⟨by omega,Dc he (by clear he hA hI;simp only [Hc];simp only [beq_iff_eq,beq_eq_false_iff_ne,bne_iff_ne,bne_eq_false_iff_eq,Bool.not_eq_true',Bool.not_eq_false',Go.Sx.Am,Go.Sx.Aw,decide_eq_true_eq,decide_eq_false_iff_not,ne_eq,Int.not_lt,Int.not_le,ge_iff_le,gt_iff_lt,Int.toNat_zero,Int.toNat_one,Int.toNat_natCast] at *;omega)⟩ Ad ⟨rfl,trivial⟩ trivial Cp A5 Cc A5
 have e:k=x.sums.length:=by omega
 have hS:Ve x.sums:=Gb (p:=Hc) (e▸he)
 clear he hu
 have hu:=Dd (Qt x.dones)
 refine B6 A0 false [] (fun k:Nat=>[(8,.c (vi k))]) (fun k=>[⟨0,[.c (Bb g.nodes),.c (vi g.workers),.c (vi g.cap)]⟩,⟨1,[.c (A9 x.queue),.c (A9 x.staged),.c (A9 x.inputs),.c (Ao x.cells),.c (Eu x.sums),.c (Cx x.black),.c (Cx x.caps),.c (Er x.dones)]⟩]) (fun k=>[])
  (fun k=>k≤x.dones.length∧J2 (Qt x.dones) k) (fun k=>x.dones.length-k) 0 ⟨Nat.zero_le _,by first|rfl|assumption|simp⟩ ⟨by first|rfl|simp [Cr,ren2,ren1,ren0],trivial⟩ Cp trivial Cc A5 (fun k hk=>?_)
 obtain ⟨hk,he⟩:=hk
 conv=>whnf
 refine F2 (fun h'=>?_) fun h'=>?_<;>conv=>whnf
 ·have h':k<x.dones.length:=by omega
  (repeat refine An ?_)
  refine Ai (Gv _ _ _) rfl (Ae ?_)
  refine ⟨fun h=>?_,fun h=>?_⟩<;>conv=>whnf
  ·exact Ah A0 rfl rfl ⟨congrArg vb (decide_eq_false fun p=>by have:=(p.2.2.2.2 k h').1;clear hA hI he hS p;simp only [beq_iff_eq,beq_eq_false_iff_ne,bne_iff_ne,bne_eq_false_iff_eq,Bool.not_eq_true',Bool.not_eq_false',Go.Sx.Am,Go.Sx.Aw,decide_eq_true_eq,decide_eq_false_iff_not,ne_eq,Int.not_lt,Int.not_le,ge_iff_le,gt_iff_lt,Int.toNat_zero,Int.toNat_one,Int.toNat_natCast] at *;omega),trivial⟩
  have hd:0≤(x.dones.getD k default).epoch∧(x.dones.getD k default).epoch≤3:=by clear hA hI he hS hu;simp only [beq_iff_eq,beq_eq_false_iff_ne,bne_iff_ne,bne_eq_false_iff_eq,Bool.not_eq_true',Bool.not_eq_false',Go.Sx.Am,Go.Sx.Aw,decide_eq_true_eq,decide_eq_false_iff_not,ne_eq,Int.not_lt,Int.not_le,ge_iff_le,gt_iff_lt,Int.toNat_zero,Int.toNat_one,Int.toNat_natCast] at *;omega
  have hv:=Dd (fun i=>(x.dones.getD i default).epoch≠(x.dones.getD k default).epoch)
  refine B6 A0 false [] (fun j:Nat=>[(9,.c (vi j))]) (fun j=>[⟨0,[.c (Bb g.nodes),.c (vi g.workers),.c (vi g.cap)]⟩,⟨1,[.c (A9 x.queue),.c (A9 x.staged),.c (A9 x.inputs),.c (Ao x.cells),.c (Eu x.sums),.c (Cx x.black),.c (Cx x.caps),.c (Er x.dones)]⟩]) (fun j=>[])
   (fun j=>j≤k∧J2 (fun i=>(x.dones.getD i default).epoch≠(x.dones.getD k default).epoch) j) (fun j=>k-j) 0 ⟨Nat.zero_le _,by first|rfl|assumption|simp⟩ ⟨by first|rfl|simp [Cr,ren2,ren1,ren0],trivial⟩ Cp trivial Cc A5 (fun j hj=>?_)
  obtain ⟨hj,hej⟩:=hj
  conv=>whnf
  refine F2 (fun h3=>?_) fun h3=>?_<;>conv=>whnf
  ·have h3:j<k:=by omega
   first|(refine Ak 7 rfl [0,1,2,3,4,5,6,7,8,9,10,11,12,13,14,15,16,17,18,19,20,21,22,23,24,25,26,27,28,29,30,31,32,33,34,35,36,37,38] A5 (Ae ?_))|(refine Ak 22 rfl [0,1,2,3,4,5,6,7,8,9,10,11,12] A5 (Ae ?_))
   (repeat refine An ?_)
   refine ⟨fun h4=>have h4:=eq_of_beq h4;?_,fun h4=>have h4:=beq_eq_false_iff_ne.1 h4;?_⟩<;>conv=>whnf
   ·exact Ah A0 rfl rfl ⟨congrArg vb (decide_eq_false fun p=>(p.2.2.2.2 k h').2 j h3 h4),trivial⟩
   ·(repeat refine An ?_)
    refine At [] (j+1) ⟨by omega,Dc hej h4⟩ Ad ⟨rfl,trivial⟩ trivial Cp A5 Cc A5
  ·have e:j=k:=by omega
   (repeat refine An ?_)
   refine At [] (k+1) ⟨by omega,Dc he ⟨hd,fun i hi=>hej i Ad⟩⟩ Ad ⟨rfl,trivial⟩ trivial Cp A5 Cc A5
 ·have e:k=x.dones.length:=by omega
  exact Ah A0 rfl rfl ⟨congrArg vb (decide_eq_true ⟨hA,hL,hI,hS,fun i hi=>he i Ad⟩),trivial⟩
end Go.Proofs.YtlbmkgkmbjadcaaGreat
