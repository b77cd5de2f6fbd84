/- Part 8 of the proof that each of the laws FnTight returns true for every input. No conditions. -/
import Derived.Test.YtonodkjaoalfjaaP4
import Derived.Test.YtonodkjaoalfjaaP6
import Derived.Test.YtonodkjaoalfjaaP7

set_option linter.unusedSimpArgs false
set_option linter.unusedVariables false
set_option maxRecDepth 100000
namespace Go.Proofs.Ytonodkjaoalfjaa
open Go.Sx
theorem P7 (xs:List Ac)(e:Int)(hx:xs.length≤16777216):Bp Try.prog 93 [.one (A8 xs),.one (vi e)] [.one (A8 (G7 xs e))]:=by
 refine Bm A0 false Try.func93 rfl Cb fun W=>?_
 conv=>whnf
 refine Du 0 (A8 []) rfl Da ?_
 refine Cc A0 false [7] (fun k:Nat=>[(6,.c (vi k))]) (fun k=>[]) (fun k=>[⟨0,A8 (G7 (xs.take k) e)⟩])
  (fun k=>k≤xs.length) (fun k=>xs.length-k) 0 (Nat.zero_le _) ⟨by first|rfl|simp [Dc,ren2,ren1,ren0],trivial⟩ trivial ⟨by first|rfl|exact (congrArg (fun l=>Dz _ _ l) (List.append_nil _)).symm|(show (_:A7)=_;simp)|simp,trivial⟩ Dg A6 (fun k hk=>?_)
 conv=>whnf
 refine G2 (fun h=>?_) fun h=>?_<;>conv=>whnf
 ·have h:k<xs.length:=by omega
  have hs:=Ev (fun r=>r.stamp.epoch==e) xs k h
  have hb:=Dh (fun r=>r.stamp.epoch==e) xs k
  (repeat refine Ak ?_)
  refine ⟨fun hc=>?_,fun hc=>?_⟩<;>conv=>whnf
  ·(repeat refine Ak ?_)
   refine B4 A0 rfl rfl rfl rfl rfl rfl rfl rfl rfl rfl rfl (A8 (G7 (xs.take k) e++[xs.getD k default])) (B5 rfl) Rt (by show (List.filter _ _).length+1≤_;omega) (Af ?_)
   (repeat refine Ak ?_)
   refine B8 [(0,2)] (k+1) Ag Ag ⟨rfl,trivial⟩ ⟨congrArg A8 (by show _=List.filter _ _;rw [hs];exact congrArg (fun l=>List.filter _ (xs.take k)++l) (if_pos hc).symm),trivial⟩ trivial A6 Dg A6
  ·(repeat refine Ak ?_)
   refine B8 [] (k+1) Ag Ag ⟨rfl,trivial⟩ ⟨congrArg A8 (by show _=List.filter _ _;rw [hs];exact (List.append_nil _).symm.trans (congrArg (fun l=>List.filter _ (xs.take k)++l) (if_neg (Bool.eq_false_iff.1 hc)).symm)),trivial⟩ trivial A6 Dg A6
 ·refine B1 A0 rfl rfl ⟨?_,trivial⟩
  exact congrArg (fun l=>A8 (G7 l e)) (Gr xs k Ag)
theorem Rh (x:Ad)(e:Int)(h:x.w≤16777216):Bp Try.prog 11 [.agg x.c,.one (vi e)] [.one (vb (Qp x e))]:=by
 have hl:x.inputs.length≤16777216:=by simp only [Ad.w] at h;omega
 refine Bm A0 false Try.func11 rfl Cb fun W=>?_
 conv=>whnf
 refine Cc A0 false [] (fun k:Nat=>[(5,.c (vi k))]) (fun k=>[⟨0,[.c (A8 x.queue),.c (A8 x.staged),.c (A8 x.inputs),.c (Aw x.cells),.c (Ds x.sums),.c (Ei x.black),.c (Ei x.caps),.c (Iy x.dones)]⟩]) (fun k=>[])
  (fun k=>k≤x.inputs.length∧(x.inputs.take k).any (fun r=>decide (r.stamp.epoch≤e))=false) (fun k=>x.inputs.length-k) 0 ⟨Nat.zero_le _,by first|rfl|assumption|simp⟩ ⟨by first|rfl|simp [Dc,ren2,ren1,ren0],trivial⟩ D8 trivial Dg A6 (fun k hk=>?_)
 obtain ⟨hk,he⟩:=hk
 conv=>whnf
 refine G2 (fun h=>?_) fun h=>?_<;>conv=>whnf
 ·have h:k<x.inputs.length:=by omega
  (repeat refine Ak ?_)
  refine ⟨fun hc=>?_,fun hc=>?_⟩<;>conv=>whnf
  ·exact B1 A0 rfl rfl ⟨congrArg vb (Kg h hc),trivial⟩
  ·(repeat refine Ak ?_)
   refine B8 [] (k+1) ⟨by omega,I0 he h hc⟩ Ag ⟨rfl,trivial⟩ trivial D8 A6 Dg A6
 ·exact B1 A0 rfl rfl ⟨congrArg vb (by rw [Gr x.inputs k Ag] at he;exact he),trivial⟩
theorem Re (x:Ad)(e:Int)(h:x.w≤16777216):Bp Try.prog 35 [.agg x.c,.one (vi e)] [.one (vb (En x e))]:=by
 have hl:x.dones.length≤16777216:=by simp only [Ad.w] at h;omega
 refine Bm A0 false Try.func35 rfl Cb fun W=>?_
 conv=>whnf
 refine Cc A0 false [] (fun k:Nat=>[(5,.c (vi k))]) (fun k=>[⟨0,[.c (A8 x.queue),.c (A8 x.staged),.c (A8 x.inputs),.c (Aw x.cells),.c (Ds x.sums),.c (Ei x.black),.c (Ei x.caps),.c (Iy x.dones)]⟩]) (fun k=>[])
  (fun k=>k≤x.dones.length∧(x.dones.take k).any (fun d=>d.epoch==e)=false) (fun k=>x.dones.length-k) 0 ⟨Nat.zero_le _,by first|rfl|assumption|simp⟩ ⟨by first|rfl|simp [Dc,ren2,ren1,ren0],trivial⟩ D8 trivial Dg A6 (fun k hk=>?_)
 obtain ⟨hk,he⟩:=hk
 conv=>whnf
 refine G2 (fun h=>?_) fun h=>?_<;>conv=>whnf
 ·have h:k<x.dones.length:=by omega
  (repeat refine Ak ?_)
  refine ⟨fun hc=>?_,fun hc=>?_⟩<;>conv=>whnf
  ·exact B1 A0 rfl rfl ⟨congrArg vb (Kg h hc),trivial⟩
  ·(repeat refine Ak ?_)
   refine B8 [] (k+1) ⟨by omega,I0 he h hc⟩ Ag ⟨rfl,trivial⟩ trivial D8 A6 Dg A6
 ·exact B1 A0 rfl rfl ⟨congrArg vb (by rw [Gr x.dones k Ag] at he;exact he),trivial⟩
theorem Xg (x:Ad)(e:Int)(h:x.w≤16777216):Bp Try.prog 87 [.agg x.c,.one (vi e)] [.one (vi (Xs x e))]:=by
 simp only [Ad.w] at h
 have h1:=M7 x.queue e
 have h2:=M7 x.staged e
 refine Bm A0 false Try.func87 rfl Cb fun W=>?_
 conv=>whnf
 first|(refine At 1 rfl [0,1,2,5,6,7,3,4,8,9,10,11] A6 (Af ?_))
 refine B7 (P7 x.queue e Ag) rfl (Af ?_)
 refine B7 (P7 x.staged e Ag) rfl (Af ?_)
 (repeat refine Ak ?_)
 exact B1 A0 rfl rfl ⟨congrArg vi (by simp only [Xs];omega),trivial⟩
theorem S6 (x:Ad)(e:Int)(hx:x.w≤16777216):Bp Try.prog 79 [.agg x.c,.one (vi e)] [.one (vb (Hu x e))]:=by
 refine Bm A0 false Try.func79 rfl Cb fun W=>?_
 conv=>whnf
 refine B7 (Rh x e hx) rfl (Af ?_)
 repeat' (first|(refine L9 ?_;conv=>whnf)|(refine La ?_;conv=>whnf)|(refine ⟨fun h=>?_,fun h=>?_⟩<;>conv=>whnf)|(refine He ?_;conv=>whnf)|fail)
 all_goals first
  |(refine B7 (Xg x e hx) rfl (Af ?_))
  |(refine B1 A0 rfl rfl ⟨?_,trivial⟩;(conv=>whnf);refine congrArg vb ?_;simp_all [Hu];done)
 repeat' (first|(refine L9 ?_;conv=>whnf)|(refine La ?_;conv=>whnf)|(refine ⟨fun h=>?_,fun h=>?_⟩<;>conv=>whnf)|(refine He ?_;conv=>whnf)|fail)
 all_goals (refine B1 A0 rfl rfl ⟨?_,trivial⟩;(conv=>whnf);refine congrArg vb ?_;simp_all [Hu])
def Ut (l:List Ac) (i:Nat):Prop:=(l.getD i default).op=0∧(l.getD i default).stamp.turn=0∧(0<i→(l.getD (i-1) default).stamp.epoch≤(l.getD i default).stamp.epoch)
instance (l:List Ac) (i:Nat):Decidable (Ut l i):=by unfold Ut;infer_instance
def Za (l:List Ac):Prop:=∀i,i<l.length→Ut l i
instance (l:List Ac):Decidable (Za l):=by unfold Za;infer_instance
def Gu (n:Int):Prop:= -1000000≤n∧n≤1000000
instance (n:Int):Decidable (Gu n):=by unfold Gu;infer_instance
def Xx (l:List Int):Prop:=∀n∈l,Gu n
instance (l:List Int):Decidable (Xx l):=by unfold Xx;infer_instance
def A1d (l:List Fv) (i:Nat):Prop:=∀k,k<i→(l.getD k default).epoch≠(l.getD i default).epoch
instance (l:List Fv) (i:Nat):Decidable (A1d l i):=by unfold A1d;infer_instance
def Pm (l:List Fv) (i:Nat):Prop:=(0≤(l.getD i default).epoch∧(l.getD i default).epoch≤3)∧A1d l i
instance (l:List Fv) (i:Nat):Decidable (Pm l i):=by unfold Pm;infer_instance
def We (l:List Fv):Prop:=∀i,i<l.length→Pm l i
instance (l:List Fv):Decidable (We l):=by unfold We;infer_instance
def Mh (n:Nat) (x:Ad):Prop:=(Nk n x.queue∧Nk n x.staged∧Nk n x.inputs∧Ja x.cells)
instance (n:Nat) (x:Ad):Decidable (Mh n x):=by unfold Mh;infer_instance
def Mi (x:Ad):Prop:=(x.sums.length=4∧x.black.length=4∧x.caps.length=4)
instance (x:Ad):Decidable (Mi x):=by unfold Mi;infer_instance
def Cf (n:Nat) (x:Ad):Prop:=Mh n x∧Mi x∧Za x.inputs∧Xx x.sums∧We x.dones
instance (n:Nat) (x:Ad):Decidable (Cf n x):=by unfold Cf;infer_instance
def Ro (n:Nat) (x:Ad):Bool:=decide (Cf n x)
theorem Ue (g:An)(x:Ad)(hg:g.w≤16777216)(hx:x.w≤16777216):Bp Try.prog 72 [.agg g.c,.agg x.c] [.one (vb (Ro g.nodes.length x))]:=by
 have hx2:=hx
 simp only [Ad.w] at hx2
 refine Bm A0 false Try.func72 rfl Cb fun W=>?_
 conv=>whnf
 repeat' (first|(refine L9 ?_;conv=>whnf)|(refine La ?_;conv=>whnf)|(refine ⟨fun h=>?_,fun h=>?_⟩<;>conv=>whnf)|(refine B7 (L8 g x.queue hg Ag) rfl (J4 ?_);conv=>whnf)|(refine B7 (L8 g x.staged hg Ag) rfl (J4 ?_);conv=>whnf)|(refine B7 (L8 g x.inputs hg Ag) rfl (J4 ?_);conv=>whnf)|(refine B7 (Vx x.cells Ag) rfl (J4 ?_);conv=>whnf)|(refine Hf ?_;conv=>whnf)|(refine At 7 rfl [0,1,2,3,4,5,6,7,8,9,10,11,12,13,14,15,16,17,18,19,20,21,22,23,24,25,26,27,28,29,30,31,32,33,34,35,36,37,38] A6 (Af ?_))|(refine At 22 rfl [0,1,2,3,4,5,6,7,8,9,10,11,12] A6 (Af ?_))|fail)
 all_goals try (refine B1 A0 rfl rfl ⟨congrArg vb (decide_eq_false fun p=>?_),trivial⟩;obtain ⟨⟨p1,p2,p3,p4⟩,⟨p5,p6,p7⟩,_⟩:=p;first|(simp only [beq_iff_eq,beq_eq_false_iff_ne,bne_iff_ne,bne_eq_false_iff_eq,Bool.not_eq_true',Bool.not_eq_false',Go.Sx.Al,Go.Sx.B3,decide_eq_true_eq,decide_eq_false_iff_not,ne_eq,Int.not_lt,Int.not_le,ge_iff_le,gt_iff_lt,Int.toNat_zero,Int.toNat_one,Int.toNat_natCast] at *;omega)|(simp_all [Vh,Ti];done))
 have hA:Mh g.nodes.length x:=by unfold Mh;refine ⟨?_,?_,?_,?_⟩<;>simp_all [Vh,Ti]
 have hL:Mi x:=by clear hA;unfold Mi;simp only [beq_iff_eq,beq_eq_false_iff_ne,bne_iff_ne,bne_eq_false_iff_eq,Bool.not_eq_true',Bool.not_eq_false',Go.Sx.Al,Go.Sx.B3,decide_eq_true_eq,decide_eq_false_iff_not,ne_eq,Int.not_lt,Int.not_le,ge_iff_le,gt_iff_lt,Int.toNat_zero,Int.toNat_one,Int.toNat_natCast] at *;omega
 rename_i a1 a2 a3 a4 a5 a6
 clear h a1 a2 a3 a4 a5 a6
 have hu:=E8 (Ut x.inputs)
 refine Cc A0 false [] (fun k:Nat=>[(6,.c (vi k))]) (fun k=>[⟨0,[.c (Bt g.nodes),.c (vi g.workers),.c (vi g.cap)]⟩,⟨1,[.c (A8 x.queue),.c (A8 x.staged),.c (A8 x.inputs),.c (Aw x.cells),.c (Ds x.sums),.c (Ei x.black),.c (Ei x.caps),.c (Iy x.dones)]⟩]) (fun k=>[])
  (fun k=>k≤x.inputs.length∧Kd (Ut x.inputs) k) (fun k=>x.inputs.length-k) 0 ⟨Nat.zero_le _,by first|rfl|assumption|simp⟩ ⟨by first|rfl|simp [Dc,ren2,ren1,ren0],trivial⟩ D8 trivial Dg A6 (fun k hk=>?_)
 obtain ⟨hk,he⟩:=hk
 conv=>whnf
 refine G2 (fun h'=>?_) fun h'=>?_<;>conv=>whnf
 ·have h':k<x.inputs.length:=by omega
  have e1:((k:Int)-1).toNat=k-1:=by omega
  repeat' (first|(refine L9 ?_;conv=>whnf)|(refine La ?_;conv=>whnf)|(refine ⟨fun h=>?_,fun h=>?_⟩<;>conv=>whnf)|(refine Hf ?_;conv=>whnf)|(refine At 7 rfl [0,1,2,3,4,5,6,7,8,9,10,11,12,13,14,15,16,17,18,19,20,21,22,23,24,25,26,27,28,29,30,31,32,33,34,35,36,37,38] A6 (Af ?_))|(refine At 22 rfl [0,1,2,3,4,5,6,7,8,9,10,11,12] A6 (Af ?_))|fail)
  all_goals try (refine B1 A0 rfl rfl ⟨congrArg vb (decide_eq_false fun p=>?_),trivial⟩;have p:=p.2.2.1 k h';clear he hA hL hu;simp only [Ut] at p;simp only [beq_iff_eq,beq_eq_false_iff_ne,bne_iff_ne,bne_eq_false_iff_eq,Bool.not_eq_true',Bool.not_eq_false',Go.Sx.Al,Go.Sx.B3,decide_eq_true_eq,decide_eq_false_iff_not,ne_eq,Int.not_lt,Int.not_le,ge_iff_le,gt_iff_lt,Int.toNat_zero,Int.toNat_one,Int.toNat_natCast] at *;first|omega|(simp only [e1] at *;omega))
  all_goals
   have hs:Ut x.inputs k:=by clear he hA hL hu;simp only [Ut];simp only [beq_iff_eq,beq_eq_false_iff_ne,bne_iff_ne,bne_eq_false_iff_eq,Bool.not_eq_true',Bool.not_eq_false',Go.Sx.Al,Go.Sx.B3,decide_eq_true_eq,decide_eq_false_iff_not,ne_eq,Int.not_lt,Int.not_le,ge_iff_le,gt_iff_lt,Int.toNat_zero,Int.toNat_one,Int.toNat_natCast] at *;first|omega|(simp only [e1] at *;omega)
   refine B8 [] (k+1) ⟨by omega,E7 he hs⟩ Ag ⟨rfl,trivial⟩ trivial D8 A6 Dg A6
 have e:k=x.inputs.length:=by omega
 have hI:Za x.inputs:=fun i hi=>he i Ag
 clear he hu
 have hsl:x.sums.length=4:=hL.1
 have hu:=E8 (fun i=>Gu (x.sums.getD i default))
 refine Cc A0 false [] (fun k:Nat=>[(7,.c (vi k))]) (fun k=>[⟨0,[.c (Bt g.nodes),.c (vi g.workers),.c (vi g.cap)]⟩,⟨1,[.c (A8 x.queue),.c (A8 x.staged),.c (A8 x.inputs),.c (Aw x.cells),.c (Ds x.sums),.c (Ei x.black),.c (Ei x.caps),.c (Iy x.dones)]⟩]) (fun k=>[])
  (fun k=>k≤x.sums.length∧Kd (fun i=>Gu (x.sums.getD i default)) k) (fun k=>x.sums.length-k) 0 ⟨Nat.zero_le _,by first|rfl|assumption|simp⟩ ⟨by first|rfl|simp [Dc,ren2,ren1,ren0],trivial⟩ D8 trivial Dg A6 (fun k hk=>?_)
 obtain ⟨hk,he⟩:=hk
 conv=>whnf
 refine G2 (fun h'=>?_) fun h'=>?_<;>conv=>whnf
 ·have h':k<x.sums.length:=by omega
  (repeat refine Ak ?_)
  refine B7 (Er _ _ _) rfl (Af ?_)
  refine ⟨fun h=>?_,fun h=>?_⟩<;>conv=>whnf
  ·exact B1 A0 rfl rfl ⟨congrArg vb (decide_eq_false fun p=>by have:=p.2.2.2.1 _ (B9 (d:=default) h');clear hA hI he p;simp only [Gu] at this;simp only [beq_iff_eq,beq_eq_false_iff_ne,bne_iff_ne,bne_eq_false_iff_eq,Bool.not_eq_true',Bool.not_eq_false',Go.Sx.Al,Go.Sx.B3,decide_eq_true_eq,decide_eq_false_iff_not,ne_eq,Int.not_lt,Int.not_le,ge_iff_le,gt_iff_lt,Int.toNat_zero,Int.toNat_one,Int.toNat_natCast] at *;omega),trivial⟩
  ·(repeat refine Ak ?_)
   refine B8 [] (k+1) ⟨by omega,E7 he (by clear he hA hI;simp only [Gu];simp only [beq_iff_eq,beq_eq_false_iff_ne,bne_iff_ne,bne_eq_false_iff_eq,Bool.not_eq_true',Bool.not_eq_false',Go.Sx.Al,Go.Sx.B3,decide_eq_true_eq,decide_eq_false_iff_not,ne_eq,Int.not_lt,Int.not_le,ge_iff_le,gt_iff_lt,Int.toNat_zero,Int.toNat_one,Int.toNat_natCast] at *;omega)⟩ Ag ⟨rfl,trivial⟩ trivial D8 A6 Dg A6
 have e:k=x.sums.length:=by omega
 have hS:Xx x.sums:=I9 (p:=Gu) (e▸he)
 clear he hu
 have hu:=E8 (Pm x.dones)
 refine Cc A0 false [] (fun k:Nat=>[(8,.c (vi k))]) (fun k=>[⟨0,[.c (Bt g.nodes),.c (vi g.workers),.c (vi g.cap)]⟩,⟨1,[.c (A8 x.queue),.c (A8 x.staged),.c (A8 x.inputs),.c (Aw x.cells),.c (Ds x.sums),.c (Ei x.black),.c (Ei x.caps),.c (Iy x.dones)]⟩]) (fun k=>[])
  (fun k=>k≤x.dones.length∧Kd (Pm x.dones) k) (fun k=>x.dones.length-k) 0 ⟨Nat.zero_le _,by first|rfl|assumption|simp⟩ ⟨by first|rfl|simp [Dc,ren2,ren1,ren0],trivial⟩ D8 trivial Dg A6 (fun k hk=>?_)
 obtain ⟨hk,he⟩:=hk
 conv=>whnf
 refine G2 (fun h'=>?_) fun h'=>?_<;>conv=>whnf
 ·have h':k<x.dones.length:=by omega
  (repeat refine Ak ?_)
  refine B7 (Er _ _ _) rfl (Af ?_)
  refine ⟨fun h=>?_,fun h=>?_⟩<;>conv=>whnf
  ·exact B1 A0 rfl rfl ⟨congrArg vb (decide_eq_false fun p=>by have:=(p.2.2.2.2 k h').1;clear hA hI he hS p;simp only [beq_iff_eq,beq_eq_false_iff_ne,bne_iff_ne,bne_eq_false_iff_eq,Bool.not_eq_true',Bool.not_eq_false',Go.Sx.Al,Go.Sx.B3,decide_eq_true_eq,decide_eq_false_iff_not,ne_eq,Int.not_lt,Int.not_le,ge_iff_le,gt_iff_lt,Int.toNat_zero,Int.toNat_one,Int.toNat_natCast] at *;omega),trivial⟩
  have hd:0≤(x.dones.getD k default).epoch∧(x.dones.getD k default).epoch≤3:=by clear hA hI he hS hu;simp only [beq_iff_eq,beq_eq_false_iff_ne,bne_iff_ne,bne_eq_false_iff_eq,Bool.not_eq_true',Bool.not_eq_false',Go.Sx.Al,Go.Sx.B3,decide_eq_true_eq,decide_eq_false_iff_not,ne_eq,Int.not_lt,Int.not_le,ge_iff_le,gt_iff_lt,Int.toNat_zero,Int.toNat_one,Int.toNat_natCast] at *;omega
  have hv:=E8 (fun i=>(x.dones.getD i default).epoch≠(x.dones.getD k default).epoch)
  refine Cc A0 false [] (fun j:Nat=>[(9,.c (vi j))]) (fun j=>[⟨0,[.c (Bt g.nodes),.c (vi g.workers),.c (vi g.cap)]⟩,⟨1,[.c (A8 x.queue),.c (A8 x.staged),.c (A8 x.inputs),.c (Aw x.cells),.c (Ds x.sums),.c (Ei x.black),.c (Ei x.caps),.c (Iy x.dones)]⟩]) (fun j=>[])
   (fun j=>j≤k∧Kd (fun i=>(x.dones.getD i default).epoch≠(x.dones.getD k default).epoch) j) (fun j=>k-j) 0 ⟨Nat.zero_le _,by first|rfl|assumption|simp⟩ ⟨by first|rfl|simp [Dc,ren2,ren1,ren0],trivial⟩ D8 trivial Dg A6 (fun j hj=>?_)
  obtain ⟨hj,hej⟩:=hj
  conv=>whnf
  refine G2 (fun h3=>?_) fun h3=>?_<;>conv=>whnf
  ·have h3:j<k:=by omega
   first|(refine At 7 rfl [0,1,2,3,4,5,6,7,8,9,10,11,12,13,14,15,16,17,18,19,20,21,22,23,24,25,26,27,28,29,30,31,32,33,34,35,36,37,38] A6 (Af ?_))|(refine At 22 rfl [0,1,2,3,4,5,6,7,8,9,10,11,12] A6 (Af ?_))
   (repeat refine Ak ?_)
   refine ⟨fun h4=>have h4:=eq_of_beq h4;?_,fun h4=>have h4:=beq_eq_false_iff_ne.1 h4;?_⟩<;>conv=>whnf
   ·exact B1 A0 rfl rfl ⟨congrArg vb (decide_eq_false fun p=>(p.2.2.2.2 k h').2 j h3 h4),trivial⟩
   ·(repeat refine Ak ?_)
    refine B8 [] (j+1) ⟨by omega,E7 hej h4⟩ Ag ⟨rfl,trivial⟩ trivial D8 A6 Dg A6
  ·have e:j=k:=by omega
   (repeat refine Ak ?_)
   refine B8 [] (k+1) ⟨by omega,E7 he ⟨hd,fun i hi=>hej i Ag⟩⟩ Ag ⟨rfl,trivial⟩ trivial D8 A6 Dg A6
 ·have e:k=x.dones.length:=by omega
  exact B1 A0 rfl rfl ⟨congrArg vb (decide_eq_true ⟨hA,hL,hI,hS,fun i hi=>he i Ag⟩),trivial⟩
end Go.Proofs.Ytonodkjaoalfjaa
