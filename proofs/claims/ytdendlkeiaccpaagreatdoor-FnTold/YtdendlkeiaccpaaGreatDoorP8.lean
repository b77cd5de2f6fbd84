/- Part 8 of the proof that each of the laws FnTold returns true for every input. No conditions. -/
import Derived.Test.YtdendlkeiaccpaaGreatDoorP4
import Derived.Test.YtdendlkeiaccpaaGreatDoorP6
import Derived.Test.YtdendlkeiaccpaaGreatDoorP7

set_option linter.unusedSimpArgs false
set_option linter.unusedVariables false
set_option maxRecDepth 100000
namespace Go.Proofs.YtdendlkeiaccpaaGreatDoor
open Go.Sx
theorem Sw (xs:List Ae)(e:Int)(hx:xs.length≤16777216):Bo Tryz.prog 98 [.one (Ah xs),.one (vi e)] [.one (Ah (H9 xs e))]:=by
 refine Bh A0 false Tryz.func98 rfl Aw fun W=>?_
 conv=>whnf
 refine Ed 0 (Ah []) rfl De ?_
 refine C0 A0 false [7] (fun k:Nat=>[(6,.c (vi k))]) (fun k=>[]) (fun k=>[⟨0,Ah (H9 (xs.take k) e)⟩])
  (fun k=>k≤xs.length) (fun k=>xs.length-k) 0 (Nat.zero_le _) ⟨G9,trivial⟩ trivial ⟨Eu,trivial⟩ Cr A7 (fun k hk=>?_)
 conv=>whnf
 refine Fi (fun h=>?_) fun h=>?_<;>conv=>whnf
 ·have h:k<xs.length:=by omega
  have hs:=F4 (fun r=>r.stamp.epoch==e) xs k h
  have hb:=Ds (fun r=>r.stamp.epoch==e) xs k
  (repeat refine An ?_)
  refine ⟨fun hc=>?_,fun hc=>?_⟩<;>conv=>whnf
  ·(repeat refine An ?_)
   refine B1 A0 rfl rfl rfl rfl rfl rfl rfl rfl rfl rfl rfl (Ah (H9 (xs.take k) e++[xs.getD k default])) (Aa rfl) Bg (by show (List.filter _ _).length+1≤_;omega) (A8 ?_)
   (repeat refine An ?_)
   refine B9 [(0,2)] (k+1) Ab Ab ⟨rfl,trivial⟩ ⟨congrArg Ah (by show _=List.filter _ _;rw [hs];exact congrArg (fun l=>List.filter _ (xs.take k)++l) (if_pos hc).symm),trivial⟩ trivial A7 Cr A7
  (repeat refine An ?_)
  refine B9 [] (k+1) Ab Ab ⟨rfl,trivial⟩ ⟨congrArg Ah (by show _=List.filter _ _;rw [hs];exact (List.append_nil _).symm.trans (congrArg (fun l=>List.filter _ (xs.take k)++l) (if_neg (Bool.eq_false_iff.1 hc)).symm)),trivial⟩ trivial A7 Cr A7
 refine B3 A0 rfl rfl ⟨?_,trivial⟩
 exact congrArg (fun l=>Ah (H9 l e)) (Fv xs k Ab)
theorem A4g (x:A9)(e:Int)(h:x.w≤16777216):Bo Tryz.prog 84 [.agg x.c,.one (vi e)] [.one (vb (A30 x e))]:=by
 have hl:x.inputs.length≤16777216:=by simp only [A9.w] at h;omega
 refine Bh A0 false Tryz.func84 rfl Aw fun W=>?_
 conv=>whnf
 refine C0 A0 false [] (fun k:Nat=>[(5,.c (vi k))]) (fun k=>[⟨0,[.c (Ah x.queue),.c (Ah x.staged),.c (Ah x.inputs),.c (Ak x.cells),.c (At x.sums),.c (Ek x.black),.c (Ek x.caps),.c (Hv x.dones)]⟩]) (fun k=>[])
  (fun k=>k≤x.inputs.length∧(x.inputs.take k).any (fun r=>decide (r.stamp.epoch≤e))=false) (fun k=>x.inputs.length-k) 0 ⟨Nat.zero_le _,by first|rfl|assumption|simp⟩ ⟨G9,trivial⟩ Cf trivial Cr A7 (fun k hk=>?_)
 obtain ⟨hk,he⟩:=hk
 conv=>whnf
 refine Fi (fun h=>?_) fun h=>?_<;>conv=>whnf
 ·have h:k<x.inputs.length:=by omega
  (repeat refine An ?_)
  refine ⟨fun hc=>?_,fun hc=>?_⟩<;>conv=>whnf
  ·exact B3 A0 rfl rfl ⟨congrArg vb (Ki h hc),trivial⟩
  (repeat refine An ?_)
  refine B9 [] (k+1) ⟨by omega,I7 he h hc⟩ Ab ⟨rfl,trivial⟩ trivial Cf A7 Cr A7
 exact B3 A0 rfl rfl ⟨congrArg vb (by rw [Fv x.inputs k Ab] at he;exact he),trivial⟩
theorem Vo (x:A9)(e:Int)(h:x.w≤16777216):Bo Tryz.prog 68 [.agg x.c,.one (vi e)] [.one (vb (Gf x e))]:=by
 have hl:x.dones.length≤16777216:=by simp only [A9.w] at h;omega
 refine Bh A0 false Tryz.func68 rfl Aw fun W=>?_
 conv=>whnf
 refine C0 A0 false [] (fun k:Nat=>[(5,.c (vi k))]) (fun k=>[⟨0,[.c (Ah x.queue),.c (Ah x.staged),.c (Ah x.inputs),.c (Ak x.cells),.c (At x.sums),.c (Ek x.black),.c (Ek x.caps),.c (Hv x.dones)]⟩]) (fun k=>[])
  (fun k=>k≤x.dones.length∧(x.dones.take k).any (fun d=>d.epoch==e)=false) (fun k=>x.dones.length-k) 0 ⟨Nat.zero_le _,by first|rfl|assumption|simp⟩ ⟨G9,trivial⟩ Cf trivial Cr A7 (fun k hk=>?_)
 obtain ⟨hk,he⟩:=hk
 conv=>whnf
 refine Fi (fun h=>?_) fun h=>?_<;>conv=>whnf
 ·have h:k<x.dones.length:=by omega
  (repeat refine An ?_)
  refine ⟨fun hc=>?_,fun hc=>?_⟩<;>conv=>whnf
  ·exact B3 A0 rfl rfl ⟨congrArg vb (Ki h hc),trivial⟩
  (repeat refine An ?_)
  refine B9 [] (k+1) ⟨by omega,I7 he h hc⟩ Ab ⟨rfl,trivial⟩ trivial Cf A7 Cr A7
 exact B3 A0 rfl rfl ⟨congrArg vb (by rw [Fv x.dones k Ab] at he;exact he),trivial⟩
theorem A4h (x:A9)(e:Int)(h:x.w≤16777216):Bo Tryz.prog 85 [.agg x.c,.one (vi e)] [.one (vi (A4r x e))]:=by
 simp only [A9.w] at h
 have h1:=Pi x.queue e
 have h2:=Pi x.staged e
 refine Bh A0 false Tryz.func85 rfl Aw fun W=>?_
 conv=>whnf
 first|(refine B7 1 rfl [0,1,2,5,6,7,3,4,8,9,10,11] A7 (A8 ?_))
 refine B5 (Sw x.queue e Ab) rfl (A8 ?_)
 refine B5 (Sw x.staged e Ab) rfl (A8 ?_)
 (repeat refine An ?_)
 exact B3 A0 rfl rfl ⟨congrArg vi (by simp only [A4r];omega),trivial⟩
theorem Wo (x:A9)(e:Int)(hx:x.w≤16777216):Bo Tryz.prog 45 [.agg x.c,.one (vi e)] [.one (vb (Jr x e))]:=by
 refine Bh A0 false Tryz.func45 rfl Aw fun W=>?_
 conv=>whnf
 refine B5 (A4g x e hx) rfl (A8 ?_)
 repeat' (first|(refine L6 ?_;conv=>whnf)|(refine L7 ?_;conv=>whnf)|(refine ⟨fun h=>?_,fun h=>?_⟩<;>conv=>whnf)|(refine Ft ?_;conv=>whnf)|fail)
 all_goals first
  |(refine B5 (A4h x e hx) rfl (A8 ?_))
  |(refine B3 A0 rfl rfl ⟨?_,trivial⟩;(conv=>whnf);refine congrArg vb ?_;simp_all [Jr];done)
 repeat' (first|(refine L6 ?_;conv=>whnf)|(refine L7 ?_;conv=>whnf)|(refine ⟨fun h=>?_,fun h=>?_⟩<;>conv=>whnf)|(refine Ft ?_;conv=>whnf)|fail)
 all_goals (refine B3 A0 rfl rfl ⟨?_,trivial⟩;(conv=>whnf);refine congrArg vb ?_;simp_all [Jr])
def A0l (l:List Ae) (i:Nat):Prop:=(l.getD i default).op=0∧(l.getD i default).stamp.turn=0∧(0<i→(l.getD (i-1) default).stamp.epoch≤(l.getD i default).stamp.epoch)
instance (l:List Ae) (i:Nat):Decidable (A0l l i):=by unfold A0l;infer_instance
def A6d (l:List Ae):Prop:=∀i,i<l.length→A0l l i
instance (l:List Ae):Decidable (A6d l):=by unfold A6d;infer_instance
def I4 (n:Int):Prop:= -1000000≤n∧n≤1000000
instance (n:Int):Decidable (I4 n):=by unfold I4;infer_instance
def A4w (l:List Int):Prop:=∀n∈l,I4 n
instance (l:List Int):Decidable (A4w l):=by unfold A4w;infer_instance
def A8m (l:List Ep) (i:Nat):Prop:=∀k,k<i→(l.getD k default).epoch≠(l.getD i default).epoch
instance (l:List Ep) (i:Nat):Decidable (A8m l i):=by unfold A8m;infer_instance
def Tj (l:List Ep) (i:Nat):Prop:=(0≤(l.getD i default).epoch∧(l.getD i default).epoch≤3)∧A8m l i
instance (l:List Ep) (i:Nat):Decidable (Tj l i):=by unfold Tj;infer_instance
def Ye (l:List Ep):Prop:=∀i,i<l.length→Tj l i
instance (l:List Ep):Decidable (Ye l):=by unfold Ye;infer_instance
def Nu (n:Nat) (x:A9):Prop:=(Ra n x.queue∧Ra n x.staged∧Ra n x.inputs∧Li x.cells)
instance (n:Nat) (x:A9):Decidable (Nu n x):=by unfold Nu;infer_instance
def Pw (x:A9):Prop:=(x.sums.length=4∧x.black.length=4∧x.caps.length=4)
instance (x:A9):Decidable (Pw x):=by unfold Pw;infer_instance
def Cx (n:Nat) (x:A9):Prop:=Nu n x∧Pw x∧A6d x.inputs∧A4w x.sums∧Ye x.dones
instance (n:Nat) (x:A9):Decidable (Cx n x):=by unfold Cx;infer_instance
def Ka (n:Nat) (x:A9):Bool:=decide (Cx n x)
theorem Mh (g:Ap)(x:A9)(hg:g.w≤16777216)(hx:x.w≤16777216):Bo Tryz.prog 137 [.agg g.c,.agg x.c] [.one (vb (Ka g.nodes.length x))]:=by
 have hx2:=hx
 simp only [A9.w] at hx2
 refine Bh A0 false Tryz.func137 rfl Aw fun W=>?_
 conv=>whnf
 repeat' (first|(refine L6 ?_;conv=>whnf)|(refine L7 ?_;conv=>whnf)|(refine ⟨fun h=>?_,fun h=>?_⟩<;>conv=>whnf)|(refine B5 (O6 g x.queue hg Ab) rfl (Ji ?_);conv=>whnf)|(refine B5 (O6 g x.staged hg Ab) rfl (Ji ?_);conv=>whnf)|(refine B5 (O6 g x.inputs hg Ab) rfl (Ji ?_);conv=>whnf)|(refine B5 (A2l x.cells Ab) rfl (Ji ?_);conv=>whnf)|(refine Gx ?_;conv=>whnf)|(refine B7 7 rfl [0,1,2,3,4,5,6,7,8,9,10,11,12,13,14,15,16,17,18,19,20,21,22,23,24,25,26,27,28,29,30,31,32,33,34,35,36,37,38] A7 (A8 ?_))|(refine B7 22 rfl [0,1,2,3,4,5,6,7,8,9,10,11,12] A7 (A8 ?_))|fail)
 all_goals try (refine B3 A0 rfl rfl ⟨congrArg vb (decide_eq_false fun p=>?_),trivial⟩;obtain ⟨⟨p1,p2,p3,p4⟩,⟨p5,p6,p7⟩,_⟩:=p;first|(simp only [beq_iff_eq,beq_eq_false_iff_ne,bne_iff_ne,bne_eq_false_iff_eq,Bool.not_eq_true',Bool.not_eq_false',Go.Sx.As,Go.Sx.Bn,decide_eq_true_eq,decide_eq_false_iff_not,ne_eq,Int.not_lt,Int.not_le,ge_iff_le,gt_iff_lt,Int.toNat_zero,Int.toNat_one,Int.toNat_natCast] at *;omega)|(simp_all [A1z,Yn];done))
 have hA:Nu g.nodes.length x:=by unfold Nu;refine ⟨?_,?_,?_,?_⟩<;>simp_all [A1z,Yn]
 have hL:Pw x:=by clear hA;unfold Pw;simp only [beq_iff_eq,beq_eq_false_iff_ne,bne_iff_ne,bne_eq_false_iff_eq,Bool.not_eq_true',Bool.not_eq_false',Go.Sx.As,Go.Sx.Bn,decide_eq_true_eq,decide_eq_false_iff_not,ne_eq,Int.not_lt,Int.not_le,ge_iff_le,gt_iff_lt,Int.toNat_zero,Int.toNat_one,Int.toNat_natCast] at *;omega
 rename_i a1 a2 a3 a4 a5 a6
 clear h a1 a2 a3 a4 a5 a6
 have hu:=Fc (A0l x.inputs)
 refine C0 A0 false [] (fun k:Nat=>[(6,.c (vi k))]) (fun k=>[⟨0,[.c (Bp g.nodes),.c (vi g.workers),.c (vi g.cap)]⟩,⟨1,[.c (Ah x.queue),.c (Ah x.staged),.c (Ah x.inputs),.c (Ak x.cells),.c (At x.sums),.c (Ek x.black),.c (Ek x.caps),.c (Hv x.dones)]⟩]) (fun k=>[])
  (fun k=>k≤x.inputs.length∧Mz (A0l x.inputs) k) (fun k=>x.inputs.length-k) 0 ⟨Nat.zero_le _,by first|rfl|assumption|simp⟩ ⟨G9,trivial⟩ Cf trivial Cr A7 (fun k hk=>?_)
 obtain ⟨hk,he⟩:=hk
 conv=>whnf
 refine Fi (fun h'=>?_) fun h'=>?_<;>conv=>whnf
 ·have h':k<x.inputs.length:=by omega
  have e1:((k:Int)-1).toNat=k-1:=by omega
  repeat' (first|(refine L6 ?_;conv=>whnf)|(refine L7 ?_;conv=>whnf)|(refine ⟨fun h=>?_,fun h=>?_⟩<;>conv=>whnf)|(refine Gx ?_;conv=>whnf)|(refine B7 7 rfl [0,1,2,3,4,5,6,7,8,9,10,11,12,13,14,15,16,17,18,19,20,21,22,23,24,25,26,27,28,29,30,31,32,33,34,35,36,37,38] A7 (A8 ?_))|(refine B7 22 rfl [0,1,2,3,4,5,6,7,8,9,10,11,12] A7 (A8 ?_))|fail)
  all_goals try (refine B3 A0 rfl rfl ⟨congrArg vb (decide_eq_false fun p=>?_),trivial⟩;have p:=p.2.2.1 k h';clear he hA hL hu;simp only [A0l] at p;simp only [beq_iff_eq,beq_eq_false_iff_ne,bne_iff_ne,bne_eq_false_iff_eq,Bool.not_eq_true',Bool.not_eq_false',Go.Sx.As,Go.Sx.Bn,decide_eq_true_eq,decide_eq_false_iff_not,ne_eq,Int.not_lt,Int.not_le,ge_iff_le,gt_iff_lt,Int.toNat_zero,Int.toNat_one,Int.toNat_natCast] at *;first|omega|(simp only [e1] at *;omega))
  all_goals
   have hs:A0l x.inputs k:=by clear he hA hL hu;simp only [A0l];simp only [beq_iff_eq,beq_eq_false_iff_ne,bne_iff_ne,bne_eq_false_iff_eq,Bool.not_eq_true',Bool.not_eq_false',Go.Sx.As,Go.Sx.Bn,decide_eq_true_eq,decide_eq_false_iff_not,ne_eq,Int.not_lt,Int.not_le,ge_iff_le,gt_iff_lt,Int.toNat_zero,Int.toNat_one,Int.toNat_natCast] at *;first|omega|(simp only [e1] at *;omega)
   refine B9 [] (k+1) ⟨by omega,Fb he hs⟩ Ab ⟨rfl,trivial⟩ trivial Cf A7 Cr A7
 have e:k=x.inputs.length:=by omega
 have hI:A6d x.inputs:=fun i hi=>he i Ab
 clear he hu
 have hsl:x.sums.length=4:=hL.1
 have hu:=Fc (fun i=>I4 (x.sums.getD i default))
 refine C0 A0 false [] (fun k:Nat=>[(7,.c (vi k))]) (fun k=>[⟨0,[.c (Bp g.nodes),.c (vi g.workers),.c (vi g.cap)]⟩,⟨1,[.c (Ah x.queue),.c (Ah x.staged),.c (Ah x.inputs),.c (Ak x.cells),.c (At x.sums),.c (Ek x.black),.c (Ek x.caps),.c (Hv x.dones)]⟩]) (fun k=>[])
  (fun k=>k≤x.sums.length∧Mz (fun i=>I4 (x.sums.getD i default)) k) (fun k=>x.sums.length-k) 0 ⟨Nat.zero_le _,by first|rfl|assumption|simp⟩ ⟨G9,trivial⟩ Cf trivial Cr A7 (fun k hk=>?_)
 obtain ⟨hk,he⟩:=hk
 conv=>whnf
 refine Fi (fun h'=>?_) fun h'=>?_<;>conv=>whnf
 ·have h':k<x.sums.length:=by omega
  (repeat refine An ?_)
  refine B5 (Fh _ _ _) rfl (A8 ?_)
  refine ⟨fun h=>?_,fun h=>?_⟩<;>conv=>whnf
  ·exact B3 A0 rfl rfl ⟨congrArg vb (decide_eq_false fun p=>by have:=p.2.2.2.1 _ (B8 (d:=default) h');clear hA hI he p;simp only [I4] at this;simp only [beq_iff_eq,beq_eq_false_iff_ne,bne_iff_ne,bne_eq_false_iff_eq,Bool.not_eq_true',Bool.not_eq_false',Go.Sx.As,Go.Sx.Bn,decide_eq_true_eq,decide_eq_false_iff_not,ne_eq,Int.not_lt,Int.not_le,ge_iff_le,gt_iff_lt,Int.toNat_zero,Int.toNat_one,Int.toNat_natCast] at *;omega),trivial⟩
  (repeat refine An ?_)
  refine B9 [] (k+1) ⟨by omega,Fb he (by clear he hA hI;simp only [I4];simp only [beq_iff_eq,beq_eq_false_iff_ne,bne_iff_ne,bne_eq_false_iff_eq,Bool.not_eq_true',Bool.not_eq_false',Go.Sx.As,Go.Sx.Bn,decide_eq_true_eq,decide_eq_false_iff_not,ne_eq,Int.not_lt,Int.not_le,ge_iff_le,gt_iff_lt,Int.toNat_zero,Int.toNat_one,Int.toNat_natCast] at *;omega)⟩ Ab ⟨rfl,trivial⟩ trivial Cf A7 Cr A7
 have e:k=x.sums.length:=by omega
 have hS:A4w x.sums:=K9 (p:=I4) (e▸he)
 clear he hu
 have hu:=Fc (Tj x.dones)
 refine C0 A0 false [] (fun k:Nat=>[(8,.c (vi k))]) (fun k=>[⟨0,[.c (Bp g.nodes),.c (vi g.workers),.c (vi g.cap)]⟩,⟨1,[.c (Ah x.queue),.c (Ah x.staged),.c (Ah x.inputs),.c (Ak x.cells),.c (At x.sums),.c (Ek x.black),.c (Ek x.caps),.c (Hv x.dones)]⟩]) (fun k=>[])
  (fun k=>k≤x.dones.length∧Mz (Tj x.dones) k) (fun k=>x.dones.length-k) 0 ⟨Nat.zero_le _,by first|rfl|assumption|simp⟩ ⟨G9,trivial⟩ Cf trivial Cr A7 (fun k hk=>?_)
 obtain ⟨hk,he⟩:=hk
 conv=>whnf
 refine Fi (fun h'=>?_) fun h'=>?_<;>conv=>whnf
 ·have h':k<x.dones.length:=by omega
  (repeat refine An ?_)
  refine B5 (Fh _ _ _) rfl (A8 ?_)
  refine ⟨fun h=>?_,fun h=>?_⟩<;>conv=>whnf
  ·exact B3 A0 rfl rfl ⟨congrArg vb (decide_eq_false fun p=>by have:=(p.2.2.2.2 k h').1;clear hA hI he hS p;simp only [beq_iff_eq,beq_eq_false_iff_ne,bne_iff_ne,bne_eq_false_iff_eq,Bool.not_eq_true',Bool.not_eq_false',Go.Sx.As,Go.Sx.Bn,decide_eq_true_eq,decide_eq_false_iff_not,ne_eq,Int.not_lt,Int.not_le,ge_iff_le,gt_iff_lt,Int.toNat_zero,Int.toNat_one,Int.toNat_natCast] at *;omega),trivial⟩
  have hd:0≤(x.dones.getD k default).epoch∧(x.dones.getD k default).epoch≤3:=by clear hA hI he hS hu;simp only [beq_iff_eq,beq_eq_false_iff_ne,bne_iff_ne,bne_eq_false_iff_eq,Bool.not_eq_true',Bool.not_eq_false',Go.Sx.As,Go.Sx.Bn,decide_eq_true_eq,decide_eq_false_iff_not,ne_eq,Int.not_lt,Int.not_le,ge_iff_le,gt_iff_lt,Int.toNat_zero,Int.toNat_one,Int.toNat_natCast] at *;omega
  have hv:=Fc (fun i=>(x.dones.getD i default).epoch≠(x.dones.getD k default).epoch)
  refine C0 A0 false [] (fun j:Nat=>[(9,.c (vi j))]) (fun j=>[⟨0,[.c (Bp g.nodes),.c (vi g.workers),.c (vi g.cap)]⟩,⟨1,[.c (Ah x.queue),.c (Ah x.staged),.c (Ah x.inputs),.c (Ak x.cells),.c (At x.sums),.c (Ek x.black),.c (Ek x.caps),.c (Hv x.dones)]⟩]) (fun j=>[])
   (fun j=>j≤k∧Mz (fun i=>(x.dones.getD i default).epoch≠(x.dones.getD k default).epoch) j) (fun j=>k-j) 0 ⟨Nat.zero_le _,by first|rfl|assumption|simp⟩ ⟨G9,trivial⟩ Cf trivial Cr A7 (fun j hj=>?_)
  obtain ⟨hj,hej⟩:=hj
  conv=>whnf
  refine Fi (fun h3=>?_) fun h3=>?_<;>conv=>whnf
  ·have h3:j<k:=by omega
   first|(refine B7 7 rfl [0,1,2,3,4,5,6,7,8,9,10,11,12,13,14,15,16,17,18,19,20,21,22,23,24,25,26,27,28,29,30,31,32,33,34,35,36,37,38] A7 (A8 ?_))|(refine B7 22 rfl [0,1,2,3,4,5,6,7,8,9,10,11,12] A7 (A8 ?_))
   (repeat refine An ?_)
   refine ⟨fun h4=>have h4:=eq_of_beq h4;?_,fun h4=>have h4:=beq_eq_false_iff_ne.1 h4;?_⟩<;>conv=>whnf
   ·exact B3 A0 rfl rfl ⟨congrArg vb (decide_eq_false fun p=>(p.2.2.2.2 k h').2 j h3 h4),trivial⟩
   (repeat refine An ?_)
   refine B9 [] (j+1) ⟨by omega,Fb hej h4⟩ Ab ⟨rfl,trivial⟩ trivial Cf A7 Cr A7
  have e:j=k:=by omega
  (repeat refine An ?_)
  refine B9 [] (k+1) ⟨by omega,Fb he ⟨hd,fun i hi=>hej i Ab⟩⟩ Ab ⟨rfl,trivial⟩ trivial Cf A7 Cr A7
 have e:k=x.dones.length:=by omega
 exact B3 A0 rfl rfl ⟨congrArg vb (decide_eq_true ⟨hA,hL,hI,hS,fun i hi=>he i Ab⟩),trivial⟩
end Go.Proofs.YtdendlkeiaccpaaGreatDoor
