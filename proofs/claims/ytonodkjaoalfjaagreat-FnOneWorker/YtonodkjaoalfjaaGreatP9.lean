/- Part 9 of the proof that each of the laws FnOneWorker returns true for every input. No conditions. -/
import Derived.Test.YtonodkjaoalfjaaGreatP8

set_option linter.unusedSimpArgs false
set_option linter.unusedVariables false
set_option maxRecDepth 100000
namespace Go.Proofs.YtonodkjaoalfjaaGreat
open Go.Sx
def A2r (l:List A5) (i:Nat):Prop:=(l.getD i default).op=0∧(l.getD i default).stamp.turn=0∧(0<i→(l.getD (i-1) default).stamp.epoch≤(l.getD i default).stamp.epoch)
instance (l:List A5) (i:Nat):Decidable (A2r l i):=by unfold A2r;infer_instance
def A5v (l:List A5):Prop:=∀i,i<l.length→A2r l i
instance (l:List A5):Decidable (A5v l):=by unfold A5v;infer_instance
def Jy (n:Int):Prop:= -1000000≤n∧n≤1000000
instance (n:Int):Decidable (Jy n):=by unfold Jy;infer_instance
def Ym (l:List Int):Prop:=∀n∈l,Jy n
instance (l:List Int):Decidable (Ym l):=by unfold Ym;infer_instance
def A7y (l:List E3) (i:Nat):Prop:=∀k,k<i→(l.getD k default).epoch≠(l.getD i default).epoch
instance (l:List E3) (i:Nat):Decidable (A7y l i):=by unfold A7y;infer_instance
def Uu (l:List E3) (i:Nat):Prop:=(0≤(l.getD i default).epoch∧(l.getD i default).epoch≤3)∧A7y l i
instance (l:List E3) (i:Nat):Decidable (Uu l i):=by unfold Uu;infer_instance
def A0d (l:List E3):Prop:=∀i,i<l.length→Uu l i
instance (l:List E3):Decidable (A0d l):=by unfold A0d;infer_instance
def Rf (n:Nat) (x:Ab):Prop:=(Sm n x.queue∧Sm n x.staged∧Sm n x.inputs∧Mu x.cells)
instance (n:Nat) (x:Ab):Decidable (Rf n x):=by unfold Rf;infer_instance
def Rg (x:Ab):Prop:=(x.sums.length=4∧x.black.length=4∧x.caps.length=4)
instance (x:Ab):Decidable (Rg x):=by unfold Rg;infer_instance
def D8 (n:Nat) (x:Ab):Prop:=Rf n x∧Rg x∧A5v x.inputs∧Ym x.sums∧A0d x.dones
instance (n:Nat) (x:Ab):Decidable (D8 n x):=by unfold D8;infer_instance
def Lg (n:Nat) (x:Ab):Bool:=decide (D8 n x)
theorem Vc {l:List E3}{i:Nat}(h:i≤l.length):(l.take i).any (fun d=>d.epoch==(l.getD i default).epoch)=false↔A7y l i:=by
 rw [List.any_eq_false]
 constructor
 ·intro h1 k hk e
  have hm:l.getD k default∈l.take i:=by
   have hk2:k<(l.take i).length:=by simp;omega
   have:(l.take i).getD k default=l.getD k default:=by simp [List.getD,hk]
   rw [←this];exact Aq hk2
  exact h1 _ hm (by simpa using e)
 ·intro h1 d hd c
  obtain ⟨k,hk,e⟩:=List.getElem_of_mem hd
  have hk2:k<i:=by simp at hk;omega
  have hk3:k<l.length:=by omega
  refine h1 k hk2 ?_
  rw [List.getD,List.getElem?_eq_getElem hk3]
  simp only [List.getElem_take] at e
  simpa [e] using c
theorem B5l {α:Type} [Inhabited α] {es:Nat}{e:α→List A8}{xs:List α}{k:Nat}(h:k≤xs.length):V4 xs.length es (fun i=>e (xs.getD i default)) 0 (k:Int) (Du es e (xs.take k)):=by
 have:=A15 (es:=es) (e:=e) (xs:=xs) (l:=0) (h:=(k:Int)) Ac Ac Ac
 simpa using this
theorem Ni (g:Ad)(x:Ab)(hg:g.w≤16777216)(hx:x.w≤16777216):B0 Tryz.prog 230 [.agg g.c,.agg x.c] [.one (vb (Lg g.nodes.length x))]:=by
 have hx2:=hx
 simp only [Ab.w] at hx2
 refine Ay A0 false Tryz.func230 rfl Bu fun W=>?_
 conv=>whnf
 repeat' (first|(refine Ms ?_;conv=>whnf)|(refine Mt ?_;conv=>whnf)|(refine ⟨fun h=>?_,fun h=>?_⟩<;>conv=>whnf)|(refine Aw (Ps g x.queue hg Ac) rfl (Tt ?_);conv=>whnf)|(refine Aw (Ps g x.staged hg Ac) rfl (Tt ?_);conv=>whnf)|(refine Aw (Ps g x.inputs hg Ac) rfl (Tt ?_);conv=>whnf)|(refine Aw (A3l x.cells Ac) rfl (Tt ?_);conv=>whnf)|(refine Gj ?_;conv=>whnf)|(refine B9 6 rfl [0,1,2,3,4,5,6,7,8,9,10,11,12,13,14,15,16,17,18,19,20,21,22,23,24,25,26] Aa (Al ?_))|(refine B9 20 rfl [0,1,2,3,4,5,6,7,8,9,10,11,12] Aa (Al ?_))|fail)
 all_goals try (refine Ao A0 rfl rfl ⟨congrArg vb (decide_eq_false fun p=>?_),trivial⟩;obtain ⟨⟨p1,p2,p3,p4⟩,_⟩:=p;simp_all [A39,A0n];done)
 have hA:Rf g.nodes.length x:=by unfold Rf;refine ⟨?_,?_,?_,?_⟩<;>simp_all [A39,A0n]
 rename_i a1 a2 a3
 clear h a1 a2 a3
 have hu:=Fe (A2r x.inputs)
 refine Bw A0 false [] (fun k:Nat=>[(39,.c (vi k))]) (fun k=>[⟨0,[.c (Bp g.nodes),.c (vi g.workers),.c (vi g.cap)]⟩,⟨1,[.c (Ax x.queue),.c (Ax x.staged),.c (Ax x.inputs),.c (Ai x.cells),.c (F1 x.sums),.c (Gm x.black),.c (Gm x.caps),.c (Jn x.dones)]⟩]) (fun k=>[])
  (fun k=>k≤x.inputs.length∧O8 (A2r x.inputs) k) (fun k=>x.inputs.length-k) 0 ⟨Nat.zero_le _,by first|rfl|assumption|simp⟩ ⟨by first|rfl|simp [Dl,ren2,ren1,ren0],trivial⟩ Dh trivial D0 Aa (fun k hk=>?_)
 obtain ⟨hk,he⟩:=hk
 conv=>whnf
 refine G5 (fun h'=>?_) fun h'=>?_<;>conv=>whnf
 ·have h':k<x.inputs.length:=by omega
  have e1:((k:Int)-1).toNat=k-1:=by omega
  repeat' (first|(refine Ms ?_;conv=>whnf)|(refine Mt ?_;conv=>whnf)|(refine ⟨fun h=>?_,fun h=>?_⟩<;>conv=>whnf)|(refine Gj ?_;conv=>whnf)|(refine B9 6 rfl [0,1,2,3,4,5,6,7,8,9,10,11,12,13,14,15,16,17,18,19,20,21,22,23,24,25,26] Aa (Al ?_))|(refine B9 20 rfl [0,1,2,3,4,5,6,7,8,9,10,11,12] Aa (Al ?_))|fail)
  all_goals try (refine Ao A0 rfl rfl ⟨congrArg vb (decide_eq_false fun p=>?_),trivial⟩;have p:=p.2.2.1 k h';clear he hA hu;simp only [A2r] at p;simp only [beq_iff_eq,beq_eq_false_iff_ne,bne_iff_ne,bne_eq_false_iff_eq,Bool.not_eq_true',Bool.not_eq_false',Go.Sx.Am,Go.Sx.Az,decide_eq_true_eq,decide_eq_false_iff_not,ne_eq,Int.not_lt,Int.not_le,ge_iff_le,gt_iff_lt,Int.toNat_zero,Int.toNat_one,Int.toNat_natCast] at *;first|omega|(simp only [e1] at *;omega))
  all_goals
   have hs:A2r x.inputs k:=by clear he hA hu;simp only [A2r];simp only [beq_iff_eq,beq_eq_false_iff_ne,bne_iff_ne,bne_eq_false_iff_eq,Bool.not_eq_true',Bool.not_eq_false',Go.Sx.Am,Go.Sx.Az,decide_eq_true_eq,decide_eq_false_iff_not,ne_eq,Int.not_lt,Int.not_le,ge_iff_le,gt_iff_lt,Int.toNat_zero,Int.toNat_one,Int.toNat_natCast] at *;first|omega|(simp only [e1] at *;omega)
   refine B5 [] (k+1) ⟨by omega,Fc he hs⟩ Ac ⟨rfl,trivial⟩ trivial Dh Aa D0 Aa
 have e:k=x.inputs.length:=by omega
 have hI:A5v x.inputs:=fun i hi=>he i Ac
 clear he hu
 repeat' (first|(refine Ms ?_;conv=>whnf)|(refine Mt ?_;conv=>whnf)|(refine ⟨fun h=>?_,fun h=>?_⟩<;>conv=>whnf)|(refine Gj ?_;conv=>whnf)|(refine B9 6 rfl [0,1,2,3,4,5,6,7,8,9,10,11,12,13,14,15,16,17,18,19,20,21,22,23,24,25,26] Aa (Al ?_))|(refine B9 20 rfl [0,1,2,3,4,5,6,7,8,9,10,11,12] Aa (Al ?_))|fail)
 all_goals try (refine Ao A0 rfl rfl ⟨congrArg vb (decide_eq_false fun p=>?_),trivial⟩;obtain ⟨p1,p2,p3⟩:=p.2.1;clear hA hI p;simp only [beq_iff_eq,beq_eq_false_iff_ne,bne_iff_ne,bne_eq_false_iff_eq,Bool.not_eq_true',Bool.not_eq_false',Go.Sx.Am,Go.Sx.Az,decide_eq_true_eq,decide_eq_false_iff_not,ne_eq,Int.not_lt,Int.not_le,ge_iff_le,gt_iff_lt,Int.toNat_zero,Int.toNat_one,Int.toNat_natCast] at *;omega)
 have hL:Rg x:=by clear hA hI;unfold Rg;simp only [beq_iff_eq,beq_eq_false_iff_ne,bne_iff_ne,bne_eq_false_iff_eq,Bool.not_eq_true',Bool.not_eq_false',Go.Sx.Am,Go.Sx.Az,decide_eq_true_eq,decide_eq_false_iff_not,ne_eq,Int.not_lt,Int.not_le,ge_iff_le,gt_iff_lt,Int.toNat_zero,Int.toNat_one,Int.toNat_natCast] at *;omega
 rename_i a1 a2
 clear h a1 a2
 have hu:=Fe (fun i=>Jy (x.sums.getD i default))
 refine Bw A0 false [] (fun k:Nat=>[(91,.c (vi k))]) (fun k=>[⟨0,[.c (Bp g.nodes),.c (vi g.workers),.c (vi g.cap)]⟩,⟨1,[.c (Ax x.queue),.c (Ax x.staged),.c (Ax x.inputs),.c (Ai x.cells),.c (F1 x.sums),.c (Gm x.black),.c (Gm x.caps),.c (Jn x.dones)]⟩]) (fun k=>[])
  (fun k=>k≤x.sums.length∧O8 (fun i=>Jy (x.sums.getD i default)) k) (fun k=>x.sums.length-k) 0 ⟨Nat.zero_le _,by first|rfl|assumption|simp⟩ ⟨by first|rfl|simp [Dl,ren2,ren1,ren0],trivial⟩ Dh trivial D0 Aa (fun k hk=>?_)
 obtain ⟨hk,he⟩:=hk
 conv=>whnf
 refine G5 (fun h'=>?_) fun h'=>?_<;>conv=>whnf
 ·have h':k<x.sums.length:=by omega
  (repeat refine Ar ?_)
  refine Aw (He _ _ _) rfl (Al ?_)
  refine ⟨fun h=>?_,fun h=>?_⟩<;>conv=>whnf
  ·exact Ao A0 rfl rfl ⟨congrArg vb (decide_eq_false fun p=>by have:=p.2.2.2.1 _ (Aq (d:=default) h');clear hA hI he p;simp only [Jy] at this;simp only [beq_iff_eq,beq_eq_false_iff_ne,bne_iff_ne,bne_eq_false_iff_eq,Bool.not_eq_true',Bool.not_eq_false',Go.Sx.Am,Go.Sx.Az,decide_eq_true_eq,decide_eq_false_iff_not,ne_eq,Int.not_lt,Int.not_le,ge_iff_le,gt_iff_lt,Int.toNat_zero,Int.toNat_one,Int.toNat_natCast] at *;omega),trivial⟩
  ·(repeat refine Ar ?_)
   refine B5 [] (k+1) ⟨by omega,Fc he (by clear he hA hI;simp only [Jy];simp only [beq_iff_eq,beq_eq_false_iff_ne,bne_iff_ne,bne_eq_false_iff_eq,Bool.not_eq_true',Bool.not_eq_false',Go.Sx.Am,Go.Sx.Az,decide_eq_true_eq,decide_eq_false_iff_not,ne_eq,Int.not_lt,Int.not_le,ge_iff_le,gt_iff_lt,Int.toNat_zero,Int.toNat_one,Int.toNat_natCast] at *;omega)⟩ Ac ⟨rfl,trivial⟩ trivial Dh Aa D0 Aa
 have e:k=x.sums.length:=by omega
 have hS:Ym x.sums:=K5 (p:=Jy) (e▸he)
 clear he hu
 have hu:=Fe (Uu x.dones)
 refine Bw A0 false [] (fun k:Nat=>[(102,.c (vi k))]) (fun k=>[⟨0,[.c (Bp g.nodes),.c (vi g.workers),.c (vi g.cap)]⟩,⟨1,[.c (Ax x.queue),.c (Ax x.staged),.c (Ax x.inputs),.c (Ai x.cells),.c (F1 x.sums),.c (Gm x.black),.c (Gm x.caps),.c (Jn x.dones)]⟩]) (fun k=>[])
  (fun k=>k≤x.dones.length∧O8 (Uu x.dones) k) (fun k=>x.dones.length-k) 0 ⟨Nat.zero_le _,by first|rfl|assumption|simp⟩ ⟨by first|rfl|simp [Dl,ren2,ren1,ren0],trivial⟩ Dh trivial D0 Aa (fun k hk=>?_)
 obtain ⟨hk,he⟩:=hk
 conv=>whnf
 refine G5 (fun h'=>?_) fun h'=>?_<;>conv=>whnf
 ·have h':k<x.dones.length:=by omega
  repeat' (first|(refine Ms ?_;conv=>whnf)|(refine Mt ?_;conv=>whnf)|(refine ⟨fun h=>?_,fun h=>?_⟩<;>conv=>whnf)|(refine Aw (He _ _ _) rfl (Al ?_))|(refine Gj ?_;conv=>whnf)|(refine B9 6 rfl [0,1,2,3,4,5,6,7,8,9,10,11,12,13,14,15,16,17,18,19,20,21,22,23,24,25,26] Aa (Al ?_))|(refine B9 20 rfl [0,1,2,3,4,5,6,7,8,9,10,11,12] Aa (Al ?_))|fail)
  ·exact Ao A0 rfl rfl ⟨congrArg vb (decide_eq_false fun p=>by have:=(p.2.2.2.2 k h').1;clear hA hI he hS p;simp only [beq_iff_eq,beq_eq_false_iff_ne,bne_iff_ne,bne_eq_false_iff_eq,Bool.not_eq_true',Bool.not_eq_false',Go.Sx.Am,Go.Sx.Az,decide_eq_true_eq,decide_eq_false_iff_not,ne_eq,Int.not_lt,Int.not_le,ge_iff_le,gt_iff_lt,Int.toNat_zero,Int.toNat_one,Int.toNat_natCast] at *;omega),trivial⟩
  have hd:0≤(x.dones.getD k default).epoch∧(x.dones.getD k default).epoch≤3:=by clear hA hI he hS hu;simp only [beq_iff_eq,beq_eq_false_iff_ne,bne_iff_ne,bne_eq_false_iff_eq,Bool.not_eq_true',Bool.not_eq_false',Go.Sx.Am,Go.Sx.Az,decide_eq_true_eq,decide_eq_false_iff_not,ne_eq,Int.not_lt,Int.not_le,ge_iff_le,gt_iff_lt,Int.toNat_zero,Int.toNat_one,Int.toNat_natCast] at *;omega
  refine Xi A0 rfl rfl rfl rfl rfl rfl rfl rfl rfl ⟨by omega,by omega,by omega⟩ (Jn (x.dones.take k)) (B5l Ac) (Al ?_)
  repeat refine Bi ?_
  refine Aw (W8 (x.dones.take k) (x.dones.getD k default).epoch (by simp only [List.length_take];omega)) rfl (Al ?_)
  repeat refine Bi ?_
  refine ⟨fun h2=>?_,fun h2=>?_⟩<;>conv=>whnf
  ·exact Ao A0 rfl rfl ⟨congrArg vb (decide_eq_false fun p=>by have:=(Vc Ac).2 (p.2.2.2.2 k h').2;rw [this] at h2;exact absurd h2 Bu),trivial⟩
  ·(repeat refine Ar ?_)
   refine B5 [] (k+1) ⟨by omega,Fc he ⟨hd,(Vc Ac).1 h2⟩⟩ Ac ⟨rfl,trivial⟩ trivial Dh Aa D0 Aa
 ·have e:k=x.dones.length:=by omega
  exact Ao A0 rfl rfl ⟨congrArg vb (decide_eq_true ⟨hA,hL,hI,hS,fun i hi=>he i Ac⟩),trivial⟩
theorem Ii (g:Ad)(hg:g.w≤16777216):B0 Tryz.prog 54 [.agg g.c] [.one (vb (Ga g))]:=by
 have hn:=Ad.nodes_le hg
 have hu:=Fe (Lm g)
 refine Ay A0 false Tryz.func54 rfl Bu fun W=>?_
 conv=>whnf
 repeat' (first|(refine Ms ?_;conv=>whnf)|(refine Mt ?_;conv=>whnf)|(refine ⟨fun h=>?_,fun h=>?_⟩<;>conv=>whnf)|(refine Aw (He _ _ _) rfl (Al ?_))|(refine Gj ?_;conv=>whnf)|fail)
 all_goals try (refine Ao A0 rfl rfl ⟨congrArg vb (decide_eq_false fun p=>?_),trivial⟩;have p1:=p.1;have p2:=p.2.1;have p3:=p.2.2.1;clear p;simp only [beq_iff_eq,beq_eq_false_iff_ne,bne_iff_ne,bne_eq_false_iff_eq,Bool.not_eq_true',Bool.not_eq_false',Go.Sx.Am,Go.Sx.Az,decide_eq_true_eq,decide_eq_false_iff_not,ne_eq,Int.not_lt,Int.not_le,ge_iff_le,gt_iff_lt,Int.toNat_zero,Int.toNat_one,Int.toNat_natCast] at * <;>omega)
 refine Bw A0 false [] (fun k:Nat=>[(28,.c (vi k))]) (fun k=>[⟨0,[.c (Bp g.nodes),.c (vi g.workers),.c (vi g.cap)]⟩]) (fun k=>[])
  (fun k=>k≤g.nodes.length∧O8 (Lm g) k) (fun k=>g.nodes.length-k) 0 ⟨Nat.zero_le _,by first|rfl|assumption|simp⟩ ⟨by first|rfl|simp [Dl,ren2,ren1,ren0],trivial⟩ Dh trivial D0 Aa (fun k hk=>?_)
 obtain ⟨hk,he⟩:=hk
 conv=>whnf
 refine G5 (fun h'=>?_) fun h'=>?_<;>conv=>whnf
 ·have h':k<g.nodes.length:=by omega
  have hw:=Ad.node_le hg h'
  have hq:(g.nodes.getD k default).outs.length≤16777216:=hw
  have hv:=Fe (fun j=>Ob g k (g.nodes.getD k default) ((g.nodes.getD k default).outs.getD j default))
  repeat' (first|(refine Ms ?_;conv=>whnf)|(refine Mt ?_;conv=>whnf)|(refine ⟨fun h=>?_,fun h=>?_⟩<;>conv=>whnf)|(refine Aw (Wd (g.nodes.getD k default) hw) rfl (Tt ?_);conv=>whnf)|(refine Gj ?_;conv=>whnf)|fail)
  ·exact Ao A0 rfl rfl ⟨congrArg vb (decide_eq_false fun p=>by rw [show Ka (g.nodes.getD k default)=true from decide_eq_true (p.2.2.2 k h').1] at h;exact absurd h Bu),trivial⟩
  ·exact Ao A0 rfl rfl ⟨congrArg vb (decide_eq_false fun p=>B4j h (p.2.2.2 k h').2.1),trivial⟩
  ·rename_i hno
   have hN:Iw (g.nodes.getD k default):=of_decide_eq_true (show Ka (g.nodes.getD k default)=true by cases hq2:Ka (g.nodes.getD k default)<;>simp_all only [Bool.not_false,Bool.true_eq_false])
   have hK:(g.nodes.getD k default).kind=1↔k=0:=B4i h
   have hO:=hN.2.2.2.2.2.2.2.2
   refine Bw A0 false [] (fun j:Nat=>[(47,.c (vi j))]) (fun j=>[⟨0,[.c (Bp g.nodes),.c (vi g.workers),.c (vi g.cap)]⟩,⟨1,[.c (vi (g.nodes.getD k default).kind),.c (vi (g.nodes.getD k default).a),.c (vi (g.nodes.getD k default).b),.c (F1 (g.nodes.getD k default).outs)]⟩]) (fun j=>[])
    (fun j=>j≤(g.nodes.getD k default).outs.length∧O8 (fun j=>Ob g k (g.nodes.getD k default) ((g.nodes.getD k default).outs.getD j default)) j) (fun j=>(g.nodes.getD k default).outs.length-j) 0 ⟨Nat.zero_le _,by first|rfl|assumption|simp⟩ ⟨by first|rfl|simp [Dl,ren2,ren1,ren0],trivial⟩ Dh trivial D0 Aa (fun j hj=>?_)
   obtain ⟨hj,hej⟩:=hj
   conv=>whnf
   refine G5 (fun h2=>?_) fun h2=>?_<;>conv=>whnf
   ·have h2:j<(g.nodes.getD k default).outs.length:=by first|omega|(simp only [Int.toNat_natCast] at h2;omega)
    have hb:=hO _ (Aq (d:=default) h2)
    repeat' (first|(refine Ms ?_;conv=>whnf)|(refine Mt ?_;conv=>whnf)|(refine ⟨fun h=>?_,fun h=>?_⟩<;>conv=>whnf)|(refine Gj ?_;conv=>whnf)|fail)
    all_goals try (refine Ao A0 rfl rfl ⟨congrArg vb (decide_eq_false fun p=>?_),trivial⟩;have q:=(p.2.2.2 k h').2.2 _ (Aq (d:=default) h2);clear p hej he hv hu hN hK hO;simp only [Ob,T4] at q;simp only [beq_iff_eq,beq_eq_false_iff_ne,bne_iff_ne,bne_eq_false_iff_eq,Bool.not_eq_true',Bool.not_eq_false',Go.Sx.Am,Go.Sx.Az,decide_eq_true_eq,decide_eq_false_iff_not,ne_eq,Int.not_lt,Int.not_le,ge_iff_le,gt_iff_lt,Int.toNat_zero,Int.toNat_one,Int.toNat_natCast] at * <;>omega)
    all_goals
     refine B5 [] (j+1) ⟨by omega,Fc hej (by clear hej he hv hu hN hK hO;simp only [Ob,T4];simp only [beq_iff_eq,beq_eq_false_iff_ne,bne_iff_ne,bne_eq_false_iff_eq,Bool.not_eq_true',Bool.not_eq_false',Go.Sx.Am,Go.Sx.Az,decide_eq_true_eq,decide_eq_false_iff_not,ne_eq,Int.not_lt,Int.not_le,ge_iff_le,gt_iff_lt,Int.toNat_zero,Int.toNat_one,Int.toNat_natCast] at * <;>omega)⟩ Ac ⟨rfl,trivial⟩ trivial Dh Aa D0 Aa
   ·have e:j=(g.nodes.getD k default).outs.length:=by first|omega|(simp only [Int.toNat_natCast] at h2;omega)
    (repeat refine Ar ?_)
    refine B5 [] (k+1) ⟨by omega,Fc he ⟨hN,hK,K5 (e▸hej)⟩⟩ Ac ⟨rfl,trivial⟩ trivial Dh Aa D0 Aa
 ·have e:k=g.nodes.length:=by omega
  exact Ao A0 rfl rfl ⟨congrArg vb (decide_eq_true ⟨by simp only [beq_iff_eq,beq_eq_false_iff_ne,bne_iff_ne,bne_eq_false_iff_eq,Bool.not_eq_true',Bool.not_eq_false',Go.Sx.Am,Go.Sx.Az,decide_eq_true_eq,decide_eq_false_iff_not,ne_eq,Int.not_lt,Int.not_le,ge_iff_le,gt_iff_lt,Int.toNat_zero,Int.toNat_one,Int.toNat_natCast] at * <;>omega,by simp only [beq_iff_eq,beq_eq_false_iff_ne,bne_iff_ne,bne_eq_false_iff_eq,Bool.not_eq_true',Bool.not_eq_false',Go.Sx.Am,Go.Sx.Az,decide_eq_true_eq,decide_eq_false_iff_not,ne_eq,Int.not_lt,Int.not_le,ge_iff_le,gt_iff_lt,Int.toNat_zero,Int.toNat_one,Int.toNat_natCast] at * <;>omega,by simp only [beq_iff_eq,beq_eq_false_iff_ne,bne_iff_ne,bne_eq_false_iff_eq,Bool.not_eq_true',Bool.not_eq_false',Go.Sx.Am,Go.Sx.Az,decide_eq_true_eq,decide_eq_false_iff_not,ne_eq,Int.not_lt,Int.not_le,ge_iff_le,gt_iff_lt,Int.toNat_zero,Int.toNat_one,Int.toNat_natCast] at * <;>omega,e▸he⟩),trivial⟩
end Go.Proofs.YtonodkjaoalfjaaGreat
