/- Part 8 of the proof that each of the laws FnStalls returns true for every input. No conditions. -/
import Derived.Test.YtonodkjaoalfjaaGreatP4
import Derived.Test.YtonodkjaoalfjaaGreatP6
import Derived.Test.YtonodkjaoalfjaaGreatP7

set_option linter.unusedSimpArgs false
set_option linter.unusedVariables false
set_option maxRecDepth 100000
namespace Go.Proofs.YtonodkjaoalfjaaGreat
open Go.Sx
theorem C13 (xs:List A5)(e:Int)(hx:xs.length≤16777216):B0 Tryz.prog 150 [.one (Ax xs),.one (vi e)] [.one (Ax (Bs xs e))]:=by
 refine Ay A0 false Tryz.func150 rfl Bu fun W=>?_
 conv=>whnf
 refine G4 0 (Ax []) rfl F8 ?_
 refine Bw A0 false [7] (fun k:Nat=>[(6,.c (vi k))]) (fun k=>[]) (fun k=>[⟨0,Ax (Bs (xs.take k) e)⟩])
  (fun k=>k≤xs.length) (fun k=>xs.length-k) 0 (Nat.zero_le _) ⟨by first|rfl|simp [Dl,ren2,ren1,ren0],trivial⟩ trivial ⟨by first|rfl|exact (congrArg (fun l=>Du _ _ l) (List.append_nil _)).symm|(show (_:A8)=_;simp)|simp,trivial⟩ Dh Aa (fun k hk=>?_)
 conv=>whnf
 refine G5 (fun h=>?_) fun h=>?_<;>conv=>whnf
 ·have h:k<xs.length:=by omega
  have hs:=Ez (fun r=>r.stamp.epoch==e) xs k h
  have hb:=F0 (fun r=>r.stamp.epoch==e) xs k
  (repeat refine Ar ?_)
  refine ⟨fun hc=>?_,fun hc=>?_⟩<;>conv=>whnf
  ·(repeat refine Ar ?_)
   refine Dp A0 rfl rfl rfl rfl rfl rfl rfl rfl rfl rfl rfl (Ax (Bs (xs.take k) e++[xs.getD k default])) (Bf rfl) M1 (by show (List.filter _ _).length+1≤_;omega) (Al ?_)
   (repeat refine Ar ?_)
   refine B5 [(0,2)] (k+1) Ac Ac ⟨rfl,trivial⟩ ⟨congrArg Ax (by show _=List.filter _ _;rw [hs];exact congrArg (fun l=>List.filter _ (xs.take k)++l) (if_pos hc).symm),trivial⟩ trivial Aa Dh Aa
  ·(repeat refine Ar ?_)
   refine B5 [] (k+1) Ac Ac ⟨rfl,trivial⟩ ⟨congrArg Ax (by show _=List.filter _ _;rw [hs];exact (List.append_nil _).symm.trans (congrArg (fun l=>List.filter _ (xs.take k)++l) (if_neg (Bool.eq_false_iff.1 hc)).symm)),trivial⟩ trivial Aa Dh Aa
 ·refine Ao A0 rfl rfl ⟨?_,trivial⟩
  exact congrArg (fun l=>Ax (Bs l e)) (Fi xs k Ac)
theorem Ot (xs:List A5)(e:Int)(hx:xs.length≤16777216):B0 Tryz.prog 57 [.one (Ax xs),.one (vi e)] [.one (Ax (Bs xs e))]:=by
 refine Ay A0 false Tryz.func57 rfl Bu fun W=>?_
 conv=>whnf
 refine A36 5 5 (fun i=>A5.c (([]:List A5).getD i default)) rfl ?_
 refine Bw A0 false [] (fun k:Nat=>[(10,.c (vi k))]) (fun k=>[]) (fun k=>[⟨0,Ax (Bs (xs.take k) e)⟩])
  (fun k=>k≤xs.length) (fun k=>xs.length-k) 0 (Nat.zero_le _) ⟨by first|rfl|simp [Dl,ren2,ren1,ren0],trivial⟩ trivial ⟨by first|rfl|exact (congrArg (fun l=>Du _ _ l) (List.append_nil _)).symm|(show (_:A8)=_;simp)|simp,trivial⟩ Dh Aa (fun k hk=>?_)
 conv=>whnf
 refine G5 (fun h=>?_) fun h=>?_<;>conv=>whnf
 ·have h:k<xs.length:=by omega
  have hs:=Ez (fun r=>r.stamp.epoch==e) xs k h
  have hb:=F0 (fun r=>r.stamp.epoch==e) xs k
  (repeat refine Ar ?_)
  refine ⟨fun hc=>?_,fun hc=>?_⟩<;>conv=>whnf
  ·(repeat refine Ar ?_)
   refine Dp A0 rfl rfl rfl rfl rfl rfl rfl rfl rfl rfl rfl (Ax (Bs (xs.take k) e++[xs.getD k default])) (Bf rfl) M1 (by show (List.filter _ _).length+1≤_;omega) (Al ?_)
   (repeat refine Ar ?_)
   refine B5 [(0,3)] (k+1) Ac Ac ⟨rfl,trivial⟩ ⟨congrArg Ax (by show _=List.filter _ _;rw [hs];exact congrArg (fun l=>List.filter _ (xs.take k)++l) (if_pos hc).symm),trivial⟩ trivial Aa Dh Aa
  ·(repeat refine Ar ?_)
   refine B5 [] (k+1) Ac Ac ⟨rfl,trivial⟩ ⟨congrArg Ax (by show _=List.filter _ _;rw [hs];exact (List.append_nil _).symm.trans (congrArg (fun l=>List.filter _ (xs.take k)++l) (if_neg (Bool.eq_false_iff.1 hc)).symm)),trivial⟩ trivial Aa Dh Aa
 ·refine Ao A0 rfl rfl ⟨?_,trivial⟩
  exact congrArg (fun l=>Ax (Bs l e)) (Fi xs k Ac)
theorem A6l (xs:List A5)(hx:xs.length≤16777216)(f:Nat)(cs:List A8)(p:A5→Bool)(hf:∀x∈xs,B0 Tryz.prog f [.agg x.c,.ptr cs] [.one (vb (p x))]):
  B0 Tryz.prog 177 [.one (Ax xs),.fn f [.ptr cs]] [.one (vi (Kd p xs))]:=by
 refine Ay A0 false Tryz.func177 rfl Bu fun W=>?_
 conv=>whnf
 refine Bw A0 false [] (fun k:Nat=>[(8,.c (vi k))]) (fun k=>[]) (fun k=>[])
  (fun k=>k≤xs.length∧(xs.take k).any p=false) (fun k=>xs.length-k) 0 ⟨Nat.zero_le _,by first|rfl|assumption|simp⟩ ⟨by first|rfl|simp [Dl,ren2,ren1,ren0],trivial⟩ trivial trivial Dh Aa (fun k hk=>?_)
 obtain ⟨hk,he⟩:=hk
 conv=>whnf
 refine G5 (fun h=>?_) fun h=>?_<;>conv=>whnf
 ·have h:k<xs.length:=by omega
  (repeat refine Ar ?_)
  refine Aw (hf (xs.getD k default) (Aq h)) rfl (Al ?_)
  refine ⟨fun hc=>?_,fun hc=>?_⟩<;>conv=>whnf
  ·exact Ao A0 rfl rfl ⟨congrArg vi (Mj p xs k he h hc),trivial⟩
  ·(repeat refine Ar ?_)
   refine B5 [] (k+1) ⟨by omega,Gd he h hc⟩ Ac ⟨rfl,trivial⟩ trivial trivial Aa Dh Aa
 ·exact Ao A0 rfl rfl ⟨congrArg vi (I4 p xs (by rw [Fi xs k Ac] at he;exact he)),trivial⟩
theorem A24 (xs:List A5)(hx:xs.length≤16777216)(f:Nat)(cs:List A8)(p:A5→Bool)(hf:∀x∈xs,B0 Tryz.prog f [.agg x.c,.ptr cs] [.one (vb (p x))]):
  B0 Tryz.prog 148 [.one (Ax xs),.fn f [.ptr cs]] [.one (vb (xs.any p))]:=by
 refine Ay A0 false Tryz.func148 rfl Bu fun W=>?_
 conv=>whnf
 refine Aw (A6l xs hx f cs p hf) rfl (Al ?_)
 exact Ao A0 rfl rfl ⟨congrArg vb (Sw p xs).symm,trivial⟩
theorem B3o (xs:List E3)(hx:xs.length≤16777216)(f:Nat)(cs:List A8)(p:E3→Bool)(hf:∀x∈xs,B0 Tryz.prog f [.agg x.c,.ptr cs] [.one (vb (p x))]):
  B0 Tryz.prog 209 [.one (Jn xs),.fn f [.ptr cs]] [.one (vi (Kd p xs))]:=by
 refine Ay A0 false Tryz.func209 rfl Bu fun W=>?_
 conv=>whnf
 refine Bw A0 false [] (fun k:Nat=>[(8,.c (vi k))]) (fun k=>[]) (fun k=>[])
  (fun k=>k≤xs.length∧(xs.take k).any p=false) (fun k=>xs.length-k) 0 ⟨Nat.zero_le _,by first|rfl|assumption|simp⟩ ⟨by first|rfl|simp [Dl,ren2,ren1,ren0],trivial⟩ trivial trivial Dh Aa (fun k hk=>?_)
 obtain ⟨hk,he⟩:=hk
 conv=>whnf
 refine G5 (fun h=>?_) fun h=>?_<;>conv=>whnf
 ·have h:k<xs.length:=by omega
  (repeat refine Ar ?_)
  refine Aw (hf (xs.getD k default) (Aq h)) rfl (Al ?_)
  refine ⟨fun hc=>?_,fun hc=>?_⟩<;>conv=>whnf
  ·exact Ao A0 rfl rfl ⟨congrArg vi (Mj p xs k he h hc),trivial⟩
  ·(repeat refine Ar ?_)
   refine B5 [] (k+1) ⟨by omega,Gd he h hc⟩ Ac ⟨rfl,trivial⟩ trivial trivial Aa Dh Aa
 ·exact Ao A0 rfl rfl ⟨congrArg vi (I4 p xs (by rw [Fi xs k Ac] at he;exact he)),trivial⟩
theorem A9y (xs:List E3)(hx:xs.length≤16777216)(f:Nat)(cs:List A8)(p:E3→Bool)(hf:∀x∈xs,B0 Tryz.prog f [.agg x.c,.ptr cs] [.one (vb (p x))]):
  B0 Tryz.prog 175 [.one (Jn xs),.fn f [.ptr cs]] [.one (vb (xs.any p))]:=by
 refine Ay A0 false Tryz.func175 rfl Bu fun W=>?_
 conv=>whnf
 refine Aw (B3o xs hx f cs p hf) rfl (Al ?_)
 exact Ao A0 rfl rfl ⟨congrArg vb (Sw p xs).symm,trivial⟩
theorem B9v (x:A5)(e:Int):B0 Tryz.prog 149 [.agg x.c,.ptr [vi e]] [.one (vb (decide (x.stamp.epoch≤e)))]:=by
 refine Ay A0 false Tryz.func149 rfl Bu fun W=>?_
 conv=>whnf
 exact Ao A0 rfl rfl ⟨rfl,trivial⟩
theorem B9d (x:E3)(e:Int):B0 Tryz.prog 176 [.agg x.c,.ptr [vi e]] [.one (vb (x.epoch==e))]:=by
 refine Ay A0 false Tryz.func176 rfl Bu fun W=>?_
 conv=>whnf
 exact Ao A0 rfl rfl ⟨rfl,trivial⟩
theorem A6p (x:Ab)(e:Int)(h:x.w≤16777216):B0 Tryz.prog 120 [.agg x.c,.one (vi e)] [.one (vb (R5 x e))]:=by
 refine Ay A0 false Tryz.func120 rfl Bu fun W=>?_
 conv=>whnf
 refine Aw (A24 x.inputs (by simp only [Ab.w] at h;omega) _ [vi e] (fun r=>decide (r.stamp.epoch≤e)) (fun r _=>B9v r e)) rfl (Al ?_)
 exact Ao A0 rfl rfl ⟨rfl,trivial⟩
theorem C3v (x:Ab)(e:Int)(h:x.w≤16777216):B0 Tryz.prog 123 [.agg x.c,.one (vi e)] [.one (vb (R5 x e))]:=by
 have hl:x.inputs.length≤16777216:=by simp only [Ab.w] at h;omega
 refine Ay A0 false Tryz.func123 rfl Bu fun W=>?_
 conv=>whnf
 refine Bw A0 false [] (fun k:Nat=>[(5,.c (vi k))]) (fun k=>[⟨0,[.c (Ax x.queue),.c (Ax x.staged),.c (Ax x.inputs),.c (Ai x.cells),.c (F1 x.sums),.c (Gm x.black),.c (Gm x.caps),.c (Jn x.dones)]⟩]) (fun k=>[])
  (fun k=>k≤x.inputs.length∧(x.inputs.take k).any (fun r=>decide (r.stamp.epoch≤e))=false) (fun k=>x.inputs.length-k) 0 ⟨Nat.zero_le _,by first|rfl|assumption|simp⟩ ⟨by first|rfl|simp [Dl,ren2,ren1,ren0],trivial⟩ F3 trivial Dh Aa (fun k hk=>?_)
 obtain ⟨hk,he⟩:=hk
 conv=>whnf
 refine G5 (fun h=>?_) fun h=>?_<;>conv=>whnf
 ·have h:k<x.inputs.length:=by omega
  (repeat refine Ar ?_)
  refine ⟨fun hc=>?_,fun hc=>?_⟩<;>conv=>whnf
  ·exact Ao A0 rfl rfl ⟨congrArg vb (Tm h hc),trivial⟩
  ·(repeat refine Ar ?_)
   refine B5 [] (k+1) ⟨by omega,Gd he h hc⟩ Ac ⟨rfl,trivial⟩ trivial F3 Aa Dh Aa
 ·exact Ao A0 rfl rfl ⟨congrArg vb (by rw [Fi x.inputs k Ac] at he;exact he),trivial⟩
theorem W8 (xs:List E3)(e:Int)(h:xs.length≤16777216):B0 Tryz.prog 147 [.one (Jn xs),.one (vi e)] [.one (vb (xs.any fun d=>d.epoch==e))]:=by
 refine Ay A0 false Tryz.func147 rfl Bu fun W=>?_
 conv=>whnf
 refine Aw (A9y xs h _ [vi e] (fun d=>d.epoch==e) (fun d _=>B9d d e)) rfl (Al ?_)
 exact Ao A0 rfl rfl ⟨rfl,trivial⟩
theorem Wa (x:Ab)(e:Int)(h:x.w≤16777216):B0 Tryz.prog 119 [.agg x.c,.one (vi e)] [.one (vb (B1 x e))]:=by
 refine Ay A0 false Tryz.func119 rfl Bu fun W=>?_
 conv=>whnf
 refine Aw (W8 x.dones e (by simp only [Ab.w] at h;omega)) rfl (Al ?_)
 exact Ao A0 rfl rfl ⟨rfl,trivial⟩
theorem C2g (x:Ab)(e:Int)(h:x.w≤16777216):B0 Tryz.prog 122 [.agg x.c,.one (vi e)] [.one (vb (B1 x e))]:=by
 have hl:x.dones.length≤16777216:=by simp only [Ab.w] at h;omega
 refine Ay A0 false Tryz.func122 rfl Bu fun W=>?_
 conv=>whnf
 refine Bw A0 false [] (fun k:Nat=>[(5,.c (vi k))]) (fun k=>[⟨0,[.c (Ax x.queue),.c (Ax x.staged),.c (Ax x.inputs),.c (Ai x.cells),.c (F1 x.sums),.c (Gm x.black),.c (Gm x.caps),.c (Jn x.dones)]⟩]) (fun k=>[])
  (fun k=>k≤x.dones.length∧(x.dones.take k).any (fun d=>d.epoch==e)=false) (fun k=>x.dones.length-k) 0 ⟨Nat.zero_le _,by first|rfl|assumption|simp⟩ ⟨by first|rfl|simp [Dl,ren2,ren1,ren0],trivial⟩ F3 trivial Dh Aa (fun k hk=>?_)
 obtain ⟨hk,he⟩:=hk
 conv=>whnf
 refine G5 (fun h=>?_) fun h=>?_<;>conv=>whnf
 ·have h:k<x.dones.length:=by omega
  (repeat refine Ar ?_)
  refine ⟨fun hc=>?_,fun hc=>?_⟩<;>conv=>whnf
  ·exact Ao A0 rfl rfl ⟨congrArg vb (Tm h hc),trivial⟩
  ·(repeat refine Ar ?_)
   refine B5 [] (k+1) ⟨by omega,Gd he h hc⟩ Ac ⟨rfl,trivial⟩ trivial F3 Aa Dh Aa
 ·exact Ao A0 rfl rfl ⟨congrArg vb (by rw [Fi x.dones k Ac] at he;exact he),trivial⟩
theorem C3w (x:Ab)(e:Int)(h:x.w≤16777216):B0 Tryz.prog 124 [.agg x.c,.one (vi e)] [.one (vi (Xs x e))]:=by
 simp only [Ab.w] at h
 have h1:=Nq x.queue e
 have h2:=Nq x.staged e
 refine Ay A0 false Tryz.func124 rfl Bu fun W=>?_
 conv=>whnf
 first|(refine B9 1 rfl [0,1,2,5,6,7,3,4,8,9,10,11] Aa (Al ?_))
 refine Aw (C13 x.queue e Ac) rfl (Al ?_)
 refine Aw (C13 x.staged e Ac) rfl (Al ?_)
 (repeat refine Ar ?_)
 exact Ao A0 rfl rfl ⟨congrArg vi (by simp only [Xs];omega),trivial⟩
theorem C1f (x:Ab)(e:Int)(hx:x.w≤16777216):B0 Tryz.prog 83 [.agg x.c,.one (vi e)] [.one (vb (De x e))]:=by
 refine Ay A0 false Tryz.func83 rfl Bu fun W=>?_
 conv=>whnf
 refine Aw (C3v x e hx) rfl (Al ?_)
 repeat' (first|(refine Ms ?_;conv=>whnf)|(refine Mt ?_;conv=>whnf)|(refine ⟨fun h=>?_,fun h=>?_⟩<;>conv=>whnf)|(refine Kf ?_;conv=>whnf)|fail)
 all_goals first
  |(refine Aw (C3w x e hx) rfl (Al ?_))
  |(refine Ao A0 rfl rfl ⟨?_,trivial⟩;(conv=>whnf);refine congrArg vb ?_;simp_all [De];done)
 repeat' (first|(refine Ms ?_;conv=>whnf)|(refine Mt ?_;conv=>whnf)|(refine ⟨fun h=>?_,fun h=>?_⟩<;>conv=>whnf)|(refine Kf ?_;conv=>whnf)|fail)
 all_goals (refine Ao A0 rfl rfl ⟨?_,trivial⟩;(conv=>whnf);refine congrArg vb ?_;simp_all [De])
theorem A6r (x:Ab)(e:Int)(h:x.w≤16777216):B0 Tryz.prog 121 [.agg x.c,.one (vi e)] [.one (vi (Xs x e))]:=by
 simp only [Ab.w] at h
 have h1:=Nq x.queue e
 have h2:=Nq x.staged e
 refine Ay A0 false Tryz.func121 rfl Bu fun W=>?_
 conv=>whnf
 first|(refine B9 1 rfl [0,1,2,5,6,7,3,4,8,9,10,11] Aa (Al ?_))
 refine Aw (Ot x.queue e Ac) rfl (Al ?_)
 refine Aw (Ot x.staged e Ac) rfl (Al ?_)
 (repeat refine Ar ?_)
 exact Ao A0 rfl rfl ⟨congrArg vi (by simp only [Xs];omega),trivial⟩
theorem Y2 (x:Ab)(e:Int)(hx:x.w≤16777216):B0 Tryz.prog 81 [.agg x.c,.one (vi e)] [.one (vb (De x e))]:=by
 refine Ay A0 false Tryz.func81 rfl Bu fun W=>?_
 conv=>whnf
 refine Aw (A6p x e hx) rfl (Al ?_)
 repeat' (first|(refine Ms ?_;conv=>whnf)|(refine Mt ?_;conv=>whnf)|(refine ⟨fun h=>?_,fun h=>?_⟩<;>conv=>whnf)|(refine Kf ?_;conv=>whnf)|fail)
 all_goals first
  |(refine Aw (A6r x e hx) rfl (Al ?_))
  |(refine Ao A0 rfl rfl ⟨?_,trivial⟩;(conv=>whnf);refine congrArg vb ?_;simp_all [De];done)
 repeat' (first|(refine Ms ?_;conv=>whnf)|(refine Mt ?_;conv=>whnf)|(refine ⟨fun h=>?_,fun h=>?_⟩<;>conv=>whnf)|(refine Kf ?_;conv=>whnf)|fail)
 all_goals (refine Ao A0 rfl rfl ⟨?_,trivial⟩;(conv=>whnf);refine congrArg vb ?_;simp_all [De])
def A2r (l:List A5) (i:Nat):Prop:=(l.getD i default).op=0∧(l.getD i default).stamp.turn=0∧(0<i→(l.getD (i-1) default).stamp.epoch≤(l.getD i default).stamp.epoch)
instance (l:List A5) (i:Nat):Decidable (A2r l i):=by unfold A2r;infer_instance
def A5v (l:List A5):Prop:=∀i,i<l.length→A2r l i
instance (l:List A5):Decidable (A5v l):=by unfold A5v;infer_instance
def Jy (n:Int):Prop:= -1000000≤n∧n≤1000000
instance (n:Int):Decidable (Jy n):=by unfold Jy;infer_instance
def Ym (l:List Int):Prop:=∀n∈l,Jy n
instance (l:List Int):Decidable (Ym l):=by unfold Ym;infer_instance
def A7y (l:List E3) (i:Nat):Prop:=∀k,k<i→(l.getD k default).epoch≠(l.getD i default).epoch
instance (l:List E3) (i:Nat):Decidable (A7y l i):=by unfold A7y;infer_instance
def Uu (l:List E3) (i:Nat):Prop:=(0≤(l.getD i default).epoch∧(l.getD i default).epoch≤3)∧A7y l i
instance (l:List E3) (i:Nat):Decidable (Uu l i):=by unfold Uu;infer_instance
def A0d (l:List E3):Prop:=∀i,i<l.length→Uu l i
instance (l:List E3):Decidable (A0d l):=by unfold A0d;infer_instance
def Rf (n:Nat) (x:Ab):Prop:=(Sm n x.queue∧Sm n x.staged∧Sm n x.inputs∧Mu x.cells)
instance (n:Nat) (x:Ab):Decidable (Rf n x):=by unfold Rf;infer_instance
def Rg (x:Ab):Prop:=(x.sums.length=4∧x.black.length=4∧x.caps.length=4)
instance (x:Ab):Decidable (Rg x):=by unfold Rg;infer_instance
def D8 (n:Nat) (x:Ab):Prop:=Rf n x∧Rg x∧A5v x.inputs∧Ym x.sums∧A0d x.dones
instance (n:Nat) (x:Ab):Decidable (D8 n x):=by unfold D8;infer_instance
def Lg (n:Nat) (x:Ab):Bool:=decide (D8 n x)
theorem C03 (g:Ad)(x:Ab)(hg:g.w≤16777216)(hx:x.w≤16777216):B0 Tryz.prog 98 [.agg g.c,.agg x.c] [.one (vb (Lg g.nodes.length x))]:=by
 have hx2:=hx
 simp only [Ab.w] at hx2
 refine Ay A0 false Tryz.func98 rfl Bu fun W=>?_
 conv=>whnf
 repeat' (first|(refine Ms ?_;conv=>whnf)|(refine Mt ?_;conv=>whnf)|(refine ⟨fun h=>?_,fun h=>?_⟩<;>conv=>whnf)|(refine Aw (C1b g x.queue hg Ac) rfl (Tt ?_);conv=>whnf)|(refine Aw (C1b g x.staged hg Ac) rfl (Tt ?_);conv=>whnf)|(refine Aw (C1b g x.inputs hg Ac) rfl (Tt ?_);conv=>whnf)|(refine Aw (C3h x.cells Ac) rfl (Tt ?_);conv=>whnf)|(refine Gj ?_;conv=>whnf)|(refine B9 7 rfl [0,1,2,3,4,5,6,7,8,9,10,11,12,13,14,15,16,17,18,19,20,21,22,23,24,25,26,27,28,29,30,31,32,33,34,35,36,37,38] Aa (Al ?_))|(refine B9 22 rfl [0,1,2,3,4,5,6,7,8,9,10,11,12] Aa (Al ?_))|fail)
 all_goals try (refine Ao A0 rfl rfl ⟨congrArg vb (decide_eq_false fun p=>?_),trivial⟩;obtain ⟨⟨p1,p2,p3,p4⟩,⟨p5,p6,p7⟩,_⟩:=p;first|(simp only [beq_iff_eq,beq_eq_false_iff_ne,bne_iff_ne,bne_eq_false_iff_eq,Bool.not_eq_true',Bool.not_eq_false',Go.Sx.Am,Go.Sx.Az,decide_eq_true_eq,decide_eq_false_iff_not,ne_eq,Int.not_lt,Int.not_le,ge_iff_le,gt_iff_lt,Int.toNat_zero,Int.toNat_one,Int.toNat_natCast] at *;omega)|(simp_all [A39,A0n];done))
 have hA:Rf g.nodes.length x:=by unfold Rf;refine ⟨?_,?_,?_,?_⟩<;>simp_all [A39,A0n]
 have hL:Rg x:=by clear hA;unfold Rg;simp only [beq_iff_eq,beq_eq_false_iff_ne,bne_iff_ne,bne_eq_false_iff_eq,Bool.not_eq_true',Bool.not_eq_false',Go.Sx.Am,Go.Sx.Az,decide_eq_true_eq,decide_eq_false_iff_not,ne_eq,Int.not_lt,Int.not_le,ge_iff_le,gt_iff_lt,Int.toNat_zero,Int.toNat_one,Int.toNat_natCast] at *;omega
 rename_i a1 a2 a3 a4 a5 a6
 clear h a1 a2 a3 a4 a5 a6
 have hu:=Fe (A2r x.inputs)
 refine Bw A0 false [] (fun k:Nat=>[(6,.c (vi k))]) (fun k=>[⟨0,[.c (Bp g.nodes),.c (vi g.workers),.c (vi g.cap)]⟩,⟨1,[.c (Ax x.queue),.c (Ax x.staged),.c (Ax x.inputs),.c (Ai x.cells),.c (F1 x.sums),.c (Gm x.black),.c (Gm x.caps),.c (Jn x.dones)]⟩]) (fun k=>[])
  (fun k=>k≤x.inputs.length∧O8 (A2r x.inputs) k) (fun k=>x.inputs.length-k) 0 ⟨Nat.zero_le _,by first|rfl|assumption|simp⟩ ⟨by first|rfl|simp [Dl,ren2,ren1,ren0],trivial⟩ F3 trivial Dh Aa (fun k hk=>?_)
 obtain ⟨hk,he⟩:=hk
 conv=>whnf
 refine G5 (fun h'=>?_) fun h'=>?_<;>conv=>whnf
 ·have h':k<x.inputs.length:=by omega
  have e1:((k:Int)-1).toNat=k-1:=by omega
  repeat' (first|(refine Ms ?_;conv=>whnf)|(refine Mt ?_;conv=>whnf)|(refine ⟨fun h=>?_,fun h=>?_⟩<;>conv=>whnf)|(refine Gj ?_;conv=>whnf)|(refine B9 7 rfl [0,1,2,3,4,5,6,7,8,9,10,11,12,13,14,15,16,17,18,19,20,21,22,23,24,25,26,27,28,29,30,31,32,33,34,35,36,37,38] Aa (Al ?_))|(refine B9 22 rfl [0,1,2,3,4,5,6,7,8,9,10,11,12] Aa (Al ?_))|fail)
  all_goals try (refine Ao A0 rfl rfl ⟨congrArg vb (decide_eq_false fun p=>?_),trivial⟩;have p:=p.2.2.1 k h';clear he hA hL hu;simp only [A2r] at p;simp only [beq_iff_eq,beq_eq_false_iff_ne,bne_iff_ne,bne_eq_false_iff_eq,Bool.not_eq_true',Bool.not_eq_false',Go.Sx.Am,Go.Sx.Az,decide_eq_true_eq,decide_eq_false_iff_not,ne_eq,Int.not_lt,Int.not_le,ge_iff_le,gt_iff_lt,Int.toNat_zero,Int.toNat_one,Int.toNat_natCast] at *;first|omega|(simp only [e1] at *;omega))
  all_goals
   have hs:A2r x.inputs k:=by clear he hA hL hu;simp only [A2r];simp only [beq_iff_eq,beq_eq_false_iff_ne,bne_iff_ne,bne_eq_false_iff_eq,Bool.not_eq_true',Bool.not_eq_false',Go.Sx.Am,Go.Sx.Az,decide_eq_true_eq,decide_eq_false_iff_not,ne_eq,Int.not_lt,Int.not_le,ge_iff_le,gt_iff_lt,Int.toNat_zero,Int.toNat_one,Int.toNat_natCast] at *;first|omega|(simp only [e1] at *;omega)
   refine B5 [] (k+1) ⟨by omega,Fc he hs⟩ Ac ⟨rfl,trivial⟩ trivial F3 Aa Dh Aa
 have e:k=x.inputs.length:=by omega
 have hI:A5v x.inputs:=fun i hi=>he i Ac
 clear he hu
 have hsl:x.sums.length=4:=hL.1
 have hu:=Fe (fun i=>Jy (x.sums.getD i default))
 refine Bw A0 false [] (fun k:Nat=>[(7,.c (vi k))]) (fun k=>[⟨0,[.c (Bp g.nodes),.c (vi g.workers),.c (vi g.cap)]⟩,⟨1,[.c (Ax x.queue),.c (Ax x.staged),.c (Ax x.inputs),.c (Ai x.cells),.c (F1 x.sums),.c (Gm x.black),.c (Gm x.caps),.c (Jn x.dones)]⟩]) (fun k=>[])
  (fun k=>k≤x.sums.length∧O8 (fun i=>Jy (x.sums.getD i default)) k) (fun k=>x.sums.length-k) 0 ⟨Nat.zero_le _,by first|rfl|assumption|simp⟩ ⟨by first|rfl|simp [Dl,ren2,ren1,ren0],trivial⟩ F3 trivial Dh Aa (fun k hk=>?_)
 obtain ⟨hk,he⟩:=hk
 conv=>whnf
 refine G5 (fun h'=>?_) fun h'=>?_<;>conv=>whnf
 ·have h':k<x.sums.length:=by omega
  (repeat refine Ar ?_)
  refine Aw (Jo _ _ _) rfl (Al ?_)
  refine ⟨fun h=>?_,fun h=>?_⟩<;>conv=>whnf
  ·exact Ao A0 rfl rfl ⟨congrArg vb (decide_eq_false fun p=>by have:=p.2.2.2.1 _ (Aq (d:=default) h');clear hA hI he p;simp only [Jy] at this;simp only [beq_iff_eq,beq_eq_false_iff_ne,bne_iff_ne,bne_eq_false_iff_eq,Bool.not_eq_true',Bool.not_eq_false',Go.Sx.Am,Go.Sx.Az,decide_eq_true_eq,decide_eq_false_iff_not,ne_eq,Int.not_lt,Int.not_le,ge_iff_le,gt_iff_lt,Int.toNat_zero,Int.toNat_one,Int.toNat_natCast] at *;omega),trivial⟩
  ·(repeat refine Ar ?_)
   refine B5 [] (k+1) ⟨by omega,Fc he (by clear he hA hI;simp only [Jy];simp only [beq_iff_eq,beq_eq_false_iff_ne,bne_iff_ne,bne_eq_false_iff_eq,Bool.not_eq_true',Bool.not_eq_false',Go.Sx.Am,Go.Sx.Az,decide_eq_true_eq,decide_eq_false_iff_not,ne_eq,Int.not_lt,Int.not_le,ge_iff_le,gt_iff_lt,Int.toNat_zero,Int.toNat_one,Int.toNat_natCast] at *;omega)⟩ Ac ⟨rfl,trivial⟩ trivial F3 Aa Dh Aa
 have e:k=x.sums.length:=by omega
 have hS:Ym x.sums:=K5 (p:=Jy) (e▸he)
 clear he hu
 have hu:=Fe (Uu x.dones)
 refine Bw A0 false [] (fun k:Nat=>[(8,.c (vi k))]) (fun k=>[⟨0,[.c (Bp g.nodes),.c (vi g.workers),.c (vi g.cap)]⟩,⟨1,[.c (Ax x.queue),.c (Ax x.staged),.c (Ax x.inputs),.c (Ai x.cells),.c (F1 x.sums),.c (Gm x.black),.c (Gm x.caps),.c (Jn x.dones)]⟩]) (fun k=>[])
  (fun k=>k≤x.dones.length∧O8 (Uu x.dones) k) (fun k=>x.dones.length-k) 0 ⟨Nat.zero_le _,by first|rfl|assumption|simp⟩ ⟨by first|rfl|simp [Dl,ren2,ren1,ren0],trivial⟩ F3 trivial Dh Aa (fun k hk=>?_)
 obtain ⟨hk,he⟩:=hk
 conv=>whnf
 refine G5 (fun h'=>?_) fun h'=>?_<;>conv=>whnf
 ·have h':k<x.dones.length:=by omega
  (repeat refine Ar ?_)
  refine Aw (Jo _ _ _) rfl (Al ?_)
  refine ⟨fun h=>?_,fun h=>?_⟩<;>conv=>whnf
  ·exact Ao A0 rfl rfl ⟨congrArg vb (decide_eq_false fun p=>by have:=(p.2.2.2.2 k h').1;clear hA hI he hS p;simp only [beq_iff_eq,beq_eq_false_iff_ne,bne_iff_ne,bne_eq_false_iff_eq,Bool.not_eq_true',Bool.not_eq_false',Go.Sx.Am,Go.Sx.Az,decide_eq_true_eq,decide_eq_false_iff_not,ne_eq,Int.not_lt,Int.not_le,ge_iff_le,gt_iff_lt,Int.toNat_zero,Int.toNat_one,Int.toNat_natCast] at *;omega),trivial⟩
  have hd:0≤(x.dones.getD k default).epoch∧(x.dones.getD k default).epoch≤3:=by clear hA hI he hS hu;simp only [beq_iff_eq,beq_eq_false_iff_ne,bne_iff_ne,bne_eq_false_iff_eq,Bool.not_eq_true',Bool.not_eq_false',Go.Sx.Am,Go.Sx.Az,decide_eq_true_eq,decide_eq_false_iff_not,ne_eq,Int.not_lt,Int.not_le,ge_iff_le,gt_iff_lt,Int.toNat_zero,Int.toNat_one,Int.toNat_natCast] at *;omega
  have hv:=Fe (fun i=>(x.dones.getD i default).epoch≠(x.dones.getD k default).epoch)
  refine Bw A0 false [] (fun j:Nat=>[(9,.c (vi j))]) (fun j=>[⟨0,[.c (Bp g.nodes),.c (vi g.workers),.c (vi g.cap)]⟩,⟨1,[.c (Ax x.queue),.c (Ax x.staged),.c (Ax x.inputs),.c (Ai x.cells),.c (F1 x.sums),.c (Gm x.black),.c (Gm x.caps),.c (Jn x.dones)]⟩]) (fun j=>[])
   (fun j=>j≤k∧O8 (fun i=>(x.dones.getD i default).epoch≠(x.dones.getD k default).epoch) j) (fun j=>k-j) 0 ⟨Nat.zero_le _,by first|rfl|assumption|simp⟩ ⟨by first|rfl|simp [Dl,ren2,ren1,ren0],trivial⟩ F3 trivial Dh Aa (fun j hj=>?_)
  obtain ⟨hj,hej⟩:=hj
  conv=>whnf
  refine G5 (fun h3=>?_) fun h3=>?_<;>conv=>whnf
  ·have h3:j<k:=by omega
   first|(refine B9 7 rfl [0,1,2,3,4,5,6,7,8,9,10,11,12,13,14,15,16,17,18,19,20,21,22,23,24,25,26,27,28,29,30,31,32,33,34,35,36,37,38] Aa (Al ?_))|(refine B9 22 rfl [0,1,2,3,4,5,6,7,8,9,10,11,12] Aa (Al ?_))
   (repeat refine Ar ?_)
   refine ⟨fun h4=>have h4:=eq_of_beq h4;?_,fun h4=>have h4:=beq_eq_false_iff_ne.1 h4;?_⟩<;>conv=>whnf
   ·exact Ao A0 rfl rfl ⟨congrArg vb (decide_eq_false fun p=>(p.2.2.2.2 k h').2 j h3 h4),trivial⟩
   ·(repeat refine Ar ?_)
    refine B5 [] (j+1) ⟨by omega,Fc hej h4⟩ Ac ⟨rfl,trivial⟩ trivial F3 Aa Dh Aa
  ·have e:j=k:=by omega
   (repeat refine Ar ?_)
   refine B5 [] (k+1) ⟨by omega,Fc he ⟨hd,fun i hi=>hej i Ac⟩⟩ Ac ⟨rfl,trivial⟩ trivial F3 Aa Dh Aa
 ·have e:k=x.dones.length:=by omega
  exact Ao A0 rfl rfl ⟨congrArg vb (decide_eq_true ⟨hA,hL,hI,hS,fun i hi=>he i Ac⟩),trivial⟩
end Go.Proofs.YtonodkjaoalfjaaGreat
