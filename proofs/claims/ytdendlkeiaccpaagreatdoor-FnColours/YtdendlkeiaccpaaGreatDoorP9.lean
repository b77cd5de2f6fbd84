/- Part 9 of the proof that each of the laws FnColours returns true for every input. No conditions. -/
import Derived.Test.YtdendlkeiaccpaaGreatDoorP4
import Derived.Test.YtdendlkeiaccpaaGreatDoorP6

set_option linter.unusedSimpArgs false
set_option linter.unusedVariables false
set_option maxRecDepth 100000
namespace Go.Proofs.YtdendlkeiaccpaaGreatDoor
open Go.Sx
theorem Pc (xs:List Ae)(e:Int)(hx:xs.length≤16777216):Be Tryz.prog 98 [.one (Ag xs),.one (vi e)] [.one (Ag (Cp xs e))]:=by
 refine B5 A0 false Tryz.func98 rfl Az fun W=>?_
 conv=>whnf
 refine Eo 0 (Ag []) rfl Du ?_
 refine C0 A0 false [7] (fun k:Nat=>[(6,.c (vi k))]) (fun k=>[]) (fun k=>[⟨0,Ag (Cp (xs.take k) e)⟩])
  (fun k=>k≤xs.length) (fun k=>xs.length-k) 0 (Nat.zero_le _) ⟨G3,trivial⟩ trivial ⟨Ek,trivial⟩ Co A7 (fun k hk=>?_)
 conv=>whnf
 refine F4 (fun h=>?_) fun h=>?_<;>conv=>whnf
 ·have h:k<xs.length:=by omega
  have hs:=Ho (fun r=>r.stamp.epoch==e) xs k h
  have hb:=Fa (fun r=>r.stamp.epoch==e) xs k
  (repeat refine An ?_)
  refine ⟨fun hc=>?_,fun hc=>?_⟩<;>conv=>whnf
  ·(repeat refine An ?_)
   refine B6 A0 rfl rfl rfl rfl rfl rfl rfl rfl rfl rfl rfl (Ag (Cp (xs.take k) e++[xs.getD k default])) (Ad rfl) Bp (by show (List.filter _ _).length+1≤_;omega) (A8 ?_)
   (repeat refine An ?_)
   refine B8 [(0,2)] (k+1) Ac Ac ⟨rfl,trivial⟩ ⟨congrArg Ag (by show _=List.filter _ _;rw [hs];exact congrArg (fun l=>List.filter _ (xs.take k)++l) (if_pos hc).symm),trivial⟩ trivial A7 Co A7
  (repeat refine An ?_)
  refine B8 [] (k+1) Ac Ac ⟨rfl,trivial⟩ ⟨congrArg Ag (by show _=List.filter _ _;rw [hs];exact (List.append_nil _).symm.trans (congrArg (fun l=>List.filter _ (xs.take k)++l) (if_neg (Bool.eq_false_iff.1 hc)).symm)),trivial⟩ trivial A7 Co A7
 refine Ap A0 rfl rfl ⟨?_,trivial⟩
 exact congrArg (fun l=>Ag (Cp l e)) (Ed xs k Ac)
theorem Om (xs:List Ae)(e:Int)(hx:xs.length≤16777216):Be Tryz.prog 97 [.one (Ag xs),.one (vi e)] [.one (Ag (Cp xs e))]:=by
 refine B5 A0 false Tryz.func97 rfl Az fun W=>?_
 conv=>whnf
 refine B9g 5 5 (fun i=>Ae.c (([]:List Ae).getD i default)) rfl ?_
 refine C0 A0 false [] (fun k:Nat=>[(10,.c (vi k))]) (fun k=>[]) (fun k=>[⟨0,Ag (Cp (xs.take k) e)⟩])
  (fun k=>k≤xs.length) (fun k=>xs.length-k) 0 (Nat.zero_le _) ⟨G3,trivial⟩ trivial ⟨Ek,trivial⟩ Co A7 (fun k hk=>?_)
 conv=>whnf
 refine F4 (fun h=>?_) fun h=>?_<;>conv=>whnf
 ·have h:k<xs.length:=by omega
  have hs:=Ho (fun r=>r.stamp.epoch==e) xs k h
  have hb:=Fa (fun r=>r.stamp.epoch==e) xs k
  (repeat refine An ?_)
  refine ⟨fun hc=>?_,fun hc=>?_⟩<;>conv=>whnf
  ·(repeat refine An ?_)
   refine B6 A0 rfl rfl rfl rfl rfl rfl rfl rfl rfl rfl rfl (Ag (Cp (xs.take k) e++[xs.getD k default])) (Ad rfl) Bp (by show (List.filter _ _).length+1≤_;omega) (A8 ?_)
   (repeat refine An ?_)
   refine B8 [(0,3)] (k+1) Ac Ac ⟨rfl,trivial⟩ ⟨congrArg Ag (by show _=List.filter _ _;rw [hs];exact congrArg (fun l=>List.filter _ (xs.take k)++l) (if_pos hc).symm),trivial⟩ trivial A7 Co A7
  (repeat refine An ?_)
  refine B8 [] (k+1) Ac Ac ⟨rfl,trivial⟩ ⟨congrArg Ag (by show _=List.filter _ _;rw [hs];exact (List.append_nil _).symm.trans (congrArg (fun l=>List.filter _ (xs.take k)++l) (if_neg (Bool.eq_false_iff.1 hc)).symm)),trivial⟩ trivial A7 Co A7
 refine Ap A0 rfl rfl ⟨?_,trivial⟩
 exact congrArg (fun l=>Ag (Cp l e)) (Ed xs k Ac)
theorem A5w (xs:List Ae)(hx:xs.length≤16777216)(f:Nat)(cs:List Af)(p:Ae→Bool)(hf:∀x∈xs,Be Tryz.prog f [.agg x.c,.ptr cs] [.one (vb (p x))]):
  Be Tryz.prog 172 [.one (Ag xs),.fn f [.ptr cs]] [.one (vi (Tr p xs))]:=by
 refine B5 A0 false Tryz.func172 rfl Az fun W=>?_
 conv=>whnf
 refine C0 A0 false [] (fun k:Nat=>[(8,.c (vi k))]) (fun k=>[]) (fun k=>[])
  (fun k=>k≤xs.length∧(xs.take k).any p=false) (fun k=>xs.length-k) 0 ⟨Nat.zero_le _,by first|rfl|assumption|simp⟩ ⟨G3,trivial⟩ trivial trivial Co A7 (fun k hk=>?_)
 obtain ⟨hk,he⟩:=hk
 conv=>whnf
 refine F4 (fun h=>?_) fun h=>?_<;>conv=>whnf
 ·have h:k<xs.length:=by omega
  (repeat refine An ?_)
  refine At (hf (xs.getD k default) (Ay h)) rfl (A8 ?_)
  refine ⟨fun hc=>?_,fun hc=>?_⟩<;>conv=>whnf
  ·exact Ap A0 rfl rfl ⟨congrArg vi (A3d p xs k he h hc),trivial⟩
  (repeat refine An ?_)
  refine B8 [] (k+1) ⟨by omega,Fv he h hc⟩ Ac ⟨rfl,trivial⟩ trivial trivial A7 Co A7
 exact Ap A0 rfl rfl ⟨congrArg vi (Vy p xs (by rw [Ed xs k Ac] at he;exact he)),trivial⟩
theorem A20 (xs:List Ae)(hx:xs.length≤16777216)(f:Nat)(cs:List Af)(p:Ae→Bool)(hf:∀x∈xs,Be Tryz.prog f [.agg x.c,.ptr cs] [.one (vb (p x))]):
  Be Tryz.prog 133 [.one (Ag xs),.fn f [.ptr cs]] [.one (vb (xs.any p))]:=by
 refine B5 A0 false Tryz.func133 rfl Az fun W=>?_
 conv=>whnf
 refine At (A5w xs hx f cs p hf) rfl (A8 ?_)
 exact Ap A0 rfl rfl ⟨congrArg vb (Z1 p xs).symm,trivial⟩
theorem B2y (xs:List Dn)(hx:xs.length≤16777216)(f:Nat)(cs:List Af)(p:Dn→Bool)(hf:∀x∈xs,Be Tryz.prog f [.agg x.c,.ptr cs] [.one (vb (p x))]):
  Be Tryz.prog 195 [.one (G1 xs),.fn f [.ptr cs]] [.one (vi (Tr p xs))]:=by
 refine B5 A0 false Tryz.func195 rfl Az fun W=>?_
 conv=>whnf
 refine C0 A0 false [] (fun k:Nat=>[(8,.c (vi k))]) (fun k=>[]) (fun k=>[])
  (fun k=>k≤xs.length∧(xs.take k).any p=false) (fun k=>xs.length-k) 0 ⟨Nat.zero_le _,by first|rfl|assumption|simp⟩ ⟨G3,trivial⟩ trivial trivial Co A7 (fun k hk=>?_)
 obtain ⟨hk,he⟩:=hk
 conv=>whnf
 refine F4 (fun h=>?_) fun h=>?_<;>conv=>whnf
 ·have h:k<xs.length:=by omega
  (repeat refine An ?_)
  refine At (hf (xs.getD k default) (Ay h)) rfl (A8 ?_)
  refine ⟨fun hc=>?_,fun hc=>?_⟩<;>conv=>whnf
  ·exact Ap A0 rfl rfl ⟨congrArg vi (A3d p xs k he h hc),trivial⟩
  (repeat refine An ?_)
  refine B8 [] (k+1) ⟨by omega,Fv he h hc⟩ Ac ⟨rfl,trivial⟩ trivial trivial A7 Co A7
 exact Ap A0 rfl rfl ⟨congrArg vi (Vy p xs (by rw [Ed xs k Ac] at he;exact he)),trivial⟩
theorem A9c (xs:List Dn)(hx:xs.length≤16777216)(f:Nat)(cs:List Af)(p:Dn→Bool)(hf:∀x∈xs,Be Tryz.prog f [.agg x.c,.ptr cs] [.one (vb (p x))]):
  Be Tryz.prog 169 [.one (G1 xs),.fn f [.ptr cs]] [.one (vb (xs.any p))]:=by
 refine B5 A0 false Tryz.func169 rfl Az fun W=>?_
 conv=>whnf
 refine At (B2y xs hx f cs p hf) rfl (A8 ?_)
 exact Ap A0 rfl rfl ⟨congrArg vb (Z1 p xs).symm,trivial⟩
theorem B9l (x:Ae)(e:Int):Be Tryz.prog 134 [.agg x.c,.ptr [vi e]] [.one (vb (decide (x.stamp.epoch≤e)))]:=by
 refine B5 A0 false Tryz.func134 rfl Az fun W=>?_
 conv=>whnf
 exact Ap A0 rfl rfl ⟨rfl,trivial⟩
theorem B84 (x:Dn)(e:Int):Be Tryz.prog 170 [.agg x.c,.ptr [vi e]] [.one (vb (x.epoch==e))]:=by
 refine B5 A0 false Tryz.func170 rfl Az fun W=>?_
 conv=>whnf
 exact Ap A0 rfl rfl ⟨rfl,trivial⟩
theorem A53 (x:Aa)(e:Int)(h:x.w≤16777216):Be Tryz.prog 95 [.agg x.c,.one (vi e)] [.one (vb (Oy x e))]:=by
 refine B5 A0 false Tryz.func95 rfl Az fun W=>?_
 conv=>whnf
 refine At (A20 x.inputs (by simp only [Aa.w] at h;omega) _ [vi e] (fun r=>decide (r.stamp.epoch≤e)) (fun r _=>B9l r e)) rfl (A8 ?_)
 exact Ap A0 rfl rfl ⟨rfl,trivial⟩
theorem A6r (x:Aa)(e:Int)(h:x.w≤16777216):Be Tryz.prog 84 [.agg x.c,.one (vi e)] [.one (vb (Oy x e))]:=by
 have hl:x.inputs.length≤16777216:=by simp only [Aa.w] at h;omega
 refine B5 A0 false Tryz.func84 rfl Az fun W=>?_
 conv=>whnf
 refine C0 A0 false [] (fun k:Nat=>[(5,.c (vi k))]) (fun k=>[⟨0,[.c (Ag x.queue),.c (Ag x.staged),.c (Ag x.inputs),.c (Bm x.cells),.c (Au x.sums),.c (Dq x.black),.c (Dq x.caps),.c (G1 x.dones)]⟩]) (fun k=>[])
  (fun k=>k≤x.inputs.length∧(x.inputs.take k).any (fun r=>decide (r.stamp.epoch≤e))=false) (fun k=>x.inputs.length-k) 0 ⟨Nat.zero_le _,by first|rfl|assumption|simp⟩ ⟨G3,trivial⟩ Cg trivial Co A7 (fun k hk=>?_)
 obtain ⟨hk,he⟩:=hk
 conv=>whnf
 refine F4 (fun h=>?_) fun h=>?_<;>conv=>whnf
 ·have h:k<x.inputs.length:=by omega
  (repeat refine An ?_)
  refine ⟨fun hc=>?_,fun hc=>?_⟩<;>conv=>whnf
  ·exact Ap A0 rfl rfl ⟨congrArg vb (Is h hc),trivial⟩
  (repeat refine An ?_)
  refine B8 [] (k+1) ⟨by omega,Fv he h hc⟩ Ac ⟨rfl,trivial⟩ trivial Cg A7 Co A7
 exact Ap A0 rfl rfl ⟨congrArg vb (by rw [Ed x.inputs k Ac] at he;exact he),trivial⟩
theorem Wc (xs:List Dn)(e:Int)(h:xs.length≤16777216):Be Tryz.prog 130 [.one (G1 xs),.one (vi e)] [.one (vb (xs.any fun d=>d.epoch==e))]:=by
 refine B5 A0 false Tryz.func130 rfl Az fun W=>?_
 conv=>whnf
 refine At (A9c xs h _ [vi e] (fun d=>d.epoch==e) (fun d _=>B84 d e)) rfl (A8 ?_)
 exact Ap A0 rfl rfl ⟨rfl,trivial⟩
theorem Wd (x:Aa)(e:Int)(h:x.w≤16777216):Be Tryz.prog 91 [.agg x.c,.one (vi e)] [.one (vb (Bf x e))]:=by
 refine B5 A0 false Tryz.func91 rfl Az fun W=>?_
 conv=>whnf
 refine At (Wc x.dones e (by simp only [Aa.w] at h;omega)) rfl (A8 ?_)
 exact Ap A0 rfl rfl ⟨rfl,trivial⟩
theorem R7 (x:Aa)(e:Int)(h:x.w≤16777216):Be Tryz.prog 68 [.agg x.c,.one (vi e)] [.one (vb (Bf x e))]:=by
 have hl:x.dones.length≤16777216:=by simp only [Aa.w] at h;omega
 refine B5 A0 false Tryz.func68 rfl Az fun W=>?_
 conv=>whnf
 refine C0 A0 false [] (fun k:Nat=>[(5,.c (vi k))]) (fun k=>[⟨0,[.c (Ag x.queue),.c (Ag x.staged),.c (Ag x.inputs),.c (Bm x.cells),.c (Au x.sums),.c (Dq x.black),.c (Dq x.caps),.c (G1 x.dones)]⟩]) (fun k=>[])
  (fun k=>k≤x.dones.length∧(x.dones.take k).any (fun d=>d.epoch==e)=false) (fun k=>x.dones.length-k) 0 ⟨Nat.zero_le _,by first|rfl|assumption|simp⟩ ⟨G3,trivial⟩ Cg trivial Co A7 (fun k hk=>?_)
 obtain ⟨hk,he⟩:=hk
 conv=>whnf
 refine F4 (fun h=>?_) fun h=>?_<;>conv=>whnf
 ·have h:k<x.dones.length:=by omega
  (repeat refine An ?_)
  refine ⟨fun hc=>?_,fun hc=>?_⟩<;>conv=>whnf
  ·exact Ap A0 rfl rfl ⟨congrArg vb (Is h hc),trivial⟩
  (repeat refine An ?_)
  refine B8 [] (k+1) ⟨by omega,Fv he h hc⟩ Ac ⟨rfl,trivial⟩ trivial Cg A7 Co A7
 exact Ap A0 rfl rfl ⟨congrArg vb (by rw [Ed x.dones k Ac] at he;exact he),trivial⟩
theorem A6t (x:Aa)(e:Int)(h:x.w≤16777216):Be Tryz.prog 85 [.agg x.c,.one (vi e)] [.one (vi (Rb x e))]:=by
 simp only [Aa.w] at h
 have h1:=Le x.queue e
 have h2:=Le x.staged e
 refine B5 A0 false Tryz.func85 rfl Az fun W=>?_
 conv=>whnf
 first|(refine Ax 1 rfl [0,1,2,5,6,7,3,4,8,9,10,11] A7 (A8 ?_))
 refine At (Pc x.queue e Ac) rfl (A8 ?_)
 refine At (Pc x.staged e Ac) rfl (A8 ?_)
 (repeat refine An ?_)
 exact Ap A0 rfl rfl ⟨congrArg vi (by simp only [Rb];omega),trivial⟩
theorem Mg (x:Aa)(e:Int)(hx:x.w≤16777216):Be Tryz.prog 45 [.agg x.c,.one (vi e)] [.one (vb (Ch x e))]:=by
 refine B5 A0 false Tryz.func45 rfl Az fun W=>?_
 conv=>whnf
 refine At (A6r x e hx) rfl (A8 ?_)
 repeat' (first|(refine J1 ?_;conv=>whnf)|(refine J2 ?_;conv=>whnf)|(refine ⟨fun h=>?_,fun h=>?_⟩<;>conv=>whnf)|(refine Ex ?_;conv=>whnf)|fail)
 all_goals first
  |(refine At (A6t x e hx) rfl (A8 ?_))
  |(refine Ap A0 rfl rfl ⟨?_,trivial⟩;(conv=>whnf);refine congrArg vb ?_;simp_all [Ch];done)
 repeat' (first|(refine J1 ?_;conv=>whnf)|(refine J2 ?_;conv=>whnf)|(refine ⟨fun h=>?_,fun h=>?_⟩<;>conv=>whnf)|(refine Ex ?_;conv=>whnf)|fail)
 all_goals (refine Ap A0 rfl rfl ⟨?_,trivial⟩;(conv=>whnf);refine congrArg vb ?_;simp_all [Ch])
theorem A10 (x:Bz)(e:Int)(h:x.w≤16777216):Be Tryz.prog 63 [.agg x.c,.one (vi e)] [.one (vi (Cp x.queue e).length)]:=by
 refine B5 A0 false Tryz.func63 rfl Az fun W=>?_
 conv=>whnf
 refine At (Pc x.queue e h) rfl (A8 ?_)
 exact Ap A0 rfl rfl ⟨rfl,trivial⟩
theorem A54 (x:Aa)(e:Int)(h:x.w≤16777216):Be Tryz.prog 96 [.agg x.c,.one (vi e)] [.one (vi (Rb x e))]:=by
 simp only [Aa.w] at h
 have h1:=Le x.queue e
 have h2:=Le x.staged e
 refine B5 A0 false Tryz.func96 rfl Az fun W=>?_
 conv=>whnf
 first|(refine Ax 1 rfl [0,1,2,5,6,7,3,4,8,9,10,11] A7 (A8 ?_))
 refine At (Om x.queue e Ac) rfl (A8 ?_)
 refine At (Om x.staged e Ac) rfl (A8 ?_)
 (repeat refine An ?_)
 exact Ap A0 rfl rfl ⟨congrArg vi (by simp only [Rb];omega),trivial⟩
theorem Q2 (x:Aa)(e:Int)(hx:x.w≤16777216):Be Tryz.prog 61 [.agg x.c,.one (vi e)] [.one (vb (Ch x e))]:=by
 refine B5 A0 false Tryz.func61 rfl Az fun W=>?_
 conv=>whnf
 refine At (A53 x e hx) rfl (A8 ?_)
 repeat' (first|(refine J1 ?_;conv=>whnf)|(refine J2 ?_;conv=>whnf)|(refine ⟨fun h=>?_,fun h=>?_⟩<;>conv=>whnf)|(refine Ex ?_;conv=>whnf)|fail)
 all_goals first
  |(refine At (A54 x e hx) rfl (A8 ?_))
  |(refine Ap A0 rfl rfl ⟨?_,trivial⟩;(conv=>whnf);refine congrArg vb ?_;simp_all [Ch];done)
 repeat' (first|(refine J1 ?_;conv=>whnf)|(refine J2 ?_;conv=>whnf)|(refine ⟨fun h=>?_,fun h=>?_⟩<;>conv=>whnf)|(refine Ex ?_;conv=>whnf)|fail)
 all_goals (refine Ap A0 rfl rfl ⟨?_,trivial⟩;(conv=>whnf);refine congrArg vb ?_;simp_all [Ch])
theorem A07 (x:Bz)(e:Int)(h:x.w≤16777216):Be Tryz.prog 62 [.agg x.c,.one (vi e)] [.one (vi (Cp x.queue e).length)]:=by
 refine B5 A0 false Tryz.func62 rfl Az fun W=>?_
 conv=>whnf
 refine At (Om x.queue e h) rfl (A8 ?_)
 exact Ap A0 rfl rfl ⟨rfl,trivial⟩
end Go.Proofs.YtdendlkeiaccpaaGreatDoor
