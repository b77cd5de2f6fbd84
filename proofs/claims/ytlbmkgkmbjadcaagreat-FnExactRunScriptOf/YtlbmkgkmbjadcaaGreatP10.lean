/- Part 10 of the proof that each of the laws FnExactRunScriptOf, FnExactSpreadResult returns true for every input. No conditions. -/
import Derived.Test.YtlbmkgkmbjadcaaGreatP4
import Derived.Test.YtlbmkgkmbjadcaaGreatP7

set_option linter.unusedSimpArgs false
set_option linter.unusedVariables false
set_option maxRecDepth 100000
namespace Go.Proofs.YtlbmkgkmbjadcaaGreat
open Go.Sx
theorem Uk (xs:List A3)(e:Int)(hx:xs.length≤16777216):Aq Tryz.prog 242 [.one (A9 xs),.one (vi e)] [.one (A9 (Ei xs e))]:=by
 refine Aj A0 false Tryz.func242 rfl Bs fun W=>?_
 conv=>whnf
 refine Gk 0 (A9 []) rfl Do ?_
 refine B6 A0 false [7] (fun k:Nat=>[(6,.c (vi k))]) (fun k=>[]) (fun k=>[⟨0,A9 (Ei (xs.take k) e)⟩])
  (fun k=>k≤xs.length) (fun k=>xs.length-k) 0 (Nat.zero_le _) ⟨by first|rfl|simp [Cr,ren2,ren1,ren0],trivial⟩ trivial ⟨by first|rfl|exact (congrArg (fun l=>Cb _ _ l) (List.append_nil _)).symm|(show (_:Ab)=_;simp)|simp,trivial⟩ Cc A5 (fun k hk=>?_)
 conv=>whnf
 refine F2 (fun h=>?_) fun h=>?_<;>conv=>whnf
 ·have h:k<xs.length:=by omega
  have hs:=Dv (fun r=>r.stamp.epoch==e) xs k h
  have hb:=Dn (fun r=>r.stamp.epoch==e) xs k
  (repeat refine An ?_)
  refine ⟨fun hc=>?_,fun hc=>?_⟩<;>conv=>whnf
  ·(repeat refine An ?_)
   refine Bm A0 rfl rfl rfl rfl rfl rfl rfl rfl rfl rfl rfl (A9 (Ei (xs.take k) e++[xs.getD k default])) (Bh rfl) Ef (by show (List.filter _ _).length+1≤_;omega) (Ae ?_)
   (repeat refine An ?_)
   refine At [(0,2)] (k+1) Ad Ad ⟨rfl,trivial⟩ ⟨congrArg A9 (by show _=List.filter _ _;rw [hs];exact congrArg (fun l=>List.filter _ (xs.take k)++l) (if_pos hc).symm),trivial⟩ trivial A5 Cc A5
  ·(repeat refine An ?_)
   refine At [] (k+1) Ad Ad ⟨rfl,trivial⟩ ⟨congrArg A9 (by show _=List.filter _ _;rw [hs];exact (List.append_nil _).symm.trans (congrArg (fun l=>List.filter _ (xs.take k)++l) (if_neg (Bool.eq_false_iff.1 hc)).symm)),trivial⟩ trivial A5 Cc A5
 ·refine Ah A0 rfl rfl ⟨?_,trivial⟩
  exact congrArg (fun l=>A9 (Ei l e)) (Ee xs k Ad)
theorem P4 (xs:List A3)(e:Int)(hx:xs.length≤16777216):Aq Tryz.prog 100 [.one (A9 xs),.one (vi e)] [.one (A9 (Ei xs e))]:=by
 refine Aj A0 false Tryz.func100 rfl Bs fun W=>?_
 conv=>whnf
 refine Wv 5 5 (fun i=>A3.c (([]:List A3).getD i default)) rfl ?_
 refine B6 A0 false [] (fun k:Nat=>[(10,.c (vi k))]) (fun k=>[]) (fun k=>[⟨0,A9 (Ei (xs.take k) e)⟩])
  (fun k=>k≤xs.length) (fun k=>xs.length-k) 0 (Nat.zero_le _) ⟨by first|rfl|simp [Cr,ren2,ren1,ren0],trivial⟩ trivial ⟨by first|rfl|exact (congrArg (fun l=>Cb _ _ l) (List.append_nil _)).symm|(show (_:Ab)=_;simp)|simp,trivial⟩ Cc A5 (fun k hk=>?_)
 conv=>whnf
 refine F2 (fun h=>?_) fun h=>?_<;>conv=>whnf
 ·have h:k<xs.length:=by omega
  have hs:=Dv (fun r=>r.stamp.epoch==e) xs k h
  have hb:=Dn (fun r=>r.stamp.epoch==e) xs k
  (repeat refine An ?_)
  refine ⟨fun hc=>?_,fun hc=>?_⟩<;>conv=>whnf
  ·(repeat refine An ?_)
   refine Bm A0 rfl rfl rfl rfl rfl rfl rfl rfl rfl rfl rfl (A9 (Ei (xs.take k) e++[xs.getD k default])) (Bh rfl) Ef (by show (List.filter _ _).length+1≤_;omega) (Ae ?_)
   (repeat refine An ?_)
   refine At [(0,3)] (k+1) Ad Ad ⟨rfl,trivial⟩ ⟨congrArg A9 (by show _=List.filter _ _;rw [hs];exact congrArg (fun l=>List.filter _ (xs.take k)++l) (if_pos hc).symm),trivial⟩ trivial A5 Cc A5
  ·(repeat refine An ?_)
   refine At [] (k+1) Ad Ad ⟨rfl,trivial⟩ ⟨congrArg A9 (by show _=List.filter _ _;rw [hs];exact (List.append_nil _).symm.trans (congrArg (fun l=>List.filter _ (xs.take k)++l) (if_neg (Bool.eq_false_iff.1 hc)).symm)),trivial⟩ trivial A5 Cc A5
 ·refine Ah A0 rfl rfl ⟨?_,trivial⟩
  exact congrArg (fun l=>A9 (Ei l e)) (Ee xs k Ad)
theorem A5i (xs:List A3)(hx:xs.length≤16777216)(f:Nat)(cs:List Ab)(p:A3→Bool)(hf:∀x∈xs,Aq Tryz.prog f [.agg x.c,.ptr cs] [.one (vb (p x))]):
  Aq Tryz.prog 244 [.one (A9 xs),.fn f [.ptr cs]] [.one (vi (Kt p xs))]:=by
 refine Aj A0 false Tryz.func244 rfl Bs fun W=>?_
 conv=>whnf
 refine B6 A0 false [] (fun k:Nat=>[(8,.c (vi k))]) (fun k=>[]) (fun k=>[])
  (fun k=>k≤xs.length∧(xs.take k).any p=false) (fun k=>xs.length-k) 0 ⟨Nat.zero_le _,by first|rfl|assumption|simp⟩ ⟨by first|rfl|simp [Cr,ren2,ren1,ren0],trivial⟩ trivial trivial Cc A5 (fun k hk=>?_)
 obtain ⟨hk,he⟩:=hk
 conv=>whnf
 refine F2 (fun h=>?_) fun h=>?_<;>conv=>whnf
 ·have h:k<xs.length:=by omega
  (repeat refine An ?_)
  refine Ai (hf (xs.getD k default) (B2 h)) rfl (Ae ?_)
  refine ⟨fun hc=>?_,fun hc=>?_⟩<;>conv=>whnf
  ·exact Ah A0 rfl rfl ⟨congrArg vi (Mw p xs k he h hc),trivial⟩
  ·(repeat refine An ?_)
   refine At [] (k+1) ⟨by omega,Fc he h hc⟩ Ad ⟨rfl,trivial⟩ trivial trivial A5 Cc A5
 ·exact Ah A0 rfl rfl ⟨congrArg vi (Ii p xs (by rw [Ee xs k Ad] at he;exact he)),trivial⟩
theorem A2m (xs:List A3)(hx:xs.length≤16777216)(f:Nat)(cs:List Ab)(p:A3→Bool)(hf:∀x∈xs,Aq Tryz.prog f [.agg x.c,.ptr cs] [.one (vb (p x))]):
  Aq Tryz.prog 228 [.one (A9 xs),.fn f [.ptr cs]] [.one (vb (xs.any p))]:=by
 refine Aj A0 false Tryz.func228 rfl Bs fun W=>?_
 conv=>whnf
 refine Ai (A5i xs hx f cs p hf) rfl (Ae ?_)
 exact Ah A0 rfl rfl ⟨congrArg vb (T0 p xs).symm,trivial⟩
theorem B18 (xs:List Bp)(hx:xs.length≤16777216)(f:Nat)(cs:List Ab)(p:Bp→Bool)(hf:∀x∈xs,Aq Tryz.prog f [.agg x.c,.ptr cs] [.one (vb (p x))]):
  Aq Tryz.prog 243 [.one (Er xs),.fn f [.ptr cs]] [.one (vi (Kt p xs))]:=by
 refine Aj A0 false Tryz.func243 rfl Bs fun W=>?_
 conv=>whnf
 refine B6 A0 false [] (fun k:Nat=>[(8,.c (vi k))]) (fun k=>[]) (fun k=>[])
  (fun k=>k≤xs.length∧(xs.take k).any p=false) (fun k=>xs.length-k) 0 ⟨Nat.zero_le _,by first|rfl|assumption|simp⟩ ⟨by first|rfl|simp [Cr,ren2,ren1,ren0],trivial⟩ trivial trivial Cc A5 (fun k hk=>?_)
 obtain ⟨hk,he⟩:=hk
 conv=>whnf
 refine F2 (fun h=>?_) fun h=>?_<;>conv=>whnf
 ·have h:k<xs.length:=by omega
  (repeat refine An ?_)
  refine Ai (hf (xs.getD k default) (B2 h)) rfl (Ae ?_)
  refine ⟨fun hc=>?_,fun hc=>?_⟩<;>conv=>whnf
  ·exact Ah A0 rfl rfl ⟨congrArg vi (Mw p xs k he h hc),trivial⟩
  ·(repeat refine An ?_)
   refine At [] (k+1) ⟨by omega,Fc he h hc⟩ Ad ⟨rfl,trivial⟩ trivial trivial A5 Cc A5
 ·exact Ah A0 rfl rfl ⟨congrArg vi (Ii p xs (by rw [Ee xs k Ad] at he;exact he)),trivial⟩
theorem A8v (xs:List Bp)(hx:xs.length≤16777216)(f:Nat)(cs:List Ab)(p:Bp→Bool)(hf:∀x∈xs,Aq Tryz.prog f [.agg x.c,.ptr cs] [.one (vb (p x))]):
  Aq Tryz.prog 226 [.one (Er xs),.fn f [.ptr cs]] [.one (vb (xs.any p))]:=by
 refine Aj A0 false Tryz.func226 rfl Bs fun W=>?_
 conv=>whnf
 refine Ai (B18 xs hx f cs p hf) rfl (Ae ?_)
 exact Ah A0 rfl rfl ⟨congrArg vb (T0 p xs).symm,trivial⟩
theorem B66 (x:A3)(e:Int):Aq Tryz.prog 229 [.agg x.c,.ptr [vi e]] [.one (vb (decide (x.stamp.epoch≤e)))]:=by
 refine Aj A0 false Tryz.func229 rfl Bs fun W=>?_
 conv=>whnf
 exact Ah A0 rfl rfl ⟨rfl,trivial⟩
theorem B6w (x:Bp)(e:Int):Aq Tryz.prog 227 [.agg x.c,.ptr [vi e]] [.one (vb (x.epoch==e))]:=by
 refine Aj A0 false Tryz.func227 rfl Bs fun W=>?_
 conv=>whnf
 exact Ah A0 rfl rfl ⟨rfl,trivial⟩
theorem A5n (x:A6)(e:Int)(h:x.w≤16777216):Aq Tryz.prog 184 [.agg x.c,.one (vi e)] [.one (vb (A5y x e))]:=by
 refine Aj A0 false Tryz.func184 rfl Bs fun W=>?_
 conv=>whnf
 refine Ai (A2m x.inputs Y7 _ [vi e] (fun r=>decide (r.stamp.epoch≤e)) (fun r _=>B66 r e)) rfl (Ae ?_)
 exact Ah A0 rfl rfl ⟨rfl,trivial⟩
theorem A6i (x:A6)(e:Int)(h:x.w≤16777216):Aq Tryz.prog 220 [.agg x.c,.one (vi e)] [.one (vb (A5y x e))]:=by
 have hl:x.inputs.length≤16777216:=by simp only [A6.w] at h;omega
 refine Aj A0 false Tryz.func220 rfl Bs fun W=>?_
 conv=>whnf
 refine B6 A0 false [] (fun k:Nat=>[(5,.c (vi k))]) (fun k=>[⟨0,[.c (A9 x.queue),.c (A9 x.staged),.c (A9 x.inputs),.c (Ao x.cells),.c (Eu x.sums),.c (Cx x.black),.c (Cx x.caps),.c (Er x.dones)]⟩]) (fun k=>[])
  (fun k=>k≤x.inputs.length∧(x.inputs.take k).any (fun r=>decide (r.stamp.epoch≤e))=false) (fun k=>x.inputs.length-k) 0 ⟨Nat.zero_le _,by first|rfl|assumption|simp⟩ ⟨by first|rfl|simp [Cr,ren2,ren1,ren0],trivial⟩ Cp trivial Cc A5 (fun k hk=>?_)
 obtain ⟨hk,he⟩:=hk
 conv=>whnf
 refine F2 (fun h=>?_) fun h=>?_<;>conv=>whnf
 ·have h:k<x.inputs.length:=by omega
  (repeat refine An ?_)
  refine ⟨fun hc=>?_,fun hc=>?_⟩<;>conv=>whnf
  ·exact Ah A0 rfl rfl ⟨congrArg vb (K7 h hc),trivial⟩
  ·(repeat refine An ?_)
   refine At [] (k+1) ⟨by omega,Fc he h hc⟩ Ad ⟨rfl,trivial⟩ trivial Cp A5 Cc A5
 ·exact Ah A0 rfl rfl ⟨congrArg vb (by rw [Ee x.inputs k Ad] at he;exact he),trivial⟩
theorem Wf (xs:List Bp)(e:Int)(h:xs.length≤16777216):Aq Tryz.prog 183 [.one (Er xs),.one (vi e)] [.one (vb (xs.any fun d=>d.epoch==e))]:=by
 refine Aj A0 false Tryz.func183 rfl Bs fun W=>?_
 conv=>whnf
 refine Ai (A8v xs h _ [vi e] (fun d=>d.epoch==e) (fun d _=>B6w d e)) rfl (Ae ?_)
 exact Ah A0 rfl rfl ⟨rfl,trivial⟩
theorem Wi (x:A6)(e:Int)(h:x.w≤16777216):Aq Tryz.prog 137 [.agg x.c,.one (vi e)] [.one (vb (Gp x e))]:=by
 refine Aj A0 false Tryz.func137 rfl Bs fun W=>?_
 conv=>whnf
 refine Ai (Wf x.dones e Y7) rfl (Ae ?_)
 exact Ah A0 rfl rfl ⟨rfl,trivial⟩
theorem Xs (x:A6)(e:Int)(h:x.w≤16777216):Aq Tryz.prog 131 [.agg x.c,.one (vi e)] [.one (vb (Gp x e))]:=by
 have hl:x.dones.length≤16777216:=by simp only [A6.w] at h;omega
 refine Aj A0 false Tryz.func131 rfl Bs fun W=>?_
 conv=>whnf
 refine B6 A0 false [] (fun k:Nat=>[(5,.c (vi k))]) (fun k=>[⟨0,[.c (A9 x.queue),.c (A9 x.staged),.c (A9 x.inputs),.c (Ao x.cells),.c (Eu x.sums),.c (Cx x.black),.c (Cx x.caps),.c (Er x.dones)]⟩]) (fun k=>[])
  (fun k=>k≤x.dones.length∧(x.dones.take k).any (fun d=>d.epoch==e)=false) (fun k=>x.dones.length-k) 0 ⟨Nat.zero_le _,by first|rfl|assumption|simp⟩ ⟨by first|rfl|simp [Cr,ren2,ren1,ren0],trivial⟩ Cp trivial Cc A5 (fun k hk=>?_)
 obtain ⟨hk,he⟩:=hk
 conv=>whnf
 refine F2 (fun h=>?_) fun h=>?_<;>conv=>whnf
 ·have h:k<x.dones.length:=by omega
  (repeat refine An ?_)
  refine ⟨fun hc=>?_,fun hc=>?_⟩<;>conv=>whnf
  ·exact Ah A0 rfl rfl ⟨congrArg vb (K7 h hc),trivial⟩
  ·(repeat refine An ?_)
   refine At [] (k+1) ⟨by omega,Fc he h hc⟩ Ad ⟨rfl,trivial⟩ trivial Cp A5 Cc A5
 ·exact Ah A0 rfl rfl ⟨congrArg vb (by rw [Ee x.dones k Ad] at he;exact he),trivial⟩
theorem A6k (x:A6)(e:Int)(h:x.w≤16777216):Aq Tryz.prog 221 [.agg x.c,.one (vi e)] [.one (vi (Y2 x e))]:=by
 simp only [A6.w] at h
 have h1:=Jv x.queue e
 have h2:=Jv x.staged e
 refine Aj A0 false Tryz.func221 rfl Bs fun W=>?_
 conv=>whnf
 first|(refine Ak 1 rfl [0,1,2,5,6,7,3,4,8,9,10,11] A5 (Ae ?_))
 refine Ai (Uk x.queue e Ad) rfl (Ae ?_)
 refine Ai (Uk x.staged e Ad) rfl (Ae ?_)
 (repeat refine An ?_)
 exact Ah A0 rfl rfl ⟨congrArg vi (by simp only [Y2];omega),trivial⟩
theorem Yn (x:A6)(e:Int)(hx:x.w≤16777216):Aq Tryz.prog 175 [.agg x.c,.one (vi e)] [.one (vb (Hv x e))]:=by
 refine Aj A0 false Tryz.func175 rfl Bs fun W=>?_
 conv=>whnf
 refine Ai (A6i x e hx) rfl (Ae ?_)
 repeat' (first|(refine Ki ?_;conv=>whnf)|(refine Kj ?_;conv=>whnf)|(refine ⟨fun h=>?_,fun h=>?_⟩<;>conv=>whnf)|(refine Jn ?_;conv=>whnf)|fail)
 all_goals first
  |(refine Ai (A6k x e hx) rfl (Ae ?_))
  |(refine Ah A0 rfl rfl ⟨?_,trivial⟩;(conv=>whnf);refine congrArg vb ?_;simp_all [Hv];done)
 repeat' (first|(refine Ki ?_;conv=>whnf)|(refine Kj ?_;conv=>whnf)|(refine ⟨fun h=>?_,fun h=>?_⟩<;>conv=>whnf)|(refine Jn ?_;conv=>whnf)|fail)
 all_goals (refine Ah A0 rfl rfl ⟨?_,trivial⟩;(conv=>whnf);refine congrArg vb ?_;simp_all [Hv])
theorem A5p (x:A6)(e:Int)(h:x.w≤16777216):Aq Tryz.prog 185 [.agg x.c,.one (vi e)] [.one (vi (Y2 x e))]:=by
 simp only [A6.w] at h
 have h1:=Jv x.queue e
 have h2:=Jv x.staged e
 refine Aj A0 false Tryz.func185 rfl Bs fun W=>?_
 conv=>whnf
 first|(refine Ak 1 rfl [0,1,2,5,6,7,3,4,8,9,10,11] A5 (Ae ?_))
 refine Ai (P4 x.queue e Ad) rfl (Ae ?_)
 refine Ai (P4 x.staged e Ad) rfl (Ae ?_)
 (repeat refine An ?_)
 exact Ah A0 rfl rfl ⟨congrArg vi (by simp only [Y2];omega),trivial⟩
theorem Yf (x:A6)(e:Int)(hx:x.w≤16777216):Aq Tryz.prog 138 [.agg x.c,.one (vi e)] [.one (vb (Hv x e))]:=by
 refine Aj A0 false Tryz.func138 rfl Bs fun W=>?_
 conv=>whnf
 refine Ai (A5n x e hx) rfl (Ae ?_)
 repeat' (first|(refine Ki ?_;conv=>whnf)|(refine Kj ?_;conv=>whnf)|(refine ⟨fun h=>?_,fun h=>?_⟩<;>conv=>whnf)|(refine Jn ?_;conv=>whnf)|fail)
 all_goals first
  |(refine Ai (A5p x e hx) rfl (Ae ?_))
  |(refine Ah A0 rfl rfl ⟨?_,trivial⟩;(conv=>whnf);refine congrArg vb ?_;simp_all [Hv];done)
 repeat' (first|(refine Ki ?_;conv=>whnf)|(refine Kj ?_;conv=>whnf)|(refine ⟨fun h=>?_,fun h=>?_⟩<;>conv=>whnf)|(refine Jn ?_;conv=>whnf)|fail)
 all_goals (refine Ah A0 rfl rfl ⟨?_,trivial⟩;(conv=>whnf);refine congrArg vb ?_;simp_all [Hv])
end Go.Proofs.YtlbmkgkmbjadcaaGreat
