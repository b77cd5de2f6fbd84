/- Part 14 of the proof that each of the laws FnScriptsBack returns true for every input. No conditions. -/
import Derived.Test.YtmhcebdkjgkmlaaGreatDoorR7

set_option linter.unusedSimpArgs false
set_option linter.unusedVariables false
set_option maxRecDepth 100000
namespace Go.Proofs.YtmhcebdkjgkmlaaGreatDoor
open Go.Sx
theorem D09 (a:Option Addr)(n cp:Nat):Df 20 [.one (.val (.slice a n cp))] [.one (vb (decide ((n:Int)>1_048_576)))]:=by
 refine Dy Tryz.func20 fun W=>?_;exact Af A0 rfl rfl ⟨by rfl,trivial⟩
theorem C1y (a b:List A9)(ha:a.length≤16777216)(hb:b.length≤16777216):Df 90 [.one (Aa a),.one (Aa b)] [.one (vb (decide (a=b)))]:=by
 refine Dy Tryz.func90 fun W=>?_;refine Xi (fun hn=>?_) fun hn=>?_
 ·exact Af A0 rfl rfl ⟨A6 vb (Cx fun e=>hn (by rw [e])),trivial⟩
 refine Fs [] (fun k:Nat=>[(13,.c (vi k))]) (fun k=>[]) (fun k=>[]) (fun k=>k≤a.length∧a.take k=b.take k) (fun k=>a.length-k) fun k hk=>?_;obtain ⟨hk,he⟩:=hk;refine E3 (fun h=>?_) fun h=>?_
 ·have h:k<a.length:=by omega
  have hs:=Ez a b k he h A7;refine B6 ?_
  first|(refine Ae 6 rfl [0,1,2,3,4,5,6,7,8] Ak (Ag ?_))
  refine B6 ?_;refine C2 (fun hc=>?_) fun hc=>?_
  ·have hc:(!decide (a.getD k default=b.getD k default))=true:=by rw [←A9.eqv];exact hc
   exact Af A0 rfl rfl ⟨A6 vb (Cx fun e=>by subst e;simp at hc),trivial⟩
  have hc:(!decide (a.getD k default=b.getD k default))=false:=by rw [←A9.eqv];exact hc
  refine B6 ?_;refine Co [] (k+1) ⟨by omega,hs.2 (by simpa using hc)⟩ A7 ⟨rfl,trivial⟩ trivial
 exact Af A0 rfl rfl ⟨A6 vb (D7 (by rw [←Bt a k A7,he,Bt b k A7])),trivial⟩
theorem C8j (a b:List Cs)(ha:a.length≤16777216)(hb:b.length≤16777216):Df 91 [.one (Ch a),.one (Ch b)] [.one (vb (decide (a=b)))]:=by
 refine Dy Tryz.func91 fun W=>?_;refine Xi (fun hn=>?_) fun hn=>?_
 ·exact Af A0 rfl rfl ⟨A6 vb (Cx fun e=>hn (by rw [e])),trivial⟩
 refine Fs [] (fun k:Nat=>[(13,.c (vi k))]) (fun k=>[]) (fun k=>[]) (fun k=>k≤a.length∧a.take k=b.take k) (fun k=>a.length-k) fun k hk=>?_;obtain ⟨hk,he⟩:=hk;refine E3 (fun h=>?_) fun h=>?_
 ·have h:k<a.length:=by omega
  have hs:=Ez a b k he h A7;refine B6 ?_
  first|(refine Ae 6 rfl [0,1,2,3,4,5,6,7,8] Ak (Ag ?_))
  refine B6 ?_;refine C2 (fun hc=>?_) fun hc=>?_
  ·have hc:(!decide (a.getD k default=b.getD k default))=true:=by rw [←Cs.eqv];exact hc
   exact Af A0 rfl rfl ⟨A6 vb (Cx fun e=>by subst e;simp at hc),trivial⟩
  have hc:(!decide (a.getD k default=b.getD k default))=false:=by rw [←Cs.eqv];exact hc
  refine B6 ?_;refine Co [] (k+1) ⟨by omega,hs.2 (by simpa using hc)⟩ A7 ⟨rfl,trivial⟩ trivial
 exact Af A0 rfl rfl ⟨A6 vb (D7 (by rw [←Bt a k A7,he,Bt b k A7])),trivial⟩
theorem D03 (a b:List Int)(ha:a.length≤16777216)(hb:b.length≤16777216):Df 207 [.one (De a),.one (De b)] [.one (vb (decide (a=b)))]:=by
 refine Dy Tryz.func207 fun W=>?_;refine Xi (fun hn=>?_) fun hn=>?_
 ·exact Af A0 rfl rfl ⟨A6 vb (Cx fun e=>hn (by rw [e])),trivial⟩
 refine Fs [] (fun k:Nat=>[(13,.c (vi k))]) (fun k=>[]) (fun k=>[]) (fun k=>k≤a.length∧a.take k=b.take k) (fun k=>a.length-k) fun k hk=>?_;obtain ⟨hk,he⟩:=hk;refine E3 (fun h=>?_) fun h=>?_
 ·have h:k<a.length:=by omega
  have hs:=Ez a b k he h A7;refine B6 ?_
  first|(refine Ae 6 rfl [0,1,2,3,4,5,6,7,8] Ak (Ag ?_))
  refine B6 ?_;refine C2 (fun hc=>?_) fun hc=>?_
  ·have hc:(!decide (a.getD k default=b.getD k default))=true:=by rw [←A33];exact hc
   exact Af A0 rfl rfl ⟨A6 vb (Cx fun e=>by subst e;simp at hc),trivial⟩
  have hc:(!decide (a.getD k default=b.getD k default))=false:=by rw [←A33];exact hc
  refine B6 ?_;refine Co [] (k+1) ⟨by omega,hs.2 (by simpa using hc)⟩ A7 ⟨rfl,trivial⟩ trivial
 exact Af A0 rfl rfl ⟨A6 vb (D7 (by rw [←Bt a k A7,he,Bt b k A7])),trivial⟩
theorem C6w (x y:Ba)(hx:x.ax.length≤16777216)(hy:y.ax.length≤16777216):Df 152 [.agg x.c,.agg y.c] [.one (vb (decide (x=y)))]:=by
 rw [Ba.eqv];refine Dy Tryz.func152 fun W=>?_
 repeat' (first|(refine Gy ?_;conv=>whnf)|(refine Gz ?_;conv=>whnf)|(refine ⟨fun h=>?_,fun h=>?_⟩<;>conv=>whnf)|(refine Ew ?_;conv=>whnf)|fail)
 all_goals first
  |(refine Af A0 rfl rfl ⟨?_,trivial⟩;(conv=>whnf);refine A6 vb ?_;simp only [*,Wr,Wq,Ux])
  |(refine Ao (D03 x.ax y.ax hx hy) rfl (Ag ?_))
 repeat' (first|(refine Gy ?_;conv=>whnf)|(refine Gz ?_;conv=>whnf)|(refine ⟨fun h=>?_,fun h=>?_⟩<;>conv=>whnf)|(refine Ew ?_;conv=>whnf)|fail)
 all_goals (refine Af A0 rfl rfl ⟨?_,trivial⟩;(conv=>whnf);refine A6 vb ?_;simp only [*,Wr,Wq,Ux])
theorem C8i (a b:List Ba)(ha:wS Ba.w a≤16777216)(hb:wS Ba.w b≤16777216):
  Df 151 [.one (Ay a),.one (Ay b),.fn 152 []] [.one (vb (decide (a=b)))]:=by
 simp only [wS] at ha hb;refine Dy Tryz.func151 fun W=>?_;refine Xi (fun hn=>?_) fun hn=>?_
 ·exact Af A0 rfl rfl ⟨A6 vb (Cx fun e=>hn (by rw [e])),trivial⟩
 refine Fs [] (fun k:Nat=>[(17,.c (vi k))]) (fun k=>[]) (fun k=>[]) (fun k=>k≤a.length∧a.take k=b.take k) (fun k=>a.length-k) fun k hk=>?_;obtain ⟨hk,he⟩:=hk;refine E3 (fun h=>?_) fun h=>?_
 ·have h:k<a.length:=by omega
  have hs:=Ez a b k he h A7;have h1:=Fg Ba.w a k h;have h2:=Fg Ba.w b k A7;refine B6 ?_;refine Fh (C6w (a.getD k default) (b.getD k default) (by simp only [Ba.w] at h1;omega) (by simp only [Ba.w] at h2;omega)) ?_;refine C2 (fun hc=>?_) fun hc=>?_
  ·exact Af A0 rfl rfl ⟨A6 vb (Cx fun e=>by subst e;simp at hc),trivial⟩
  refine B6 ?_;refine Co [] (k+1) ⟨by omega,hs.2 (by simpa using hc)⟩ A7 ⟨rfl,trivial⟩ trivial
 exact Af A0 rfl rfl ⟨A6 vb (D7 (by rw [←Bt a k A7,he,Bt b k A7])),trivial⟩
theorem A80 (x y:Ax)(hx:x.w≤16777216)(hy:y.w≤16777216):Df 89 [.agg x.c,.agg y.c] [.one (vb (decide (x=y)))]:=by
 rw [Ax.eqv];refine Dy Tryz.func89 fun W=>?_;refine Fh (C8i x.ay y.ay hx hy) ?_
 repeat' (first|(refine Gy ?_;conv=>whnf)|(refine Gz ?_;conv=>whnf)|(refine ⟨fun h=>?_,fun h=>?_⟩<;>conv=>whnf)|(refine Ew ?_;conv=>whnf)|fail)
 all_goals (refine Af A0 rfl rfl ⟨?_,trivial⟩;(conv=>whnf);refine A6 vb ?_;simp only [*,Wr,Wq,Ux])
theorem A5z (x y:B5)(hx:x.w≤16777216)(hy:y.w≤16777216):Df 33 [.agg x.c,.agg y.c] [.one (vb (decide (x=y)))]:=by
 simp only [B5.w] at hx hy;rw [B5.eqv];refine Dy Tryz.func33 fun W=>?_;refine Fh (A80 x.az y.az A7 A7) ?_
 repeat' (first|(refine Gy ?_;conv=>whnf)|(refine Gz ?_;conv=>whnf)|(refine ⟨fun h=>?_,fun h=>?_⟩<;>conv=>whnf)|(refine Ew ?_;conv=>whnf)|fail)
 all_goals first
  |(refine Af A0 rfl rfl ⟨?_,trivial⟩;(conv=>whnf);refine A6 vb ?_;simp only [*,Wr,Wq,Ux];done)
  |(refine Ao (C1y x.ap y.ap A7 A7) rfl (I7 ?_);conv=>whnf)
 repeat' (first|(refine Gy ?_;conv=>whnf)|(refine Gz ?_;conv=>whnf)|(refine ⟨fun h=>?_,fun h=>?_⟩<;>conv=>whnf)|(refine Ew ?_;conv=>whnf)|fail)
 all_goals first
  |(refine Af A0 rfl rfl ⟨?_,trivial⟩;(conv=>whnf);refine A6 vb ?_;simp only [*,Wr,Wq,Ux];done)
  |(refine Ao (C8j x.an y.an A7 A7) rfl (I7 ?_);conv=>whnf)
 repeat' (first|(refine Gy ?_;conv=>whnf)|(refine Gz ?_;conv=>whnf)|(refine ⟨fun h=>?_,fun h=>?_⟩<;>conv=>whnf)|(refine Ew ?_;conv=>whnf)|fail)
 all_goals (refine Af A0 rfl rfl ⟨?_,trivial⟩;(conv=>whnf);refine A6 vb ?_;simp only [*,Wr,Wq,Ux])
end Go.Proofs.YtmhcebdkjgkmlaaGreatDoor
