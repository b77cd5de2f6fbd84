/- Part 41 of the proof that each of the laws FnExactRunScriptOf, FnExactSpreadResult returns true for every input. No conditions. -/
import Derived.Test.YtlbmkgkmbjadcaaGreatP7

set_option linter.unusedSimpArgs false
set_option linter.unusedVariables false
set_option maxRecDepth 100000
namespace Go.Proofs.YtlbmkgkmbjadcaaGreat
open Go.Sx
theorem A7e (xs:List Int)(hx:xs.length≤16777216):Aq Tryz.prog 164 [.one (Eu xs),.one (Eu xs)] [.one (vb true)]:=by
 have hl:=hx
 refine Aj A0 false Tryz.func164 rfl Bs fun W=>?_
 conv=>whnf
 refine ⟨fun h=>?_,fun _=>?_⟩<;>conv=>whnf
 ·simp at h
 refine B6 A0 false [] (fun k:Nat=>[(5,.c (vi k))]) (fun _=>[]) (fun _=>[])
  (fun k=>k≤xs.length) (fun k=>xs.length-k) 0 (Nat.zero_le _) ⟨rfl,trivial⟩ trivial trivial trivial A5 (fun k hk=>?_)
 conv=>whnf
 refine ⟨fun h=>?_,fun h=>?_⟩<;>simp at h<;>conv=>whnf
 ·refine Ks rfl [0,1,2,3,4,5,6,7,8] A5 (Ae ?_)
  refine ⟨by omega,?_⟩
  conv=>whnf
  refine ⟨by omega,?_⟩
  conv=>whnf
  refine ⟨fun h'=>?_,fun _=>?_⟩<;>conv=>whnf
  ·simp at h'
  refine ⟨by simp only [G8];omega,?_⟩
  conv=>whnf
  exact At [] (k+1) Ad Ad ⟨rfl,trivial⟩ trivial trivial A5 trivial A5
 ·exact Ah A0 rfl rfl ⟨rfl,trivial⟩
theorem B4h (x:Au)(h:x.w≤16777216):Aq Tryz.prog 126 [.agg x.c,.agg x.c] [.one (vb true)]:=by
 refine Aj A0 false Tryz.func126 rfl Bs fun W=>?_
 conv=>whnf
 refine ⟨fun h=>?_,fun _=>?_⟩<;>conv=>whnf
 ·simp at h
 refine ⟨fun h=>?_,fun _=>?_⟩<;>conv=>whnf
 ·simp at h
 refine ⟨fun h=>?_,fun _=>?_⟩<;>conv=>whnf
 ·simp at h
 refine Ai (A7e x.outs (by simp only [Au.w] at h;omega)) rfl (Ae ?_)
 refine ⟨fun h=>?_,fun _=>?_⟩<;>conv=>whnf
 ·simp at h
 exact Ah A0 rfl rfl ⟨rfl,trivial⟩
theorem B1s (xs:List Au)(hx:wS Au.w xs≤16777216):Aq Tryz.prog 68 [.one (Bb xs),.one (Bb xs)] [.one (vb true)]:=by
 have hl:xs.length≤16777216:=by simp only [wS] at hx;omega
 refine Aj A0 false Tryz.func68 rfl Bs fun W=>?_
 conv=>whnf
 refine ⟨fun h=>?_,fun _=>?_⟩<;>conv=>whnf
 ·simp at h
 refine B6 A0 false [] (fun k:Nat=>[(5,.c (vi k))]) (fun _=>[]) (fun _=>[])
  (fun k=>k≤xs.length) (fun k=>xs.length-k) 0 (Nat.zero_le _) ⟨rfl,trivial⟩ trivial trivial trivial A5 (fun k hk=>?_)
 conv=>whnf
 refine ⟨fun h=>?_,fun h=>?_⟩<;>simp at h<;>conv=>whnf
 ·refine Ks rfl [0,1,2,3,4,5,6,7,8,9] A5 (Ae ?_)
  refine ⟨by omega,?_⟩
  conv=>whnf
  refine ⟨by omega,?_⟩
  conv=>whnf
  refine Ai (B4h (xs.getD k default) (by have:=Bz Au.w xs k h;simp only [wS] at hx;omega)) rfl (Ae ?_)
  refine ⟨fun h'=>?_,fun _=>?_⟩<;>conv=>whnf
  ·simp at h'
  refine ⟨by simp only [G8];omega,?_⟩
  conv=>whnf
  exact At [] (k+1) Ad Ad ⟨rfl,trivial⟩ trivial trivial A5 trivial A5
 ·exact Ah A0 rfl rfl ⟨rfl,trivial⟩
theorem B1o (x:Ar)(h:x.w≤16777216):Aq Tryz.prog 25 [.agg x.c,.agg x.c] [.one (vb true)]:=by
 refine Aj A0 false Tryz.func25 rfl Bs fun W=>?_
 conv=>whnf
 refine Ai (B1s x.nodes (by simp only [Ar.w] at h;omega)) rfl (Ae ?_)
 refine ⟨fun h=>?_,fun _=>?_⟩<;>conv=>whnf
 ·simp at h
 refine ⟨fun h=>?_,fun _=>?_⟩<;>conv=>whnf
 ·simp at h
 refine ⟨fun h=>?_,fun _=>?_⟩<;>conv=>whnf
 ·simp at h
 exact Ah A0 rfl rfl ⟨rfl,trivial⟩
theorem B1v (x:Dq):Aq Tryz.prog 127 [.agg x.c,.agg x.c] [.one (vb true)]:=by
 refine Aj A0 false Tryz.func127 rfl Bs fun W=>?_
 conv=>whnf
 refine ⟨fun h=>?_,fun _=>?_⟩<;>conv=>whnf
 ·simp at h
 refine ⟨fun h=>?_,fun _=>?_⟩<;>conv=>whnf
 ·simp at h
 exact Ah A0 rfl rfl ⟨rfl,trivial⟩
theorem A81 (x:A3):Aq Tryz.prog 69 [.agg x.c,.agg x.c] [.one (vb true)]:=by
 refine Aj A0 false Tryz.func69 rfl Bs fun W=>?_
 conv=>whnf
 refine ⟨fun h=>?_,fun _=>?_⟩<;>conv=>whnf
 ·simp at h
 refine Ai (B1v x.stamp) rfl (Ae ?_)
 refine ⟨fun h=>?_,fun _=>?_⟩<;>conv=>whnf
 ·simp at h
 refine ⟨fun h=>?_,fun _=>?_⟩<;>conv=>whnf
 ·simp at h
 refine ⟨fun h=>?_,fun _=>?_⟩<;>conv=>whnf
 ·simp at h
 exact Ah A0 rfl rfl ⟨rfl,trivial⟩
theorem Nf (xs:List A3)(hx:xs.length≤16777216):Aq Tryz.prog 26 [.one (A9 xs),.one (A9 xs)] [.one (vb true)]:=by
 have hl:=hx
 refine Aj A0 false Tryz.func26 rfl Bs fun W=>?_
 conv=>whnf
 refine ⟨fun h=>?_,fun _=>?_⟩<;>conv=>whnf
 ·simp at h
 refine B6 A0 false [] (fun k:Nat=>[(5,.c (vi k))]) (fun _=>[]) (fun _=>[])
  (fun k=>k≤xs.length) (fun k=>xs.length-k) 0 (Nat.zero_le _) ⟨rfl,trivial⟩ trivial trivial trivial A5 (fun k hk=>?_)
 conv=>whnf
 refine ⟨fun h=>?_,fun h=>?_⟩<;>simp at h<;>conv=>whnf
 ·refine Ks rfl [0,1,2,3,4,5,6,7,8,9] A5 (Ae ?_)
  refine ⟨by omega,?_⟩
  conv=>whnf
  refine ⟨by omega,?_⟩
  conv=>whnf
  refine Ai (A81 (xs.getD k default)) rfl (Ae ?_)
  refine ⟨fun h'=>?_,fun _=>?_⟩<;>conv=>whnf
  ·simp at h'
  refine ⟨by simp only [G8];omega,?_⟩
  conv=>whnf
  exact At [] (k+1) Ad Ad ⟨rfl,trivial⟩ trivial trivial A5 trivial A5
 ·exact Ah A0 rfl rfl ⟨rfl,trivial⟩
theorem B4d (x:Aa):Aq Tryz.prog 67 [.agg x.c,.agg x.c] [.one (vb true)]:=by
 refine Aj A0 false Tryz.func67 rfl Bs fun W=>?_
 conv=>whnf
 refine ⟨fun h=>?_,fun _=>?_⟩<;>conv=>whnf
 ·simp at h
 refine ⟨fun h=>?_,fun _=>?_⟩<;>conv=>whnf
 ·simp at h
 refine ⟨fun h=>?_,fun _=>?_⟩<;>conv=>whnf
 ·simp at h
 refine ⟨fun h=>?_,fun _=>?_⟩<;>conv=>whnf
 ·simp at h
 exact Ah A0 rfl rfl ⟨rfl,trivial⟩
theorem Ro (xs:List Aa)(hx:xs.length≤16777216):Aq Tryz.prog 24 [.one (Ao xs),.one (Ao xs)] [.one (vb true)]:=by
 have hl:=hx
 refine Aj A0 false Tryz.func24 rfl Bs fun W=>?_
 conv=>whnf
 refine ⟨fun h=>?_,fun _=>?_⟩<;>conv=>whnf
 ·simp at h
 refine B6 A0 false [] (fun k:Nat=>[(5,.c (vi k))]) (fun _=>[]) (fun _=>[])
  (fun k=>k≤xs.length) (fun k=>xs.length-k) 0 (Nat.zero_le _) ⟨rfl,trivial⟩ trivial trivial trivial A5 (fun k hk=>?_)
 conv=>whnf
 refine ⟨fun h=>?_,fun h=>?_⟩<;>simp at h<;>conv=>whnf
 ·refine Ks rfl [0,1,2,3,4,5,6,7,8,9] A5 (Ae ?_)
  refine ⟨by omega,?_⟩
  conv=>whnf
  refine ⟨by omega,?_⟩
  conv=>whnf
  refine Ai (B4d (xs.getD k default)) rfl (Ae ?_)
  refine ⟨fun h'=>?_,fun _=>?_⟩<;>conv=>whnf
  ·simp at h'
  refine ⟨by simp only [G8];omega,?_⟩
  conv=>whnf
  exact At [] (k+1) Ad Ad ⟨rfl,trivial⟩ trivial trivial A5 trivial A5
 ·exact Ah A0 rfl rfl ⟨rfl,trivial⟩
theorem Oy (xs:List Bool)(hx:xs.length≤16777216):Aq Tryz.prog 11 [.one (Cx xs),.one (Cx xs)] [.one (vb true)]:=by
 have hl:=hx
 refine Aj A0 false Tryz.func11 rfl Bs fun W=>?_
 conv=>whnf
 refine ⟨fun h=>?_,fun _=>?_⟩<;>conv=>whnf
 ·simp at h
 refine B6 A0 false [] (fun k:Nat=>[(5,.c (vi k))]) (fun _=>[]) (fun _=>[])
  (fun k=>k≤xs.length) (fun k=>xs.length-k) 0 (Nat.zero_le _) ⟨rfl,trivial⟩ trivial trivial trivial A5 (fun k hk=>?_)
 conv=>whnf
 refine ⟨fun h=>?_,fun h=>?_⟩<;>simp at h<;>conv=>whnf
 ·refine Ks rfl [0,1,2,3,4,5,6,7,8] A5 (Ae ?_)
  refine ⟨by omega,?_⟩
  conv=>whnf
  refine ⟨by omega,?_⟩
  conv=>whnf
  refine ⟨fun h'=>?_,fun _=>?_⟩<;>conv=>whnf
  ·simp at h'
  refine ⟨by simp only [G8];omega,?_⟩
  conv=>whnf
  exact At [] (k+1) Ad Ad ⟨rfl,trivial⟩ trivial trivial A5 trivial A5
 ·exact Ah A0 rfl rfl ⟨rfl,trivial⟩
theorem B4e (x:Bp):Aq Tryz.prog 215 [.agg x.c,.agg x.c] [.one (vb true)]:=by
 refine Aj A0 false Tryz.func215 rfl Bs fun W=>?_
 conv=>whnf
 refine ⟨fun h=>?_,fun _=>?_⟩<;>conv=>whnf
 ·simp at h
 refine ⟨fun h=>?_,fun _=>?_⟩<;>conv=>whnf
 ·simp at h
 exact Ah A0 rfl rfl ⟨rfl,trivial⟩
theorem B1n (xs:List Bp)(hx:xs.length≤16777216):Aq Tryz.prog 165 [.one (Er xs),.one (Er xs)] [.one (vb true)]:=by
 have hl:=hx
 refine Aj A0 false Tryz.func165 rfl Bs fun W=>?_
 conv=>whnf
 refine ⟨fun h=>?_,fun _=>?_⟩<;>conv=>whnf
 ·simp at h
 refine B6 A0 false [] (fun k:Nat=>[(5,.c (vi k))]) (fun _=>[]) (fun _=>[])
  (fun k=>k≤xs.length) (fun k=>xs.length-k) 0 (Nat.zero_le _) ⟨rfl,trivial⟩ trivial trivial trivial A5 (fun k hk=>?_)
 conv=>whnf
 refine ⟨fun h=>?_,fun h=>?_⟩<;>simp at h<;>conv=>whnf
 ·refine Ks rfl [0,1,2,3,4,5,6,7,8,9] A5 (Ae ?_)
  refine ⟨by omega,?_⟩
  conv=>whnf
  refine ⟨by omega,?_⟩
  conv=>whnf
  refine Ai (B4e (xs.getD k default)) rfl (Ae ?_)
  refine ⟨fun h'=>?_,fun _=>?_⟩<;>conv=>whnf
  ·simp at h'
  refine ⟨by simp only [G8];omega,?_⟩
  conv=>whnf
  exact At [] (k+1) Ad Ad ⟨rfl,trivial⟩ trivial trivial A5 trivial A5
 ·exact Ah A0 rfl rfl ⟨rfl,trivial⟩
theorem A84 (x:A6)(h:x.w≤16777216):Aq Tryz.prog 108 [.agg x.c,.agg x.c] [.one (vb true)]:=by
 refine Aj A0 false Tryz.func108 rfl Bs fun W=>?_
 conv=>whnf
 refine Ai (Nf x.queue Y7) rfl (Ae ?_)
 refine ⟨fun h=>?_,fun _=>?_⟩<;>conv=>whnf
 ·simp at h
 refine Ai (Nf x.staged Y7) rfl (Ae ?_)
 refine ⟨fun h=>?_,fun _=>?_⟩<;>conv=>whnf
 ·simp at h
 refine Ai (Nf x.inputs Y7) rfl (Ae ?_)
 refine ⟨fun h=>?_,fun _=>?_⟩<;>conv=>whnf
 ·simp at h
 refine Ai (Ro x.cells Y7) rfl (Ae ?_)
 refine ⟨fun h=>?_,fun _=>?_⟩<;>conv=>whnf
 ·simp at h
 refine Ai (A7e x.sums Y7) rfl (Ae ?_)
 refine ⟨fun h=>?_,fun _=>?_⟩<;>conv=>whnf
 ·simp at h
 refine Ai (Oy x.black Y7) rfl (Ae ?_)
 refine ⟨fun h=>?_,fun _=>?_⟩<;>conv=>whnf
 ·simp at h
 refine Ai (Oy x.caps Y7) rfl (Ae ?_)
 refine ⟨fun h=>?_,fun _=>?_⟩<;>conv=>whnf
 ·simp at h
 refine Ai (B1n x.dones Y7) rfl (Ae ?_)
 refine ⟨fun h=>?_,fun _=>?_⟩<;>conv=>whnf
 ·simp at h
 exact Ah A0 rfl rfl ⟨rfl,trivial⟩
theorem A5b (xs:List A6)(hx:wS A6.w xs≤16777216):Aq Tryz.prog 43 [.one (Ap xs),.one (Ap xs)] [.one (vb true)]:=by
 have hl:xs.length≤16777216:=by simp only [wS] at hx;omega
 refine Aj A0 false Tryz.func43 rfl Bs fun W=>?_
 conv=>whnf
 refine ⟨fun h=>?_,fun _=>?_⟩<;>conv=>whnf
 ·simp at h
 refine B6 A0 false [] (fun k:Nat=>[(5,.c (vi k))]) (fun _=>[]) (fun _=>[])
  (fun k=>k≤xs.length) (fun k=>xs.length-k) 0 (Nat.zero_le _) ⟨rfl,trivial⟩ trivial trivial trivial A5 (fun k hk=>?_)
 conv=>whnf
 refine ⟨fun h=>?_,fun h=>?_⟩<;>simp at h<;>conv=>whnf
 ·refine Ks rfl [0,1,2,3,4,5,6,7,8,9] A5 (Ae ?_)
  refine ⟨by omega,?_⟩
  conv=>whnf
  refine ⟨by omega,?_⟩
  conv=>whnf
  refine Ai (A84 (xs.getD k default) (by have:=Bz A6.w xs k h;simp only [wS] at hx;omega)) rfl (Ae ?_)
  refine ⟨fun h'=>?_,fun _=>?_⟩<;>conv=>whnf
  ·simp at h'
  refine ⟨by simp only [G8];omega,?_⟩
  conv=>whnf
  exact At [] (k+1) Ad Ad ⟨rfl,trivial⟩ trivial trivial A5 trivial A5
 ·exact Ah A0 rfl rfl ⟨rfl,trivial⟩
theorem B4f (x:As)(h:x.w≤16777216):Aq Tryz.prog 109 [.agg x.c,.agg x.c] [.one (vb true)]:=by
 refine Aj A0 false Tryz.func109 rfl Bs fun W=>?_
 conv=>whnf
 refine ⟨fun h=>?_,fun _=>?_⟩<;>conv=>whnf
 ·simp at h
 refine Ai (Nf x.queue (by simp only [As.w] at h;omega)) rfl (Ae ?_)
 refine ⟨fun h=>?_,fun _=>?_⟩<;>conv=>whnf
 ·simp at h
 refine ⟨fun h=>?_,fun _=>?_⟩<;>conv=>whnf
 ·simp at h
 refine ⟨fun h=>?_,fun _=>?_⟩<;>conv=>whnf
 ·simp at h
 refine ⟨fun h=>?_,fun _=>?_⟩<;>conv=>whnf
 ·simp at h
 refine ⟨fun h=>?_,fun _=>?_⟩<;>conv=>whnf
 ·simp at h
 exact Ah A0 rfl rfl ⟨rfl,trivial⟩
theorem B1q (xs:List As)(hx:wS As.w xs≤16777216):Aq Tryz.prog 44 [.one (Bu xs),.one (Bu xs)] [.one (vb true)]:=by
 have hl:xs.length≤16777216:=by simp only [wS] at hx;omega
 refine Aj A0 false Tryz.func44 rfl Bs fun W=>?_
 conv=>whnf
 refine ⟨fun h=>?_,fun _=>?_⟩<;>conv=>whnf
 ·simp at h
 refine B6 A0 false [] (fun k:Nat=>[(5,.c (vi k))]) (fun _=>[]) (fun _=>[])
  (fun k=>k≤xs.length) (fun k=>xs.length-k) 0 (Nat.zero_le _) ⟨rfl,trivial⟩ trivial trivial trivial A5 (fun k hk=>?_)
 conv=>whnf
 refine ⟨fun h=>?_,fun h=>?_⟩<;>simp at h<;>conv=>whnf
 ·refine Ks rfl [0,1,2,3,4,5,6,7,8,9] A5 (Ae ?_)
  refine ⟨by omega,?_⟩
  conv=>whnf
  refine ⟨by omega,?_⟩
  conv=>whnf
  refine Ai (B4f (xs.getD k default) (by have:=Bz As.w xs k h;simp only [wS] at hx;omega)) rfl (Ae ?_)
  refine ⟨fun h'=>?_,fun _=>?_⟩<;>conv=>whnf
  ·simp at h'
  refine ⟨by simp only [G8];omega,?_⟩
  conv=>whnf
  exact At [] (k+1) Ad Ad ⟨rfl,trivial⟩ trivial trivial A5 trivial A5
 ·exact Ah A0 rfl rfl ⟨rfl,trivial⟩
theorem B1w (x:Ay):Aq Tryz.prog 110 [.agg x.c,.agg x.c] [.one (vb true)]:=by
 refine Aj A0 false Tryz.func110 rfl Bs fun W=>?_
 conv=>whnf
 refine ⟨fun h=>?_,fun _=>?_⟩<;>conv=>whnf
 ·simp at h
 refine ⟨fun h=>?_,fun _=>?_⟩<;>conv=>whnf
 ·simp at h
 refine ⟨fun h=>?_,fun _=>?_⟩<;>conv=>whnf
 ·simp at h
 refine ⟨fun h=>?_,fun _=>?_⟩<;>conv=>whnf
 ·simp at h
 refine ⟨fun h=>?_,fun _=>?_⟩<;>conv=>whnf
 ·simp at h
 exact Ah A0 rfl rfl ⟨rfl,trivial⟩
theorem A82 (xs:List Ay)(hx:xs.length≤16777216):Aq Tryz.prog 45 [.one (Be xs),.one (Be xs)] [.one (vb true)]:=by
 have hl:=hx
 refine Aj A0 false Tryz.func45 rfl Bs fun W=>?_
 conv=>whnf
 refine ⟨fun h=>?_,fun _=>?_⟩<;>conv=>whnf
 ·simp at h
 refine B6 A0 false [] (fun k:Nat=>[(5,.c (vi k))]) (fun _=>[]) (fun _=>[])
  (fun k=>k≤xs.length) (fun k=>xs.length-k) 0 (Nat.zero_le _) ⟨rfl,trivial⟩ trivial trivial trivial A5 (fun k hk=>?_)
 conv=>whnf
 refine ⟨fun h=>?_,fun h=>?_⟩<;>simp at h<;>conv=>whnf
 ·refine Ks rfl [0,1,2,3,4,5,6,7,8,9] A5 (Ae ?_)
  refine ⟨by omega,?_⟩
  conv=>whnf
  refine ⟨by omega,?_⟩
  conv=>whnf
  refine Ai (B1w (xs.getD k default)) rfl (Ae ?_)
  refine ⟨fun h'=>?_,fun _=>?_⟩<;>conv=>whnf
  ·simp at h'
  refine ⟨by simp only [G8];omega,?_⟩
  conv=>whnf
  exact At [] (k+1) Ad Ad ⟨rfl,trivial⟩ trivial trivial A5 trivial A5
 ·exact Ah A0 rfl rfl ⟨rfl,trivial⟩
theorem B4g (x:B7):Aq Tryz.prog 111 [.agg x.c,.agg x.c] [.one (vb true)]:=by
 refine Aj A0 false Tryz.func111 rfl Bs fun W=>?_
 conv=>whnf
 refine ⟨fun h=>?_,fun _=>?_⟩<;>conv=>whnf
 ·simp at h
 refine ⟨fun h=>?_,fun _=>?_⟩<;>conv=>whnf
 ·simp at h
 refine ⟨fun h=>?_,fun _=>?_⟩<;>conv=>whnf
 ·simp at h
 exact Ah A0 rfl rfl ⟨rfl,trivial⟩
theorem B1r (xs:List B7)(hx:xs.length≤16777216):Aq Tryz.prog 46 [.one (C3 xs),.one (C3 xs)] [.one (vb true)]:=by
 have hl:=hx
 refine Aj A0 false Tryz.func46 rfl Bs fun W=>?_
 conv=>whnf
 refine ⟨fun h=>?_,fun _=>?_⟩<;>conv=>whnf
 ·simp at h
 refine B6 A0 false [] (fun k:Nat=>[(5,.c (vi k))]) (fun _=>[]) (fun _=>[])
  (fun k=>k≤xs.length) (fun k=>xs.length-k) 0 (Nat.zero_le _) ⟨rfl,trivial⟩ trivial trivial trivial A5 (fun k hk=>?_)
 conv=>whnf
 refine ⟨fun h=>?_,fun h=>?_⟩<;>simp at h<;>conv=>whnf
 ·refine Ks rfl [0,1,2,3,4,5,6,7,8,9] A5 (Ae ?_)
  refine ⟨by omega,?_⟩
  conv=>whnf
  refine ⟨by omega,?_⟩
  conv=>whnf
  refine Ai (B4g (xs.getD k default)) rfl (Ae ?_)
  refine ⟨fun h'=>?_,fun _=>?_⟩<;>conv=>whnf
  ·simp at h'
  refine ⟨by simp only [G8];omega,?_⟩
  conv=>whnf
  exact At [] (k+1) Ad Ad ⟨rfl,trivial⟩ trivial trivial A5 trivial A5
 ·exact Ah A0 rfl rfl ⟨rfl,trivial⟩
theorem Qz (x:A4)(h:x.w≤16777216):Aq Tryz.prog 10 [.agg x.c,.agg x.c] [.one (vb true)]:=by
 refine Aj A0 false Tryz.func10 rfl Bs fun W=>?_
 conv=>whnf
 refine Ai (B1o x.graph (by simp only [A4.w] at h;omega)) rfl (Ae ?_)
 refine ⟨fun h=>?_,fun _=>?_⟩<;>conv=>whnf
 ·simp at h
 refine Ai (A5b x.workers (by simp only [A4.w] at h;omega)) rfl (Ae ?_)
 refine ⟨fun h=>?_,fun _=>?_⟩<;>conv=>whnf
 ·simp at h
 refine Ai (B1q x.links (by simp only [A4.w] at h;omega)) rfl (Ae ?_)
 refine ⟨fun h=>?_,fun _=>?_⟩<;>conv=>whnf
 ·simp at h
 refine Ai (A82 x.tokens (by simp only [A4.w] at h;omega)) rfl (Ae ?_)
 refine ⟨fun h=>?_,fun _=>?_⟩<;>conv=>whnf
 ·simp at h
 refine Ai (B1r x.news (by simp only [A4.w] at h;omega)) rfl (Ae ?_)
 refine ⟨fun h=>?_,fun _=>?_⟩<;>conv=>whnf
 ·simp at h
 exact Ah A0 rfl rfl ⟨rfl,trivial⟩
end Go.Proofs.YtlbmkgkmbjadcaaGreat
