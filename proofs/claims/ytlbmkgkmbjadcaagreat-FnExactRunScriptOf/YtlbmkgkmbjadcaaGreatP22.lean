/- Part 22 of the proof that each of the laws FnExactRunScriptOf, FnExactSpreadResult returns true for every input. No conditions. -/
import Derived.Test.YtlbmkgkmbjadcaaGreatP21
import Derived.Test.YtlbmkgkmbjadcaaGreatP14
import Derived.Test.YtlbmkgkmbjadcaaGreatP9
import Derived.Test.YtlbmkgkmbjadcaaGreatP5
import Derived.Test.YtlbmkgkmbjadcaaGreatP19

set_option linter.unusedSimpArgs false
set_option linter.unusedVariables false
set_option maxRecDepth 100000
namespace Go.Proofs.YtlbmkgkmbjadcaaGreat
open Go.Sx
theorem Mg {l:As}{r:A3}(h:¬ A2e l r):D6 l r=(l,false):=if_neg h
theorem A39 {l:As}{r:A3}(h:A2e l r):D6 l r=(⟨l.cap,l.queue++[r],l.credits-1,l.back,l.sent+1,l.got⟩,true):=if_pos h
theorem Q5 {l:As}(h:¬ (Gd l∧0<l.queue.length)):C6 l=(l,default,false):=if_neg h
theorem Sk {l:As}(h:Gd l∧0<l.queue.length):C6 l=(⟨l.cap,l.queue.drop 1,l.credits,l.back+1,l.sent,l.got+1⟩,l.queue.getD 0 default,true):=if_pos h
theorem Uw {l:As}(h:¬ (Gd l∧l.back≠0)):Dw l=(l,false):=if_neg h
theorem A2n {l:As}(h:Gd l∧l.back≠0):Dw l=(⟨l.cap,l.queue,l.credits+1,l.back-1,l.sent,l.got⟩,true):=if_pos h
set_option maxHeartbeats 1000000 in
theorem Xw (l:As)(r:A3)(hl:l.w≤16777216):Aq Tryz.prog 195 [.agg l.c,.agg r.c] [.agg (D6 l r).1.c,.one (vb (D6 l r).2)]:=by
 have hq:l.queue.length≤16777216:=hl
 refine Aj A0 false Tryz.func195 rfl Bs fun W=>?_
 conv=>whnf
 refine Av (L3 l Ad) rfl (Ae ?_)
 refine Ai (O4 l Ad) rfl (Ae ?_)
 refine ⟨fun h1=>?_,fun h1=>?_⟩<;>conv=>whnf
 ·have h1:He l=false:=by simpa using h1
  repeat refine B9 ?_
  rw [Mg (fun p=>absurd p.1 (of_decide_eq_false h1))]
  refine Ah A0 rfl rfl ?_
  exact C1
 have h1:Gd l:=of_decide_eq_true (show He l=true by simpa using h1)
 obtain ⟨⟨n1,n2,n3,n4,n5,n6,n7⟩,nA⟩:=id h1
 repeat refine B9 ?_
 refine Ai (Hy r) rfl (Ae ?_)
 repeat refine B9 ?_
 refine ⟨fun h2=>?_,fun h2=>?_⟩<;>conv=>whnf
 ·have h2:F8 r=false:=by simpa using h2
  repeat refine B9 ?_
  rw [Mg (fun p=>absurd p.2.1 (of_decide_eq_false h2))]
  refine Ah A0 rfl rfl ?_
  exact C1
 have h2:Gx r:=of_decide_eq_true (show F8 r=true by simpa using h2)
 repeat refine B9 ?_
 refine ⟨fun h3=>have h3:=eq_of_beq h3;?_,fun h3=>have h3:=beq_eq_false_iff_ne.1 h3;?_⟩<;>conv=>whnf
 ·repeat refine B9 ?_
  rw [Mg (fun p=>p.2.2.1 h3)]
  refine Ah A0 rfl rfl ?_
  exact C1
 repeat refine B9 ?_
 refine ⟨fun h4=>?_,fun h4=>?_⟩<;>conv=>whnf
 ·have h4:l.sent=1000000000:=by (have:=of_decide_eq_true h4;omega)
  repeat refine B9 ?_
  rw [Mg (fun p=>p.2.2.2 h4)]
  refine Ah A0 rfl rfl ?_
  exact C1
 have h4:l.sent≠1000000000:=by (have:=of_decide_eq_false h4;omega)
 repeat refine B9 ?_
 refine Bm A0 rfl rfl rfl rfl rfl rfl rfl rfl rfl rfl rfl (A9 (l.queue++[r])) (Bh rfl) Ef Ad (Ae ?_)
 (repeat refine An ?_)
 rw [A39 ⟨h1,h2,h3,h4⟩]
 refine Ah A0 rfl rfl ?_
 exact C1
set_option maxHeartbeats 1000000 in
theorem Wp (l:As)(r:A3)(hl:l.w≤16777216)(og2:l.got≤9223372036854775807):Aq Tryz.prog 206 [.agg l.c,.agg r.c] [.agg (D6 l r).1.c,.one (vb (D6 l r).2)]:=by
 have hq:l.queue.length≤16777216:=hl
 refine Aj A0 false Tryz.func206 rfl Bs fun W=>?_
 conv=>whnf
 refine Av (Ky l Ad) rfl (Ae ?_)
 refine Ai (Nr l Ad og2) rfl (Ae ?_)
 refine ⟨fun h1=>?_,fun h1=>?_⟩<;>conv=>whnf
 ·have h1:He l=false:=by simpa using h1
  repeat refine B9 ?_
  rw [Mg (fun p=>absurd p.1 (of_decide_eq_false h1))]
  refine Ah A0 rfl rfl ?_
  exact C1
 have h1:Gd l:=of_decide_eq_true (show He l=true by simpa using h1)
 obtain ⟨⟨n1,n2,n3,n4,n5,n6,n7⟩,nA⟩:=id h1
 repeat refine B9 ?_
 refine Ai (Ht r) rfl (Ae ?_)
 repeat refine B9 ?_
 refine ⟨fun h2=>?_,fun h2=>?_⟩<;>conv=>whnf
 ·have h2:F8 r=false:=by simpa using h2
  repeat refine B9 ?_
  rw [Mg (fun p=>absurd p.2.1 (of_decide_eq_false h2))]
  refine Ah A0 rfl rfl ?_
  exact C1
 have h2:Gx r:=of_decide_eq_true (show F8 r=true by simpa using h2)
 repeat refine B9 ?_
 refine ⟨fun h3=>have h3:=eq_of_beq h3;?_,fun h3=>have h3:=beq_eq_false_iff_ne.1 h3;?_⟩<;>conv=>whnf
 ·repeat refine B9 ?_
  rw [Mg (fun p=>p.2.2.1 h3)]
  refine Ah A0 rfl rfl ?_
  exact C1
 repeat refine B9 ?_
 refine ⟨fun h4=>?_,fun h4=>?_⟩<;>conv=>whnf
 ·have h4:l.sent=1000000000:=eq_of_beq h4
  repeat refine B9 ?_
  rw [Mg (fun p=>p.2.2.2 h4)]
  refine Ah A0 rfl rfl ?_
  exact C1
 have h4:l.sent≠1000000000:=beq_eq_false_iff_ne.1 h4
 repeat refine B9 ?_
 refine Bm A0 rfl rfl rfl rfl rfl rfl rfl rfl rfl rfl rfl (A9 (l.queue++[r])) (Bh rfl) Ef Ad (Ae ?_)
 (repeat refine An ?_)
 rw [A39 ⟨h1,h2,h3,h4⟩]
 refine Ah A0 rfl rfl ?_
 exact C1
set_option maxHeartbeats 1000000 in
theorem A1x (l:As)(hl:l.w≤16777216):Aq Tryz.prog 197 [.agg l.c] [.agg (C6 l).1.c,.agg (C6 l).2.1.c,.one (vb (C6 l).2.2)]:=by
 have hq:l.queue.length≤16777216:=hl
 refine Aj A0 false Tryz.func197 rfl Bs fun W=>?_
 conv=>whnf
 refine Av (L3 l Ad) rfl (Ae ?_)
 refine Ai (O4 l Ad) rfl (Ae ?_)
 refine ⟨fun h1=>?_,fun h1=>?_⟩<;>conv=>whnf
 ·have h1:He l=false:=by simpa using h1
  repeat refine B9 ?_
  rw [Q5 (fun p=>absurd p.1 (of_decide_eq_false h1))]
  refine Ah A0 rfl rfl ?_
  exact C1
 have h1:Gd l:=of_decide_eq_true (show He l=true by simpa using h1)
 obtain ⟨⟨n1,n2,n3,n4,n5,n6,n7⟩,nA⟩:=id h1
 repeat refine B9 ?_
 refine ⟨fun h2=>have h2:=eq_of_beq h2;?_,fun h2=>have h2:=beq_eq_false_iff_ne.1 h2;?_⟩<;>conv=>whnf
 ·repeat refine B9 ?_
  rw [Q5 (fun p=>by omega)]
  refine Ah A0 rfl rfl ?_
  exact C1
 have h2:0<l.queue.length:=by omega
 repeat refine B9 ?_
 (repeat refine An ?_)
 refine A11 A0 rfl rfl rfl rfl rfl rfl rfl rfl (l:=1) rfl rfl (⟨by omega,by omega,by omega⟩) (A9 (l.queue.drop 1)) (G9 (k:=1) h2) (Ae ?_)
 refine Bm A0 rfl rfl rfl rfl rfl rfl rfl rfl rfl rfl rfl (A9 (l.queue.drop 1)) (B1) (fun _=>Ba _) (by (rw [List.length_drop];omega)) (Ae ?_)
 (repeat refine An ?_)
 refine Gl rfl ?_
 refine Cj (s':=?_) 0 rfl A5 ?_ ?_
 rotate_left
 refine go A0 false ?_
 conv=>whnf
 (repeat refine An ?_)
 exact Ax
 refine Cl [1,2] A5 ⟨?_,?_,trivial⟩
 focus
  refine go A0 false ?_
  conv=>whnf
  (repeat refine An ?_)
  refine Cw ?_
  refine Cl [2] A5 ⟨?_,trivial⟩
  refine go A0 false ?_
  conv=>whnf
  (repeat refine An ?_)
  refine Cw ?_
  refine Cl [3] A5 ⟨?_,trivial⟩
  refine go A0 false ?_
  conv=>whnf
  (repeat refine An ?_)
  refine Cw ?_
  refine Bk A0 false 4 rfl rfl A5 rfl (Af D7) ?_
  refine Hh A5 (Ae ?_)
 rotate_left 1
 focus
  refine go A0 false ?_
  conv=>whnf
  (repeat refine An ?_)
  refine Cw ?_
  refine Cj (s':=?_) 1 rfl A5 ?_ ?_
  rotate_left
  refine go A0 false ?_
  conv=>whnf
  (repeat refine An ?_)
  exact Ax
  refine Cl [3] A5 ⟨?_,trivial⟩
  refine go A0 false ?_
  conv=>whnf
  (repeat refine An ?_)
  refine Cw ?_
  refine Bk A0 false 4 rfl rfl A5 rfl (Af D7) ?_
  refine Hh A5 (Ae ?_)
 all_goals
  rw [Sk ⟨h1,h2⟩]
  refine Ah A0 rfl rfl ?_
  exact C1
set_option maxHeartbeats 1000000 in
theorem A02 (l:As)(hl:l.w≤16777216)(og2:l.got≤9223372036854775807):Aq Tryz.prog 209 [.agg l.c] [.agg (C6 l).1.c,.agg (C6 l).2.1.c,.one (vb (C6 l).2.2)]:=by
 have hq:l.queue.length≤16777216:=hl
 refine Aj A0 false Tryz.func209 rfl Bs fun W=>?_
 conv=>whnf
 refine Av (Ky l Ad) rfl (Ae ?_)
 refine Ai (Nr l Ad og2) rfl (Ae ?_)
 refine ⟨fun h1=>?_,fun h1=>?_⟩<;>conv=>whnf
 ·have h1:He l=false:=by simpa using h1
  repeat refine B9 ?_
  rw [Q5 (fun p=>absurd p.1 (of_decide_eq_false h1))]
  refine Ah A0 rfl rfl ?_
  exact C1
 have h1:Gd l:=of_decide_eq_true (show He l=true by simpa using h1)
 obtain ⟨⟨n1,n2,n3,n4,n5,n6,n7⟩,nA⟩:=id h1
 repeat refine B9 ?_
 refine ⟨fun h2=>have h2:=eq_of_beq h2;?_,fun h2=>have h2:=beq_eq_false_iff_ne.1 h2;?_⟩<;>conv=>whnf
 ·repeat refine B9 ?_
  rw [Q5 (fun p=>by omega)]
  refine Ah A0 rfl rfl ?_
  exact C1
 have h2:0<l.queue.length:=by omega
 repeat refine B9 ?_
 (repeat refine An ?_)
 refine A11 A0 rfl rfl rfl rfl rfl rfl rfl rfl (l:=1) rfl rfl (⟨by omega,by omega,by omega⟩) (A9 (l.queue.drop 1)) (G9 (k:=1) h2) (Ae ?_)
 (repeat refine An ?_)
 refine Gl rfl ?_
 refine Bk A0 false 1 rfl rfl A5 rfl (Af D7) ?_
 refine Cj (s':=?_) 0 rfl A5 ?_ ?_
 rotate_left
 refine go A0 false ?_
 conv=>whnf
 (repeat refine An ?_)
 exact Ax
 refine Cl [2,5] A5 ⟨?_,?_,trivial⟩
 focus
  refine go A0 false ?_
  conv=>whnf
  (repeat refine An ?_)
  refine Cw ?_
  refine Cl [3,5] A5 ⟨?_,?_,trivial⟩
  focus
   refine go A0 false ?_
   conv=>whnf
   (repeat refine An ?_)
   refine Cw ?_
   refine Cl [4,5] A5 ⟨?_,?_,trivial⟩
   focus
    refine go A0 false ?_
    conv=>whnf
    (repeat refine An ?_)
    refine Cw ?_
    refine Cl [5] A5 ⟨?_,trivial⟩
    refine go A0 false ?_
    conv=>whnf
    (repeat refine An ?_)
    refine Cw ?_
    refine Cl [6] A5 ⟨?_,trivial⟩
    refine go A0 false ?_
    conv=>whnf
    (repeat refine An ?_)
    refine Cw ?_
    refine Bk A0 false 7 rfl rfl A5 rfl (Af D7) ?_
    refine Hh A5 (Ae ?_)
   rotate_left 1
   focus
    refine go A0 false ?_
    conv=>whnf
    (repeat refine An ?_)
    refine Cw ?_
    refine Cj (s':=?_) 4 rfl A5 ?_ ?_
    rotate_left
    refine go A0 false ?_
    conv=>whnf
    (repeat refine An ?_)
    exact Ax
    refine Cl [6] A5 ⟨?_,trivial⟩
    refine go A0 false ?_
    conv=>whnf
    (repeat refine An ?_)
    refine Cw ?_
    refine Bk A0 false 7 rfl rfl A5 rfl (Af D7) ?_
    refine Hh A5 (Ae ?_)
  rotate_left 2
  focus
   refine go A0 false ?_
   conv=>whnf
   (repeat refine An ?_)
   refine Cw ?_
   refine Cj (s':=?_) 3 rfl A5 ?_ ?_
   rotate_left
   refine go A0 false ?_
   conv=>whnf
   (repeat refine An ?_)
   exact Ax
   refine Cj (s':=?_) 4 rfl A5 ?_ ?_
   rotate_left
   refine go A0 false ?_
   conv=>whnf
   (repeat refine An ?_)
   exact Ax
   refine Cl [6] A5 ⟨?_,trivial⟩
   refine go A0 false ?_
   conv=>whnf
   (repeat refine An ?_)
   refine Cw ?_
   refine Bk A0 false 7 rfl rfl A5 rfl (Af D7) ?_
   refine Hh A5 (Ae ?_)
 rotate_left 3
 focus
  refine go A0 false ?_
  conv=>whnf
  (repeat refine An ?_)
  refine Cw ?_
  refine Cj (s':=?_) 2 rfl A5 ?_ ?_
  rotate_left
  refine go A0 false ?_
  conv=>whnf
  (repeat refine An ?_)
  exact Ax
  refine Cj (s':=?_) 3 rfl A5 ?_ ?_
  rotate_left
  refine go A0 false ?_
  conv=>whnf
  (repeat refine An ?_)
  exact Ax
  refine Cj (s':=?_) 4 rfl A5 ?_ ?_
  rotate_left
  refine go A0 false ?_
  conv=>whnf
  (repeat refine An ?_)
  exact Ax
  refine Cl [6] A5 ⟨?_,trivial⟩
  refine go A0 false ?_
  conv=>whnf
  (repeat refine An ?_)
  refine Cw ?_
  refine Bk A0 false 7 rfl rfl A5 rfl (Af D7) ?_
  refine Hh A5 (Ae ?_)
 all_goals
  rw [Sk ⟨h1,h2⟩]
  refine Ah A0 rfl rfl ?_
  exact C1
theorem Xq (l:As)(hl:l.w≤16777216):Aq Tryz.prog 198 [.agg l.c] [.agg (Dw l).1.c,.one (vb (Dw l).2)]:=by
 refine Aj A0 false Tryz.func198 rfl Bs fun W=>?_
 conv=>whnf
 refine Av (L3 l Ad) rfl (Ae ?_)
 refine Ai (O4 l Ad) rfl (Ae ?_)
 refine ⟨fun h1=>?_,fun h1=>?_⟩<;>conv=>whnf
 ·have h1:He l=false:=by simpa using h1
  repeat refine B9 ?_
  rw [Uw (fun p=>absurd p.1 (of_decide_eq_false h1))]
  refine Ah A0 rfl rfl ?_
  exact C1
 have h1:Gd l:=of_decide_eq_true (show He l=true by simpa using h1)
 obtain ⟨⟨n1,n2,n3,n4,n5,n6,n7⟩,nA⟩:=id h1
 repeat refine B9 ?_
 refine ⟨fun h2=>have h2:=eq_of_beq h2;?_,fun h2=>have h2:=beq_eq_false_iff_ne.1 h2;?_⟩<;>conv=>whnf
 ·repeat refine B9 ?_
  rw [Uw (fun p=>p.2 h2)]
  refine Ah A0 rfl rfl ?_
  exact C1
 repeat refine B9 ?_
 (repeat refine An ?_)
 rw [A2n ⟨h1,h2⟩]
 refine Ah A0 rfl rfl ?_
 exact C1
theorem We (l:As)(hl:l.w≤16777216)(og2:l.got≤9223372036854775807):Aq Tryz.prog 211 [.agg l.c] [.agg (Dw l).1.c,.one (vb (Dw l).2)]:=by
 refine Aj A0 false Tryz.func211 rfl Bs fun W=>?_
 conv=>whnf
 refine Av (Ky l Ad) rfl (Ae ?_)
 refine Ai (Nr l Ad og2) rfl (Ae ?_)
 refine ⟨fun h1=>?_,fun h1=>?_⟩<;>conv=>whnf
 ·have h1:He l=false:=by simpa using h1
  repeat refine B9 ?_
  rw [Uw (fun p=>absurd p.1 (of_decide_eq_false h1))]
  refine Ah A0 rfl rfl ?_
  exact C1
 have h1:Gd l:=of_decide_eq_true (show He l=true by simpa using h1)
 obtain ⟨⟨n1,n2,n3,n4,n5,n6,n7⟩,nA⟩:=id h1
 repeat refine B9 ?_
 refine ⟨fun h2=>have h2:=eq_of_beq h2;?_,fun h2=>have h2:=beq_eq_false_iff_ne.1 h2;?_⟩<;>conv=>whnf
 ·repeat refine B9 ?_
  rw [Uw (fun p=>p.2 h2)]
  refine Ah A0 rfl rfl ?_
  exact C1
 repeat refine B9 ?_
 (repeat refine An ?_)
 rw [A2n ⟨h1,h2⟩]
 refine Ah A0 rfl rfl ?_
 exact C1
theorem Gw {α:Type} [Inhabited α] {l:List α}{k:Nat}(hk:k<l.length):l.take (k+1)=l.take k++[l.getD k default]:=by
 rw [List.take_succ_eq_append_getElem hk]
 simp [List.getD,hk]
theorem Nv {l:List Aa}{k:Nat}(hk:k<l.length)(op e key:Int):Hu (l.take (k+1)) op e key=T6 op e key (Hu (l.take k) op e key) (l.getD k default):=by
 unfold Hu
 rw [Gw hk,List.foldl_append]
 rfl
set_option maxHeartbeats 1000000 in
theorem Uj (l:List Aa)(op e key:Int)(hl:l.length≤16000000):Aq Tryz.prog 246 [.one (Ao l),.one (vi op),.one (vi e),.one (vi key)] [.one (vi (Hu l op e key).1),.one (vb (Hu l op e key).2)]:=by
 refine Aj A0 false Tryz.func246 rfl Bs fun W=>?_
 conv=>whnf
 refine B6 A0 false [] (fun k:Nat=>[(12,.c (vi k)),(10,.c (vi (Hu (l.take k) op e key).1)),(11,.c (vb (Hu (l.take k) op e key).2))]) (fun k=>[]) (fun k=>[])
  (fun k=>k≤l.length) (fun k=>l.length-k) 0 (Nat.zero_le _) ⟨by first|rfl|simp [Cr,ren2,ren1,ren0],by first|rfl|simp [Cr,ren2,ren1,ren0],by first|rfl|simp [Cr,ren2,ren1,ren0],trivial⟩ trivial trivial Cc A5 (fun k hk=>?_)
 conv=>whnf
 refine F2 (fun h0=>?_) fun h0=>?_<;>conv=>whnf
 ·have h0:k<l.length:=by omega
  (repeat refine An ?_)
  repeat' (first|(refine Ki ?_;conv=>whnf)|(refine Kj ?_;conv=>whnf)|(refine ⟨fun h=>?_,fun h=>?_⟩<;>conv=>whnf)|(refine Jn ?_;conv=>whnf)|fail)
  all_goals
   refine At [] (k+1) Ad Ad ⟨rfl,congrArg (fun n=>AV.c (vi n)) (by rw [Nv h0];simp_all [T6]<;>rw [if_neg Ad]<;>assumption),congrArg (fun n=>AV.c (vb n)) (by rw [Nv h0];simp_all [T6]<;>rw [if_neg Ad]<;>assumption),trivial⟩ trivial trivial A5 Cc A5
 ·refine Ah A0 rfl rfl ⟨?_,?_,trivial⟩
  ·rw [show l.take k=l from List.take_of_length_le Ad];rfl
  ·rw [show l.take k=l from List.take_of_length_le Ad];rfl
theorem Ry (a b:Aa):Aq Tryz.prog 262 [.agg a.c,.agg b.c] [.one (vb (Bn a b))]:=by
 refine Aj A0 false Tryz.func262 rfl Bs fun W=>?_
 conv=>whnf
 repeat' (first|(refine Ki ?_;conv=>whnf)|(refine Kj ?_;conv=>whnf)|(refine ⟨fun h=>?_,fun h=>?_⟩<;>conv=>whnf)|(refine Ah A0 rfl rfl ⟨?_,trivial⟩;conv=>whnf)|(refine Jn ?_;conv=>whnf)|fail)
 all_goals (refine congrArg vb ?_;simp_all [Bn]<;>rfl)
set_option maxHeartbeats 1000000 in
theorem A29 (l:List Aa)(op e key:Int)(hl:l.length≤16000000):Aq Tryz.prog 259 [.one (Ao l),.one (vi op),.one (vi e),.one (vi key)] [.one (vi (Hu l op e key).1),.one (vb (Hu l op e key).2)]:=by
 refine Aj A0 false Tryz.func259 rfl Bs fun W=>?_
 conv=>whnf
 refine B6 A0 false [] (fun k:Nat=>[(16,.c (vi k)),(10,.c (vi (Hu (l.take k) op e key).1)),(11,.c (vb (Hu (l.take k) op e key).2))]) (fun k=>[]) (fun k=>[])
  (fun k=>k≤l.length) (fun k=>l.length-k) 0 (Nat.zero_le _) ⟨by first|rfl|simp [Cr,ren2,ren1,ren0],by first|rfl|simp [Cr,ren2,ren1,ren0],by first|rfl|simp [Cr,ren2,ren1,ren0],trivial⟩ trivial trivial Cc A5 (fun k hk=>?_)
 conv=>whnf
 refine F2 (fun h0=>?_) fun h0=>?_<;>conv=>whnf
 ·have h0:k<l.length:=by omega
  (repeat refine An ?_)
  refine Ai (Ry (l.getD k default) ⟨op,e,key,0⟩) rfl (Ae ?_)
  repeat' (first|(refine Ki ?_;conv=>whnf)|(refine Kj ?_;conv=>whnf)|(refine ⟨fun h=>?_,fun h=>?_⟩<;>conv=>whnf)|(refine Jn ?_;conv=>whnf)|fail)
  all_goals
   refine At [] (k+1) Ad Ad ⟨rfl,congrArg (fun n=>AV.c (vi n)) (by rw [Nv h0];simp_all [T6,Bn]<;>rw [if_neg Ad]<;>assumption),congrArg (fun n=>AV.c (vb n)) (by rw [Nv h0];simp_all [T6,Bn]<;>rw [if_neg Ad]<;>assumption),trivial⟩ trivial trivial A5 Cc A5
 ·refine Ah A0 rfl rfl ⟨?_,?_,trivial⟩
  ·rw [show l.take k=l from List.take_of_length_le Ad];rfl
  ·rw [show l.take k=l from List.take_of_length_le Ad];rfl
end Go.Proofs.YtlbmkgkmbjadcaaGreat
