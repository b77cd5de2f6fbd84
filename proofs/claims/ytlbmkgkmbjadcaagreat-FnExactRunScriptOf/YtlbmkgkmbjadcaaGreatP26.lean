/- Part 26 of the proof that each of the laws FnExactRunScriptOf, FnExactSpreadResult returns true for every input. No conditions. -/
import Derived.Test.YtlbmkgkmbjadcaaGreatP22
import Derived.Test.YtlbmkgkmbjadcaaGreatP11
import Derived.Test.YtlbmkgkmbjadcaaGreatP12
import Derived.Test.YtlbmkgkmbjadcaaGreatP25
import Derived.Test.YtlbmkgkmbjadcaaGreatP21
import Derived.Test.YtlbmkgkmbjadcaaGreatP5

set_option linter.unusedSimpArgs false
set_option linter.unusedVariables false
set_option maxRecDepth 100000
namespace Go.Proofs.YtlbmkgkmbjadcaaGreat
open Go.Sx
theorem K6 (x:A6):x.queue.length≤x.w∧x.staged.length≤x.w∧x.inputs.length≤x.w∧x.cells.length≤x.w∧x.sums.length≤x.w∧x.black.length≤x.w∧x.caps.length≤x.w:=by simp only [A6.w];omega
theorem A28 (x:A6)(r:A3)(h:x.w≤16000000):Aq Tryz.prog 204 [.agg x.c,.agg r.c] [.agg (kept x r).c]:=by
 have hw:=K6 x
 refine Aj A0 false Tryz.func204 rfl Bs fun W=>?_
 conv=>whnf
 refine Av (Gn x Ad) rfl (Ae ?_)
 refine Bm A0 rfl rfl rfl rfl rfl rfl rfl rfl rfl rfl rfl (A9 (x.queue++[r])) (Bh rfl) Ef Ad (Ae ?_)
 refine Ah A0 rfl rfl ?_
 exact C1
theorem A4b {w:A6}{e:Int}(h:¬ (0≤e∧e<w.sums.length)):Hn w e=w:=if_neg h
theorem Sg {w:A6}{e:Int}(h:0≤e∧e<w.sums.length):Hn w e=Gj w e 1:=if_pos h
theorem A00 (x:A6)(e:Int)(h:x.w≤16000000)(hS:Ve x.sums):Aq Tryz.prog 207 [.agg x.c,.one (vi e)] [.agg (Hn x e).c]:=by
 have hw:=K6 x
 refine Aj A0 false Tryz.func207 rfl Bs fun W=>?_
 conv=>whnf
 refine Av (Gn x Ad) rfl (Ae ?_)
 (repeat refine An ?_)
 refine Ai (Hj e 0 (x.sums.length-1)) rfl (Ae ?_)
 refine ⟨fun h1=>?_,fun h1=>?_⟩<;>conv=>whnf
 ·have hb:=Go.Sx.Am.1 h1
  have hk:e.toNat<x.sums.length:=by omega
  have hs:Hc (x.sums.getD e.toNat default):=hS _ (B2 hk)
  obtain ⟨s1,s2⟩:=hs
  repeat refine B9 ?_
  (repeat refine An ?_)
  refine Bj (j:=e) A0 rfl rfl rfl rfl rfl rfl rfl rfl (Eu (x.sums.set e.toNat (x.sums.getD e.toNat default+1))) (Cz hk rfl) (Ae ?_)
  rw [Sg ⟨by omega,by omega⟩]
  refine Ah A0 rfl rfl ?_
  exact C1
 ·have hb:=Go.Sx.Aw.1 h1
  repeat refine B9 ?_
  rw [A4b (fun p=>hb ⟨by omega,by omega⟩)]
  refine Ah A0 rfl rfl ?_
  exact C1
theorem Uc {w:A6}{r:A3}(h1:w.sums.length=4)(h2:w.black.length=4)(he:0≤r.stamp.epoch∧r.stamp.epoch≤3):H9 w r=Lf (Gj (kept w r) r.stamp.epoch (-1)) r.stamp.epoch:=by
 unfold H9
 rw [if_pos ⟨by omega,by omega,by omega⟩]
set_option maxHeartbeats 1000000 in
theorem A0z (x:A6)(r:A3)(h:x.w≤8000000)(hS:Ve x.sums)(h1:x.sums.length=4)(h2:x.black.length=4)(he:0≤r.stamp.epoch∧r.stamp.epoch≤3):Aq Tryz.prog 210 [.agg x.c,.agg r.c] [.agg (H9 x r).c]:=by
 have hw:=K6 x
 have hk:r.stamp.epoch.toNat<x.sums.length:=by omega
 have hk2:r.stamp.epoch.toNat<x.black.length:=by omega
 have hs:Hc (x.sums.getD r.stamp.epoch.toNat default):=hS _ (B2 hk)
 obtain ⟨s1,s2⟩:=hs
 have g1:(kept x r).sums.length=4:=h1
 have g2:(kept x r).black.length=4:=h2
 have g3:(kept x r).sums.getD r.stamp.epoch.toNat default=x.sums.getD r.stamp.epoch.toNat default:=rfl
 have hm:(if (x.black.length:Int)<x.sums.length then (x.black.length:Int) else x.sums.length)=4:=by split<;>omega
 refine Aj A0 false Tryz.func210 rfl Bs fun W=>?_
 conv=>whnf
 refine Av (A28 x r Ad) rfl (Ae ?_)
 rw [hm]
 (repeat refine An ?_)
 refine Ai (Hj r.stamp.epoch 0 3) rfl (Ae ?_)
 rw [show Eg r.stamp.epoch 0 3=true from Go.Sx.Am.2 he]
 repeat refine B9 ?_
 (repeat refine An ?_)
 refine Bj (j:=r.stamp.epoch) A0 rfl rfl rfl rfl rfl rfl rfl rfl (Eu (x.sums.set r.stamp.epoch.toNat (x.sums.getD r.stamp.epoch.toNat default+ -1))) (Cz hk rfl) (Ae ?_)
 (repeat refine An ?_)
 refine Bj (j:=r.stamp.epoch) A0 rfl rfl rfl rfl rfl rfl rfl rfl (Cx (x.black.set r.stamp.epoch.toNat true)) (Cz hk2 rfl) (Ae ?_)
 rw [Uc h1 h2 he]
 refine Ah A0 rfl rfl ?_
 exact C1
theorem A4s {w:A6}(h:¬ 0<w.staged.length):Pq w=(w,default,false):=if_neg h
theorem Sn {w:A6}(h:0<w.staged.length):Pq w=(E4 w,w.staged.getD 0 default,true):=if_pos h
theorem A03 (x:A6)(h:x.w≤16000000):Aq Tryz.prog 203 [.agg x.c] [.agg (Pq x).1.c,.agg (Pq x).2.1.c,.one (vb (Pq x).2.2)]:=by
 have hw:=K6 x
 refine Aj A0 false Tryz.func203 rfl Bs fun W=>?_
 conv=>whnf
 refine Av (Gn x Ad) rfl (Ae ?_)
 refine ⟨fun h1=>have h1:=eq_of_beq h1;?_,fun h1=>have h1:=beq_eq_false_iff_ne.1 h1;?_⟩<;>conv=>whnf
 ·repeat refine B9 ?_
  rw [A4s Ad]
  refine Ah A0 rfl rfl ?_
  exact C1
 ·have h1:0<x.staged.length:=by omega
  repeat refine B9 ?_
  (repeat refine An ?_)
  refine A11 A0 rfl rfl rfl rfl rfl rfl rfl rfl (l:=1) rfl rfl (⟨by omega,by omega,by omega⟩) (A9 (x.staged.drop 1)) (G9 (k:=1) h1) (Ae ?_)
  refine Gl rfl ?_
  refine Bk A0 false 1 rfl rfl A5 rfl (Af D7) ?_
  refine Cj (s':=?_) 0 rfl A5 ?_ ?_
  rotate_left
  refine go A0 false ?_
  conv=>whnf
  (repeat refine An ?_)
  exact Ax
  refine Cl [2,5] A5 ⟨?_,?_,trivial⟩
  focus
   refine go A0 false ?_
   conv=>whnf
   (repeat refine An ?_)
   refine Cw ?_
   refine Cl [3,5] A5 ⟨?_,?_,trivial⟩
   focus
    refine go A0 false ?_
    conv=>whnf
    (repeat refine An ?_)
    refine Cw ?_
    refine Cl [4,5] A5 ⟨?_,?_,trivial⟩
    focus
     refine go A0 false ?_
     conv=>whnf
     (repeat refine An ?_)
     refine Cw ?_
     refine Cl [5] A5 ⟨?_,trivial⟩
     refine go A0 false ?_
     conv=>whnf
     (repeat refine An ?_)
     refine Cw ?_
     refine Cl [6] A5 ⟨?_,trivial⟩
     refine go A0 false ?_
     conv=>whnf
     (repeat refine An ?_)
     refine Cw ?_
     refine Bk A0 false 7 rfl rfl A5 rfl (Af D7) ?_
     refine Hh A5 (Ae ?_)
    rotate_left 1
    focus
     refine go A0 false ?_
     conv=>whnf
     (repeat refine An ?_)
     refine Cw ?_
     refine Cj (s':=?_) 4 rfl A5 ?_ ?_
     rotate_left
     refine go A0 false ?_
     conv=>whnf
     (repeat refine An ?_)
     exact Ax
     refine Cl [6] A5 ⟨?_,trivial⟩
     refine go A0 false ?_
     conv=>whnf
     (repeat refine An ?_)
     refine Cw ?_
     refine Bk A0 false 7 rfl rfl A5 rfl (Af D7) ?_
     refine Hh A5 (Ae ?_)
   rotate_left 2
   focus
    refine go A0 false ?_
    conv=>whnf
    (repeat refine An ?_)
    refine Cw ?_
    refine Cj (s':=?_) 3 rfl A5 ?_ ?_
    rotate_left
    refine go A0 false ?_
    conv=>whnf
    (repeat refine An ?_)
    exact Ax
    refine Cj (s':=?_) 4 rfl A5 ?_ ?_
    rotate_left
    refine go A0 false ?_
    conv=>whnf
    (repeat refine An ?_)
    exact Ax
    refine Cl [6] A5 ⟨?_,trivial⟩
    refine go A0 false ?_
    conv=>whnf
    (repeat refine An ?_)
    refine Cw ?_
    refine Bk A0 false 7 rfl rfl A5 rfl (Af D7) ?_
    refine Hh A5 (Ae ?_)
  rotate_left 3
  focus
   refine go A0 false ?_
   conv=>whnf
   (repeat refine An ?_)
   refine Cw ?_
   refine Cj (s':=?_) 2 rfl A5 ?_ ?_
   rotate_left
   refine go A0 false ?_
   conv=>whnf
   (repeat refine An ?_)
   exact Ax
   refine Cj (s':=?_) 3 rfl A5 ?_ ?_
   rotate_left
   refine go A0 false ?_
   conv=>whnf
   (repeat refine An ?_)
   exact Ax
   refine Cj (s':=?_) 4 rfl A5 ?_ ?_
   rotate_left
   refine go A0 false ?_
   conv=>whnf
   (repeat refine An ?_)
   exact Ax
   refine Cl [6] A5 ⟨?_,trivial⟩
   refine go A0 false ?_
   conv=>whnf
   (repeat refine An ?_)
   refine Cw ?_
   refine Bk A0 false 7 rfl rfl A5 rfl (Af D7) ?_
   refine Hh A5 (Ae ?_)
  all_goals
   rw [Sn h1]
   refine Ah A0 rfl rfl ?_
   exact C1
theorem Mz {g:Ar}{w:A6}(h:¬ Ol g w):Fw g w=(w,false):=if_neg h
theorem Zg {g:Ar}{w:A6}(h:Ol g w):Fw g w=(Ld w,true):=if_pos h
set_option maxHeartbeats 1000000 in
theorem Qd (g:Ar)(x:A6)(hg:g.w≤16777216)(h:x.w≤16000000):Aq Tryz.prog 202 [.agg g.c,.agg x.c] [.agg (Fw g x).1.c,.one (vb (Fw g x).2)]:=by
 have hw:=K6 x
 refine Aj A0 false Tryz.func202 rfl Bs fun W=>?_
 conv=>whnf
 refine Av (Gn x Ad) rfl (Ae ?_)
 refine Ai (Ip g Ad) rfl (Ae ?_)
 refine ⟨fun h1=>?_,fun h1=>?_⟩<;>conv=>whnf
 ·have h1:Fi g=false:=by simpa using h1
  repeat refine B9 ?_
  rw [Mz (fun p=>absurd p.1 (of_decide_eq_false h1))]
  refine Ah A0 rfl rfl ?_
  exact C1
 have h1:H1 g:=of_decide_eq_true (show Fi g=true by simpa using h1)
 repeat refine B9 ?_
 refine Ai (Nt g x Ad Ad) rfl (Ae ?_)
 repeat refine B9 ?_
 refine ⟨fun h2=>?_,fun h2=>?_⟩<;>conv=>whnf
 ·have h2:Ib g.nodes.length x=false:=by simpa using h2
  repeat refine B9 ?_
  rw [Mz (fun p=>absurd p.2.1 (of_decide_eq_false h2))]
  refine Ah A0 rfl rfl ?_
  exact C1
 have h2:Da g.nodes.length x:=of_decide_eq_true (show Ib g.nodes.length x=true by simpa using h2)
 repeat refine B9 ?_
 refine ⟨fun h3=>?_,fun h3=>?_⟩<;>conv=>whnf
 ·have h3:¬ x.staged.length=0:=by have:=of_decide_eq_true h3;omega
  repeat refine B9 ?_
  rw [Mz (fun p=>h3 p.2.2.1)]
  refine Ah A0 rfl rfl ?_
  exact C1
 have h3:x.staged.length=0:=by have:=of_decide_eq_false h3;omega
 repeat refine B9 ?_
 refine ⟨fun h4=>?_,fun h4=>?_⟩<;>conv=>whnf
 ·have h4:¬ x.queue.length=0:=by have:=of_decide_eq_true h4;omega
  repeat refine B9 ?_
  rw [Mz (fun p=>h4 p.2.2.2.1)]
  refine Ah A0 rfl rfl ?_
  exact C1
 have h4:x.queue.length=0:=by have:=of_decide_eq_false h4;omega
 repeat refine B9 ?_
 refine ⟨fun h5=>have h5:=eq_of_beq h5;?_,fun h5=>have h5:=beq_eq_false_iff_ne.1 h5;?_⟩<;>conv=>whnf
 ·repeat refine B9 ?_
  rw [Mz (fun p=>by have:=p.2.2.2.2;omega)]
  refine Ah A0 rfl rfl ?_
  exact C1
 have h5:0<x.inputs.length:=by omega
 repeat refine B9 ?_
 first|(refine Ak 4 rfl [0,1,2,3,4,5,6,7,8,9] A5 (Ae ?_))
 (repeat refine An ?_)
 refine Bm A0 rfl rfl rfl rfl rfl rfl rfl rfl rfl rfl rfl (A9 (x.queue++[x.inputs.getD 0 default])) (Bh rfl) Ef Ad (Ae ?_)
 (repeat refine An ?_)
 refine A11 A0 rfl rfl rfl rfl rfl rfl rfl rfl (l:=1) rfl rfl (⟨by omega,by omega,by omega⟩) (A9 (x.inputs.drop 1)) (G9 (k:=1) h5) (Ae ?_)
 rw [Zg ⟨h1,h2,h3,h4,h5⟩]
 refine Ah A0 rfl rfl ?_
 exact C1
theorem So {g:Ar}{w:A6}(h:¬ Tu g w):Ji g w=(w,false):=if_neg h
theorem Y3 {g:Ar}{w:A6}(h:Tu g w):Ji g w=(Kq g w,true):=if_pos h
set_option maxHeartbeats 1000000 in
theorem Wq (g:Ar)(x:A6)(hg:g.w≤16777216)(h:x.w≤16000000):Aq Tryz.prog 201 [.agg g.c,.agg x.c] [.agg (Ji g x).1.c,.one (vb (Ji g x).2)]:=by
 have hw:=K6 x
 refine Aj A0 false Tryz.func201 rfl Bs fun W=>?_
 conv=>whnf
 refine Av (Gn x Ad) rfl (Ae ?_)
 refine Ai (Ip g Ad) rfl (Ae ?_)
 refine ⟨fun h1=>?_,fun h1=>?_⟩<;>conv=>whnf
 ·have h1:Fi g=false:=by simpa using h1
  repeat refine B9 ?_
  rw [So (fun p=>absurd p.1 (of_decide_eq_false h1))]
  refine Ah A0 rfl rfl ?_
  exact C1
 have h1:H1 g:=of_decide_eq_true (show Fi g=true by simpa using h1)
 repeat refine B9 ?_
 refine Ai (Nt g x Ad Ad) rfl (Ae ?_)
 repeat refine B9 ?_
 refine ⟨fun h2=>?_,fun h2=>?_⟩<;>conv=>whnf
 ·have h2:Ib g.nodes.length x=false:=by simpa using h2
  repeat refine B9 ?_
  rw [So (fun p=>absurd p.2.1 (of_decide_eq_false h2))]
  refine Ah A0 rfl rfl ?_
  exact C1
 have h2:Da g.nodes.length x:=of_decide_eq_true (show Ib g.nodes.length x=true by simpa using h2)
 repeat refine B9 ?_
 refine ⟨fun h3=>?_,fun h3=>?_⟩<;>conv=>whnf
 ·have h3:¬ x.staged.length=0:=by have:=of_decide_eq_true h3;omega
  repeat refine B9 ?_
  rw [So (fun p=>h3 p.2.2.1)]
  refine Ah A0 rfl rfl ?_
  exact C1
 have h3:x.staged.length=0:=by have:=of_decide_eq_false h3;omega
 repeat refine B9 ?_
 refine ⟨fun h4=>have h4:=eq_of_beq h4;?_,fun h4=>have h4:=beq_eq_false_iff_ne.1 h4;?_⟩<;>conv=>whnf
 ·repeat refine B9 ?_
  rw [So (fun p=>by have:=p.2.2.2;omega)]
  refine Ah A0 rfl rfl ?_
  exact C1
 have h4:0<x.queue.length:=by omega
 have hR:=h2.1.1 _ (B2 (d:=default) h4)
 have hE:=hR.1.2.1
 have hcl:x.caps.length=4:=h2.2.1.2.2
 have hc:(x.queue.getD 0 default).stamp.epoch.toNat<x.caps.length:=by have:=h2.2.1.2.2;omega
 repeat refine B9 ?_
 (repeat refine An ?_)
 refine A11 A0 rfl rfl rfl rfl rfl rfl rfl rfl (l:=1) rfl rfl (⟨by omega,by omega,by omega⟩) (A9 (x.queue.drop 1)) (G9 (k:=1) h4) (Ae ?_)
 refine Av (A5o g x.cells (x.queue.getD 0 default) hg Ad) rfl (Ae ?_)
 refine Ai (A5j g (x.queue.getD 0 default) hg) rfl (Ae ?_)
 refine ⟨fun h5=>?_,fun h5=>?_⟩<;>conv=>whnf
 ·have h5:capped g (x.queue.getD 0 default)=true:=h5
  refine ⟨by (show 0≤(x.queue.getD 0 default).stamp.epoch∧(x.queue.getD 0 default).stamp.epoch<x.caps.length;omega),?_⟩
  conv=>whnf
  refine Bj (j:=(x.queue.getD 0 default).stamp.epoch) A0 rfl rfl rfl rfl rfl rfl rfl rfl (Cx (x.caps.set (x.queue.getD 0 default).stamp.epoch.toNat true)) (Cz hc rfl) (Ae ?_)
  rw [Y3 ⟨h1,h2,h3,h4⟩,Kq,if_pos h5]
  refine Ah A0 rfl rfl ?_
  exact C1
 ·have h5:capped g (x.queue.getD 0 default)=false:=h5
  rw [Y3 ⟨h1,h2,h3,h4⟩,Kq,if_neg (by rw [h5];decide)]
  refine Ah A0 rfl rfl ?_
  exact C1
def Gq (w f t:Int):Int:=if 0≤min f t∧max f t<w then IntKind.wrap .i64 (IntKind.wrap .i64 (f * w)+t) else-1
theorem Mq (g:Ar)(f t:Int)(hg:G8 .i64 g.workers):Aq Tryz.prog 194 [.agg g.c,.one (vi f),.one (vi t)] [.one (vi (Gq g.workers f t))]:=by
 have hw:g.workers≤9223372036854775807:=hg.2
 have hw1:1≤g.workers→IntKind.wrap .i64 (g.workers-1)=g.workers-1:=fun h=>Hp (by show _∧_;omega)
 refine Aj A0 true Tryz.func194 rfl Bs fun W=>?_
 conv=>whnf
 repeat' (first|(refine Ki ?_;conv=>whnf)|(refine Kj ?_;conv=>whnf)|(refine ⟨fun h=>?_,fun h=>?_⟩<;>conv=>whnf)|(refine Ai (Gv _ _ _) rfl (go A0 true ?_);conv=>whnf)|(refine Jn ?_;conv=>whnf)|fail)
 all_goals (refine Ah A0 rfl rfl ⟨congrArg vi ?_,trivial⟩;simp only [Bool.not_eq_true',Bool.not_eq_false',Go.Sx.Am,Go.Sx.Aw,decide_eq_true_eq,decide_eq_false_iff_not] at *;unfold Gq)
 ·by_cases h1:1≤g.workers
  ·have h2:=hw1 h1;rw [if_neg Ad]
  ·rw [if_neg Ad]
 ·by_cases h1:1≤g.workers
  ·have h2:=hw1 h1;rw [if_neg Ad]
  ·rw [if_neg Ad]
 ·rw [if_neg Ad]
 ·have h2:=hw1 Ad;rw [if_pos Ad]
theorem Qc (g:Ar)(f t:Int):Aq Tryz.prog 205 [.agg g.c,.one (vi f),.one (vi t)] [.one (vi (Gq g.workers f t))]:=by
 refine Aj A0 true Tryz.func205 rfl Bs fun W=>?_
 conv=>whnf
 repeat' (first|(refine Ki ?_;conv=>whnf)|(refine Kj ?_;conv=>whnf)|(refine ⟨fun h=>?_,fun h=>?_⟩<;>conv=>whnf)|(refine Jn ?_;conv=>whnf)|fail)
 all_goals (refine Ah A0 rfl rfl ⟨congrArg vi ?_,trivial⟩;simp only [decide_eq_true_eq,decide_eq_false_iff_not] at *;unfold Gq)
 ·rw [if_neg Ad]
 ·rw [if_neg Ad]
 ·rw [if_pos Ad]
theorem Ul (key n:Int)(hn:n≤9223372036854775807):Aq Tryz.prog 141 [.one (vi key),.one (vi n)] [.one (vi (E3 key n))]:=by
 refine Aj A0 false Tryz.func141 rfl Bs fun W=>?_
 conv=>whnf
 refine F2 (fun h=>?_) fun h=>?_<;>conv=>whnf
 ·exact Ah A0 rfl rfl ⟨congrArg vi (by rw [E3,if_pos h]),trivial⟩
 have h1:=Int.tmod_lt_of_pos key (show 0<n by omega)
 have h2:=Int.lt_tmod_of_pos key (show 0<n by omega)
 (repeat refine An ?_)
 refine F2 (fun h'=>?_) fun h'=>?_<;>conv=>whnf
 ·(repeat refine An ?_)
  exact Ah A0 rfl rfl ⟨congrArg vi (by rw [E3,if_neg h,if_pos h']),trivial⟩
 ·exact Ah A0 rfl rfl ⟨congrArg vi (by rw [E3,if_neg h,if_neg h']),trivial⟩
theorem U4 (key n:Int)(hn:n≤9223372036854775807):Aq Tryz.prog 101 [.one (vi key),.one (vi n)] [.one (vi (E3 key n))]:=by
 refine Aj A0 false Tryz.func101 rfl Bs fun W=>?_
 conv=>whnf
 refine F2 (fun h=>?_) fun h=>?_<;>conv=>whnf
 ·exact Ah A0 rfl rfl ⟨congrArg vi (by rw [E3,if_pos h]),trivial⟩
 have h1:=Int.tmod_lt_of_pos key (show 0<n by omega)
 have h2:=Int.lt_tmod_of_pos key (show 0<n by omega)
 (repeat refine An ?_)
 refine F2 (fun h'=>?_) fun h'=>?_<;>conv=>whnf
 ·(repeat refine An ?_)
  exact Ah A0 rfl rfl ⟨congrArg vi (by rw [E3,if_neg h,if_pos h']),trivial⟩
 ·exact Ah A0 rfl rfl ⟨congrArg vi (by rw [E3,if_neg h,if_neg h']),trivial⟩
end Go.Proofs.YtlbmkgkmbjadcaaGreat
