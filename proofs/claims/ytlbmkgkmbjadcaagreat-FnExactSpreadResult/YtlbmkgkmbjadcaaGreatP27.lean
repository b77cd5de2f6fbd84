/- Part 27 of the proof that each of the laws FnExactRunScriptOf, FnExactSpreadResult returns true for every input. No conditions. -/
import Derived.Test.YtlbmkgkmbjadcaaGreatP26
import Derived.Test.YtlbmkgkmbjadcaaGreatP16
import Derived.Test.YtlbmkgkmbjadcaaGreatP15

set_option linter.unusedSimpArgs false
set_option linter.unusedVariables false
set_option maxRecDepth 100000
namespace Go.Proofs.YtlbmkgkmbjadcaaGreat
open Go.Sx
theorem Mm {w f t:Int}(hw:1≤w∧w≤4)(hf:0≤f∧f<w)(ht:0≤t∧t<w):Gq w f t=f * w+t:=by
 unfold Gq
 rw [if_pos Ad]
 have e:w=1∨w=2∨w=3∨w=4:=by omega
 rcases e with rfl|rfl|rfl|rfl<;>rw [Hp (k:= .i64) (n:=f * _) (by show _∧_;omega),Hp (by show _∧_;omega)]
theorem A07 {w f t:Int}(h:¬ ((0≤f∧f<w)∧(0≤t∧t<w))):Gq w f t= -1:=by
 unfold Gq
 rw [if_neg Ad]
theorem L7 {c:A4}{f t:Int}(h:Bg c)(hf:0≤f∧f<c.graph.workers)(ht:0≤t∧t<c.graph.workers):0≤Az c f t∧Az c f t<c.links.length:=by
 have hl:=h.1.2.2.1
 have hw:=h.1.1.2.1
 clear h
 unfold Az
 generalize c.graph.workers=n at *
 have e:n=1∨n=2∨n=3∨n=4:=by omega
 rcases e with rfl|rfl|rfl|rfl<;>omega
theorem Mk (x:A4)(w:Int)(h:x.w≤16000000)(hgo:Jl x):Aq Tryz.prog 200 [.agg x.c,.one (vi w)] [.one (vb (decide (G2 x w)))]:=by
 have hl:=A4.workers_le h
 refine Aj A0 false Tryz.func200 rfl Bs fun W=>?_
 conv=>whnf
 refine Ai (K1 x Ad hgo) rfl (Ae ?_)
 refine ⟨fun h1=>?_,fun h1=>?_⟩<;>conv=>whnf
 ·repeat refine B9 ?_
  (repeat refine An ?_)
  refine Ai (Hj w 0 (x.workers.length-1)) rfl (Ae ?_)
  repeat refine B9 ?_
  exact Ah A0 rfl rfl ⟨congrArg vb (by rw [Bool.eq_iff_iff,Go.Sx.Am,decide_eq_true_eq];exact ⟨fun p=>⟨p.2.1,by have:=p.2.2;omega⟩,fun p=>⟨of_decide_eq_true h1,by omega,by omega⟩⟩),trivial⟩
 ·repeat refine B9 ?_
  exact Ah A0 rfl rfl ⟨congrArg vb (decide_eq_false fun p=>absurd p.1 (of_decide_eq_false h1)),trivial⟩
theorem U9 {c:A4}{w:Int}(h:¬ G2 c w):Es c w=(c,false):=if_neg h
theorem Nx {c:A4}{w:Int}(h:G2 c w):Es c w=(C0 c w (Ji c.graph (Ag c w)).1,(Ji c.graph (Ag c w)).2):=if_pos h
theorem Sc {c:A4}{w:Int}(h:¬ G2 c w):E5 c w=(c,false):=if_neg h
theorem Mn {c:A4}{w:Int}(h:G2 c w):E5 c w=(C0 c w (Fw c.graph (Ag c w)).1,(Fw c.graph (Ag c w)).2):=if_pos h
set_option maxHeartbeats 2000000 in
theorem A0y (x:A4)(w:Int)(h:x.w≤16000000)(hgo:Jl x):Aq Tryz.prog 157 [.agg x.c,.one (vi w)] [.agg (Es x w).1.c,.one (vb (Es x w).2)]:=by
 refine Aj A0 false Tryz.func157 rfl Bs fun W=>?_
 conv=>whnf
 refine Av (Ea x Ad) rfl (Ae ?_)
 refine Ai (Mk x w h hgo) rfl (Ae ?_)
 refine ⟨fun h1=>?_,fun h1=>?_⟩<;>conv=>whnf
 ·have h1:¬ G2 x w:=of_decide_eq_false (by simpa using h1)
  repeat refine B9 ?_
  rw [U9 h1]
  refine Ah A0 rfl rfl ?_
  exact C1
 have h1:G2 x w:=of_decide_eq_true (show decide (G2 x w)=true by simpa using h1)
 have hC:=h1.1
 have hb:=h1.2
 have hk:w.toNat<x.workers.length:=by omega
 have hw:=A4.worker_le h hk
 have hg:=Np h
 have hWP:=hC.2.1 _ (B2 (d:=default) hk)
 have hww:(Ag x w).w≤16000000:=by show (x.workers.getD w.toNat default).w≤_;omega
 repeat refine B9 ?_
 refine Gl rfl ?_
 refine Bk A0 false 0 rfl rfl A5 rfl (Af D7) ?_
 refine Bk A0 false 2 rfl rfl A5 rfl (Af D7) ?_
 refine Bk A0 false 4 rfl rfl A5 rfl (Af D7) ?_
 refine Cj (s':=?_) 1 rfl A5 ?_ ?_
 rotate_left
 refine go A0 false ?_
 conv=>whnf
 (repeat refine An ?_)
 exact Ax
 refine Cj (s':=?_) 3 rfl A5 ?_ ?_
 rotate_left
 refine go A0 false ?_
 conv=>whnf
 (repeat refine An ?_)
 exact Ax
 refine Cj (s':=?_) 5 rfl A5 ?_ ?_
 rotate_left
 refine go A0 false ?_
 conv=>whnf
 (repeat refine An ?_)
 exact Ax
 refine Cj (s':=?_) 6 rfl A5 ?_ ?_
 rotate_left
 refine go A0 false ?_
 conv=>whnf
 (repeat refine An ?_)
 exact Ax
 refine Cl [7,11] A5 ⟨?_,?_,trivial⟩
 focus
  refine go A0 false ?_
  conv=>whnf
  refine Av (Wq x.graph (Ag x w) Ad hww) rfl (Ae ?_)
  refine Cw ?_
  refine Bk A0 false 8 rfl rfl A5 rfl (Af D7) ?_
  refine Kd (s':=?_) 9 rfl A5 ?_ ?_
  rotate_left
  refine go A0 false ?_
  conv=>whnf
  (repeat refine An ?_)
  exact Ax
  refine Kd (s':=?_) 10 rfl A5 ?_ ?_
  rotate_left
  refine go A0 false ?_
  conv=>whnf
  (repeat refine An ?_)
  exact Ax
  refine Cl [11] A5 ⟨?_,trivial⟩
  refine go A0 false ?_
  conv=>whnf
  (repeat refine An ?_)
  refine Cw ?_
  refine Cl [12] A5 ⟨?_,trivial⟩
  refine go A0 false ?_
  conv=>whnf
  (repeat refine An ?_)
  refine Cw ?_
  refine Bk A0 false 13 rfl rfl A5 rfl (Af D7) ?_
  refine Hh A5 (Ae ?_)
 rotate_left 1
 focus
  refine go A0 false ?_
  conv=>whnf
  (repeat refine An ?_)
  refine Cw ?_
  refine Cl [7] A5 ⟨?_,trivial⟩
  refine go A0 false ?_
  conv=>whnf
  refine Av (Wq x.graph (Ag x w) Ad hww) rfl (Ae ?_)
  refine Cw ?_
  refine Bk A0 false 8 rfl rfl A5 rfl (Af D7) ?_
  refine Kd (s':=?_) 9 rfl A5 ?_ ?_
  rotate_left
  refine go A0 false ?_
  conv=>whnf
  (repeat refine An ?_)
  exact Ax
  refine Kd (s':=?_) 10 rfl A5 ?_ ?_
  rotate_left
  refine go A0 false ?_
  conv=>whnf
  (repeat refine An ?_)
  exact Ax
  refine Cl [12] A5 ⟨?_,trivial⟩
  refine go A0 false ?_
  conv=>whnf
  (repeat refine An ?_)
  refine Cw ?_
  refine Bk A0 false 13 rfl rfl A5 rfl (Af D7) ?_
  refine Hh A5 (Ae ?_)
 all_goals
  (repeat refine An ?_)
  refine Bj (j:=w) A0 rfl rfl rfl rfl rfl rfl rfl rfl (Ap (x.workers.set w.toNat (Ji x.graph (Ag x w)).1)) (Cz hk rfl) (Ae ?_)
  rw [Nx h1]
  refine Ah A0 rfl rfl ?_
  exact C1
set_option maxHeartbeats 2000000 in
theorem Yg (x:A4)(w:Int)(h:x.w≤16000000)(hgo:Jl x):Aq Tryz.prog 158 [.agg x.c,.one (vi w)] [.agg (E5 x w).1.c,.one (vb (E5 x w).2)]:=by
 refine Aj A0 false Tryz.func158 rfl Bs fun W=>?_
 conv=>whnf
 refine Av (Ea x Ad) rfl (Ae ?_)
 refine Ai (Mk x w h hgo) rfl (Ae ?_)
 refine ⟨fun h1=>?_,fun h1=>?_⟩<;>conv=>whnf
 ·have h1:¬ G2 x w:=of_decide_eq_false (by simpa using h1)
  repeat refine B9 ?_
  rw [Sc h1]
  refine Ah A0 rfl rfl ?_
  exact C1
 have h1:G2 x w:=of_decide_eq_true (show decide (G2 x w)=true by simpa using h1)
 have hC:=h1.1
 have hb:=h1.2
 have hk:w.toNat<x.workers.length:=by omega
 have hw:=A4.worker_le h hk
 have hg:=Np h
 have hWP:=hC.2.1 _ (B2 (d:=default) hk)
 have hww:(Ag x w).w≤16000000:=by show (x.workers.getD w.toNat default).w≤_;omega
 repeat refine B9 ?_
 refine Gl rfl ?_
 refine Bk A0 false 0 rfl rfl A5 rfl (Af D7) ?_
 refine Bk A0 false 2 rfl rfl A5 rfl (Af D7) ?_
 refine Bk A0 false 4 rfl rfl A5 rfl (Af D7) ?_
 refine Cj (s':=?_) 1 rfl A5 ?_ ?_
 rotate_left
 refine go A0 false ?_
 conv=>whnf
 (repeat refine An ?_)
 exact Ax
 refine Cj (s':=?_) 3 rfl A5 ?_ ?_
 rotate_left
 refine go A0 false ?_
 conv=>whnf
 (repeat refine An ?_)
 exact Ax
 refine Cj (s':=?_) 5 rfl A5 ?_ ?_
 rotate_left
 refine go A0 false ?_
 conv=>whnf
 (repeat refine An ?_)
 exact Ax
 refine Cj (s':=?_) 6 rfl A5 ?_ ?_
 rotate_left
 refine go A0 false ?_
 conv=>whnf
 (repeat refine An ?_)
 exact Ax
 refine Cl [7,11] A5 ⟨?_,?_,trivial⟩
 focus
  refine go A0 false ?_
  conv=>whnf
  refine Av (Qd x.graph (Ag x w) Ad hww) rfl (Ae ?_)
  refine Cw ?_
  refine Bk A0 false 8 rfl rfl A5 rfl (Af D7) ?_
  refine Kd (s':=?_) 9 rfl A5 ?_ ?_
  rotate_left
  refine go A0 false ?_
  conv=>whnf
  (repeat refine An ?_)
  exact Ax
  refine Kd (s':=?_) 10 rfl A5 ?_ ?_
  rotate_left
  refine go A0 false ?_
  conv=>whnf
  (repeat refine An ?_)
  exact Ax
  refine Cl [11] A5 ⟨?_,trivial⟩
  refine go A0 false ?_
  conv=>whnf
  (repeat refine An ?_)
  refine Cw ?_
  refine Cl [12] A5 ⟨?_,trivial⟩
  refine go A0 false ?_
  conv=>whnf
  (repeat refine An ?_)
  refine Cw ?_
  refine Bk A0 false 13 rfl rfl A5 rfl (Af D7) ?_
  refine Hh A5 (Ae ?_)
 rotate_left 1
 focus
  refine go A0 false ?_
  conv=>whnf
  (repeat refine An ?_)
  refine Cw ?_
  refine Cl [7] A5 ⟨?_,trivial⟩
  refine go A0 false ?_
  conv=>whnf
  refine Av (Qd x.graph (Ag x w) Ad hww) rfl (Ae ?_)
  refine Cw ?_
  refine Bk A0 false 8 rfl rfl A5 rfl (Af D7) ?_
  refine Kd (s':=?_) 9 rfl A5 ?_ ?_
  rotate_left
  refine go A0 false ?_
  conv=>whnf
  (repeat refine An ?_)
  exact Ax
  refine Kd (s':=?_) 10 rfl A5 ?_ ?_
  rotate_left
  refine go A0 false ?_
  conv=>whnf
  (repeat refine An ?_)
  exact Ax
  refine Cl [12] A5 ⟨?_,trivial⟩
  refine go A0 false ?_
  conv=>whnf
  (repeat refine An ?_)
  refine Cw ?_
  refine Bk A0 false 13 rfl rfl A5 rfl (Af D7) ?_
  refine Hh A5 (Ae ?_)
 all_goals
  (repeat refine An ?_)
  refine Bj (j:=w) A0 rfl rfl rfl rfl rfl rfl rfl rfl (Ap (x.workers.set w.toNat (Fw x.graph (Ag x w)).1)) (Cz hk rfl) (Ae ?_)
  rw [Mn h1]
  refine Ah A0 rfl rfl ?_
  exact C1
theorem Mf {c:A4}{w:Int}(h:¬ (G2 c w∧0<(Ag c w).staged.length)):D0 c w=(c,false):=if_neg h
theorem Sd {c:A4}{w:Int}(h:G2 c w∧0<(Ag c w).staged.length)(h1:Bc c w=w):D0 c w=(C0 c w (kept (E4 (Ag c w)) (Bi c w)),true):=by
 unfold D0
 rw [if_pos h,if_pos h1]
theorem Qi {c:A4}{w:Int}(h:G2 c w∧0<(Ag c w).staged.length)(h1:Bc c w≠w)(h2:(D6 (Bv c (Az c w (Bc c w))) (Bi c w)).2=false):D0 c w=(c,false):=by
 unfold D0
 rw [if_pos h,if_neg h1,if_neg (by rw [h2];decide)]
theorem Qj {c:A4}{w:Int}(h:G2 c w∧0<(Ag c w).staged.length)(h1:Bc c w≠w)(h2:(D6 (Bv c (Az c w (Bc c w))) (Bi c w)).2=true):D0 c w=(C0 (Df c (Az c w (Bc c w)) (D6 (Bv c (Az c w (Bc c w))) (Bi c w)).1) w (Hn (E4 (Ag c w)) (Bi c w).stamp.epoch),true):=by
 unfold D0
 rw [if_pos h,if_neg h1,if_pos h2]
theorem A3s {k n:Int}(hk:0≤k)(hn:1≤n):0≤E3 k n∧E3 k n<n:=by
 have h1:=Int.tmod_lt_of_pos k (show 0<n by omega)
 have h2:=Int.tmod_nonneg n hk
 unfold E3
 (repeat' split)<;>omega
theorem B0i (x:A6):(E4 x).w≤x.w:=by
 simp only [A6.w,E4,List.length_drop]
 omega
set_option maxHeartbeats 4000000 in
theorem A0w (x:A4)(w:Int)(h:x.w≤8000000)(hgo:Jl x):Aq Tryz.prog 159 [.agg x.c,.one (vi w)] [.agg (D0 x w).1.c,.one (vb (D0 x w).2)]:=by
 have h:x.w≤16000000:=by omega
 refine Aj A0 false Tryz.func159 rfl Bs fun W=>?_
 conv=>whnf
 refine Av (Ea x Ad) rfl (Ae ?_)
 refine Ai (Mk x w h hgo) rfl (Ae ?_)
 refine ⟨fun h1=>?_,fun h1=>?_⟩<;>conv=>whnf
 ·have h1:¬ G2 x w:=of_decide_eq_false (by simpa using h1)
  repeat refine B9 ?_
  rw [(fun q=>Mf (fun p=>q p.1)) h1]
  refine Ah A0 rfl rfl ?_
  exact C1
 have h1:G2 x w:=of_decide_eq_true (show decide (G2 x w)=true by simpa using h1)
 have hC:=h1.1
 have hb:=h1.2
 have hk:w.toNat<x.workers.length:=by omega
 have hw:=A4.worker_le h hk
 have hg:=Np h
 have hWP:=hC.2.1 _ (B2 (d:=default) hk)
 have hww:(Ag x w).w≤16000000:=by show (x.workers.getD w.toNat default).w≤_;omega
 repeat refine B9 ?_
 (repeat refine An ?_)
 refine ⟨fun h2=>have h2:=eq_of_beq h2;?_,fun h2=>have h2:=beq_eq_false_iff_ne.1 h2;?_⟩<;>conv=>whnf
 ·repeat refine B9 ?_
  rw [Mf (fun p=>by have:=p.2;simp only [Ag] at this;omega)]
  refine Ah A0 rfl rfl ?_
  exact C1
 have h2:0<(Ag x w).staged.length:=by simp only [Ag];omega
 have hM:G2 x w∧0<(Ag x w).staged.length:=⟨h1,h2⟩
 have hR:Gx (Bi x w)∧(Bi x w).op<x.graph.nodes.length:=hWP.1.2.1 _ (B2 (d:=default) h2)
 have hgw:=hC.1.1.2.1
 have how:=A3s (k:=(Bi x w).key) (n:=x.graph.workers) hR.1.2.2.2.1.1 hgw.1
 have hwl:=hC.1.2.1
 have huw:=B0i (Ag x w)
 repeat refine B9 ?_
 (repeat refine An ?_)
 refine Av (A03 (Ag x w) hww) rfl (Ae ?_)
 rw [Sn h2]
 refine Ai (U4 (Bi x w).key x.graph.workers Ad) rfl (Ae ?_)
 refine ⟨fun h3=>have h3:=eq_of_beq h3;?_,fun h3=>have h3:=beq_eq_false_iff_ne.1 h3;?_⟩<;>conv=>whnf
 ·have h3:Bc x w=w:=h3
  first|(refine Ak 7 rfl [0,1,2,3,4,5,6,7] A5 (Ae ?_))|(refine Ak 10 rfl [0,1,2,3,4,5,6,7,8,9,10,11,12] A5 (Ae ?_))|(refine Ak 14 rfl [0,1,2,3,4,5,6,7,8,9] A5 (Ae ?_))
  refine Av (A28 (E4 (Ag x w)) (Bi x w) Ad) rfl (Ae ?_)
  (repeat refine An ?_)
  refine Bj (j:=w) A0 rfl rfl rfl rfl rfl rfl rfl rfl (Ap (x.workers.set w.toNat (kept (E4 (Ag x w)) (Bi x w)))) (Cz hk rfl) (Ae ?_)
  rw [Sd hM h3]
  refine Ah A0 rfl rfl ?_
  exact C1
 have h3:Bc x w≠w:=h3
 have hmt:0≤Bc x w∧Bc x w<x.graph.workers:=how
 have hln:=L7 hC (f:=w) (t:=Bc x w) Ad hmt
 have hlk:(Az x w (Bc x w)).toNat<x.links.length:=by omega
 have hlw:=A4.link_le h hlk
 have hlp:Gq x.graph.workers w (E3 (Bi x w).key x.graph.workers)=Az x w (Bc x w):=Mm hgw Ad hmt
 refine Ai (Qc x.graph w (E3 (Bi x w).key x.graph.workers)) rfl (Ae ?_)
 rw [hlp]
 refine Gl rfl ?_
 refine Bk A0 false 0 rfl rfl A5 rfl (Af D7) ?_
 refine Bk A0 false 2 rfl rfl A5 rfl (Af D7) ?_
 refine Cj (s':=?_) 1 rfl A5 ?_ ?_
 rotate_left
 refine go A0 false ?_
 conv=>whnf
 (repeat refine An ?_)
 exact Ax
 refine Cj (s':=?_) 3 rfl A5 ?_ ?_
 rotate_left
 refine go A0 false ?_
 conv=>whnf
 (repeat refine An ?_)
 exact Ax
 refine Cj (s':=?_) 4 rfl A5 ?_ ?_
 rotate_left
 refine go A0 false ?_
 conv=>whnf
 (repeat refine An ?_)
 exact Ax
 refine Cj (s':=?_) 5 rfl A5 ?_ ?_
 rotate_left
 refine go A0 false ?_
 conv=>whnf
 (repeat refine An ?_)
 exact Ax
 refine Cl [6,10] A5 ⟨?_,?_,trivial⟩
 focus
  refine go A0 false ?_
  conv=>whnf
  refine Av (Wp (Bv x (Az x w (Bc x w))) (Bi x w) (by show (x.links.getD _ default).w≤_;omega) (hgo _ (B2 (d:=default) hlk))) rfl (Ae ?_)
  refine Cw ?_
  refine Bk A0 false 7 rfl rfl A5 rfl (Af D7) ?_
  refine Kd (s':=?_) 8 rfl A5 ?_ ?_
  rotate_left
  refine go A0 false ?_
  conv=>whnf
  (repeat refine An ?_)
  exact Ax
  refine Kd (s':=?_) 9 rfl A5 ?_ ?_
  rotate_left
  refine go A0 false ?_
  conv=>whnf
  (repeat refine An ?_)
  exact Ax
  refine Cl [10] A5 ⟨?_,trivial⟩
  refine go A0 false ?_
  conv=>whnf
  (repeat refine An ?_)
  refine Cw ?_
  refine Cl [11] A5 ⟨?_,trivial⟩
  refine go A0 false ?_
  conv=>whnf
  (repeat refine An ?_)
  refine Cw ?_
  refine Bk A0 false 12 rfl rfl A5 rfl (Af D7) ?_
  refine Hh A5 (Ae ?_)
 rotate_left 1
 focus
  refine go A0 false ?_
  conv=>whnf
  (repeat refine An ?_)
  refine Cw ?_
  refine Cl [6] A5 ⟨?_,trivial⟩
  refine go A0 false ?_
  conv=>whnf
  refine Av (Wp (Bv x (Az x w (Bc x w))) (Bi x w) (by show (x.links.getD _ default).w≤_;omega) (hgo _ (B2 (d:=default) hlk))) rfl (Ae ?_)
  refine Cw ?_
  refine Bk A0 false 7 rfl rfl A5 rfl (Af D7) ?_
  refine Kd (s':=?_) 8 rfl A5 ?_ ?_
  rotate_left
  refine go A0 false ?_
  conv=>whnf
  (repeat refine An ?_)
  exact Ax
  refine Kd (s':=?_) 9 rfl A5 ?_ ?_
  rotate_left
  refine go A0 false ?_
  conv=>whnf
  (repeat refine An ?_)
  exact Ax
  refine Cl [11] A5 ⟨?_,trivial⟩
  refine go A0 false ?_
  conv=>whnf
  (repeat refine An ?_)
  refine Cw ?_
  refine Bk A0 false 12 rfl rfl A5 rfl (Af D7) ?_
  refine Hh A5 (Ae ?_)
 all_goals
  refine ⟨fun h4=>?_,fun h4=>?_⟩<;>conv=>whnf
  ·have h4:(D6 (Bv x (Az x w (Bc x w))) (Bi x w)).2=false:=by simpa using h4
   repeat refine B9 ?_
   rw [Qi hM h3 h4]
   refine Ah A0 rfl rfl ?_
   exact C1
  ·have h4:(D6 (Bv x (Az x w (Bc x w))) (Bi x w)).2=true:=by simpa using h4
   repeat refine B9 ?_
   (repeat refine An ?_)
   refine Bj (j:=(Az x w (Bc x w))) A0 rfl rfl rfl rfl rfl rfl rfl rfl (Bu (x.links.set (Az x w (Bc x w)).toNat (D6 (Bv x (Az x w (Bc x w))) (Bi x w)).1)) (Cz hlk rfl) (Ae ?_)
   first|(refine Ak 7 rfl [0,1,2,3,4,5,6,7] A5 (Ae ?_))|(refine Ak 10 rfl [0,1,2,3,4,5,6,7,8,9,10,11,12] A5 (Ae ?_))|(refine Ak 14 rfl [0,1,2,3,4,5,6,7,8,9] A5 (Ae ?_))
   refine Av (A00 (E4 (Ag x w)) (Bi x w).stamp.epoch Ad hWP.2.2.2.1) rfl (Ae ?_)
   (repeat refine An ?_)
   refine Bj (j:=w) A0 rfl rfl rfl rfl rfl rfl rfl rfl (Ap (x.workers.set w.toNat (Hn (E4 (Ag x w)) (Bi x w).stamp.epoch))) (Cz hk rfl) (Ae ?_)
   rw [Qj hM h3 h4]
   refine Ah A0 rfl rfl ?_
   exact C1
theorem Ke {c:A4}{f t:Int}(h:¬ Kh c f t):Dt c f t=(c,false):=if_neg fun p=>h p.1
theorem Qk {c:A4}{f t:Int}(h:(C6 (Bv c (Az c f t))).2.2=false):Dt c f t=(c,false):=if_neg fun p=>by rw [p.2] at h;cases h
theorem Se {c:A4}{f t:Int}(h:Kh c f t)(h1:(C6 (Bv c (Az c f t))).2.2=true):Dt c f t=(C0 (Df c (Az c f t) (C6 (Bv c (Az c f t))).1) t (H9 (Ag c t) (C6 (Bv c (Az c f t))).2.1),true):=if_pos ⟨h,h1⟩
theorem I8 {c:A4}{f t:Int}(h:¬ Kh c f t):E9 c f t=(c,false):=if_neg h
theorem Pb {c:A4}{f t:Int}(h:Kh c f t):E9 c f t=(Df c (Az c f t) (Dw (Bv c (Az c f t))).1,(Dw (Bv c (Az c f t))).2):=if_pos h
def Ju (c:A4) (f t:Int):Int:=if Kh c f t then Az c f t else-1
theorem Ws {c:A4}{f t:Int}(hC:Bg c)(hne:f≠t):Gq c.graph.workers f t=Ju c f t:=by
 unfold Ju
 by_cases h:Kh c f t
 ·rw [if_pos h,Mm hC.1.1.2.1 h.2.2.1 h.2.2.2]
  rfl
 ·rw [if_neg h,A07 (fun p=>h ⟨hC,hne,p⟩)]
theorem Wl (x:A4)(f t:Int)(h:x.w≤16000000)(hgo:Jl x):Aq Tryz.prog 208 [.agg x.c,.one (vi f),.one (vi t)] [.one (vi (Ju x f t))]:=by
 refine Aj A0 false Tryz.func208 rfl Bs fun W=>?_
 conv=>whnf
 refine Ai (K1 x Ad hgo) rfl (Ae ?_)
 refine ⟨fun h1=>?_,fun h1=>?_⟩<;>conv=>whnf
 ·have h1:¬ Bg x:=of_decide_eq_false (by simpa [B8] using h1)
  repeat refine B9 ?_
  rw [Ju,if_neg (fun p=>h1 p.1)]
  refine Ah A0 rfl rfl ?_
  exact C1
 have h1:Bg x:=of_decide_eq_true (show B8 x=true by simpa using h1)
 repeat refine B9 ?_
 refine ⟨fun h2=>have h2:=eq_of_beq h2;?_,fun h2=>have h2:=beq_eq_false_iff_ne.1 h2;?_⟩<;>conv=>whnf
 ·repeat refine B9 ?_
  rw [Ju,if_neg (fun p=>p.2.1 h2)]
  refine Ah A0 rfl rfl ?_
  exact C1
 repeat refine B9 ?_
 refine Ai (Qc x.graph f t) rfl (Ae ?_)
 rw [Ws h1 h2]
 refine Ah A0 rfl rfl ?_
 exact C1
set_option maxHeartbeats 4000000 in
theorem Wn (x:A4)(f t:Int)(h:x.w≤16000000)(hgo:Jl x):Aq Tryz.prog 161 [.agg x.c,.one (vi f),.one (vi t)] [.agg (E9 x f t).1.c,.one (vb (E9 x f t).2)]:=by
 refine Aj A0 false Tryz.func161 rfl Bs fun W=>?_
 conv=>whnf
 refine Av (Ea x Ad) rfl (Ae ?_)
 refine Ai (Wl x f t h hgo) rfl (Ae ?_)
 cases hL:decide (Kh x f t)
 ·have hL:¬ Kh x f t:=of_decide_eq_false hL
  rw [Ju,if_neg hL]
  repeat refine B9 ?_
  rw [I8 hL]
  refine Ah A0 rfl rfl ?_
  exact C1
 have hL:Kh x f t:=of_decide_eq_true hL
 have hC:=hL.1
 have hln:=L7 hC hL.2.2.1 hL.2.2.2
 have hlk:(Az x f t).toNat<x.links.length:=by omega
 have hlw:=A4.link_le h hlk
 have hog:=hgo _ (B2 (d:=default) hlk)
 rw [Ju,if_pos hL]
 refine F7 B0u ?_
 conv=>whnf
 (repeat refine An ?_)
 refine Av (We (Bv x (Az x f t)) (by show (x.links.getD _ default).w≤_;omega) hog) rfl (Ae ?_)
 (repeat refine An ?_)
 refine Bj (j:=(Az x f t)) A0 rfl rfl rfl rfl rfl rfl rfl rfl (Bu (x.links.set (Az x f t).toNat (Dw (Bv x (Az x f t))).1)) (Cz hlk rfl) (Ae ?_)
 rw [Pb hL]
 refine Ah A0 rfl rfl ?_
 exact C1
set_option maxHeartbeats 4000000 in
theorem A0x (x:A4)(f t:Int)(h:x.w≤8000000)(hgo:Jl x):Aq Tryz.prog 160 [.agg x.c,.one (vi f),.one (vi t)] [.agg (Dt x f t).1.c,.one (vb (Dt x f t).2)]:=by
 have h8:=h
 have h:x.w≤16000000:=by omega
 refine Aj A0 false Tryz.func160 rfl Bs fun W=>?_
 conv=>whnf
 refine Av (Ea x Ad) rfl (Ae ?_)
 refine Ai (Wl x f t h hgo) rfl (Ae ?_)
 cases hL:decide (Kh x f t)
 ·have hL:¬ Kh x f t:=of_decide_eq_false hL
  rw [Ju,if_neg hL]
  repeat refine B9 ?_
  rw [Ke hL]
  refine Ah A0 rfl rfl ?_
  exact C1
 have hL:Kh x f t:=of_decide_eq_true hL
 have hC:=hL.1
 have hln:=L7 hC hL.2.2.1 hL.2.2.2
 have hlk:(Az x f t).toNat<x.links.length:=by omega
 have hlw:=A4.link_le h hlk
 have hog:=hgo _ (B2 (d:=default) hlk)
 rw [Ju,if_pos hL]
 refine F7 B0u ?_
 conv=>whnf
 (repeat refine An ?_)
 refine Av (A02 (Bv x (Az x f t)) (by show (x.links.getD _ default).w≤_;omega) hog) rfl (Ae ?_)
 refine ⟨fun h4=>?_,fun h4=>?_⟩<;>conv=>whnf
 ·have h4:(C6 (Bv x (Az x f t))).2.2=false:=by simpa using h4
  repeat refine B9 ?_
  rw [Qk h4]
  refine Ah A0 rfl rfl ?_
  exact C1
 have h4:(C6 (Bv x (Az x f t))).2.2=true:=by simpa using h4
 have hT:0<(Bv x (Az x f t)).queue.length:=by
  rcases Nat.eq_zero_or_pos (Bv x (Az x f t)).queue.length with e|e
  ·rw [Q5 (fun p=>by omega)] at h4;cases h4
  ·exact e
 have hLA:=hC.2.2.1 _ hlk
 have hLP:Gd (Bv x (Az x f t)):=hLA.1
 have hrec:(C6 (Bv x (Az x f t))).2.1=(Bv x (Az x f t)).queue.getD 0 default:=by rw [Sk ⟨hLP,hT⟩]
 have hRP:Gx (C6 (Bv x (Az x f t))).2.1:=by rw [hrec];exact hLP.2 _ (B2 hT)
 have hb:=hL.2.2.2
 have hwl:=hC.1.2.1
 have hk:t.toNat<x.workers.length:=by omega
 have hw:=A4.worker_le h8 hk
 have hWP:=hC.2.1 _ (B2 (d:=default) hk)
 repeat refine B9 ?_
 (repeat refine An ?_)
 refine Bj (j:=(Az x f t)) A0 rfl rfl rfl rfl rfl rfl rfl rfl (Bu (x.links.set (Az x f t).toNat (C6 (Bv x (Az x f t))).1)) (Cz hlk rfl) (Ae ?_)
 first|(refine Ak 9 rfl [0,1,2,3,4,5,6,7,8,9,10,11] A5 (Ae ?_))
 (repeat refine An ?_)
 refine Av (A0z (Ag x t) (C6 (Bv x (Az x f t))).2.1 (by show (x.workers.getD _ default).w≤_;omega) hWP.2.2.2.1 hWP.2.1.1 hWP.2.1.2.1 hRP.2.1) rfl (Ae ?_)
 (repeat refine An ?_)
 refine Bj (j:=t) A0 rfl rfl rfl rfl rfl rfl rfl rfl (Ap (x.workers.set t.toNat (H9 (Ag x t) (C6 (Bv x (Az x f t))).2.1))) (Cz hk rfl) (Ae ?_)
 rw [Se hL h4]
 refine Ah A0 rfl rfl ?_
 exact C1
end Go.Proofs.YtlbmkgkmbjadcaaGreat
