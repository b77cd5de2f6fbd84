/- Part 18 of the proof that each of the laws FnSpread returns true for every input. No conditions. -/
import Derived.Test.YtdendlkeiaccpaaGreatQ17
import Derived.Test.YtdendlkeiaccpaaGreatQ15
import Derived.Test.YtdendlkeiaccpaaGreatQ9
import Derived.Test.YtdendlkeiaccpaaGreatQ8
import Derived.Test.YtdendlkeiaccpaaGreatQ7
import Derived.Test.YtdendlkeiaccpaaGreatQ5

set_option linter.unusedSimpArgs false
set_option linter.unusedVariables false
set_option maxRecDepth 100000
namespace Go.Proofs.YtdendlkeiaccpaaGreat
open Go.Sx
theorem O9 {w f t:Int}(hw:1≤w∧w≤4)(hf:0≤f∧f<w)(ht:0≤t∧t<w):Hn w f t=f * w+t:=by
 unfold Hn;rw [if_pos Ad];have e:w=1∨w=2∨w=3∨w=4:=by omega
 rcases e with rfl|rfl|rfl|rfl<;>rw [Ix (k:= .i64) (n:=f * _) (by show _∧_;omega),Ix (by show _∧_;omega)]
theorem A58 {w f t:Int}(h:¬ ((0≤f∧f<w)∧(0≤t∧t<w))):Hn w f t= -1:=by
 unfold Hn;rw [if_neg Ad]
theorem Mn {c:A3}{f t:Int}(h:B7 c)(hf:0≤f∧f<c.graph.workers)(ht:0≤t∧t<c.graph.workers):0≤Ao c f t∧Ao c f t<c.links.length:=by
 have hl:=h.1.2.2.1;have hw:=h.1.1.2.1
 clear h
 unfold Ao;generalize c.graph.workers=n at *;have e:n=1∨n=2∨n=3∨n=4:=by omega
 rcases e with rfl|rfl|rfl|rfl<;>omega
theorem O7 (x:A3)(w:Int)(h:x.w≤16000000)(hgo:Kw x):B3 Tryz.prog 221 [.agg x.c,.one (vi w)] [.one (vb (decide (Gm x w)))]:=by
 have hl:=A3.workers_le h;refine Aw A0 false Tryz.func221 rfl B5 fun W=>?_;conv=>whnf
 refine As (Li x Ad hgo) rfl (A7 ?_);refine ⟨fun h1=>?_,fun h1=>?_⟩<;>conv=>whnf
 ·repeat refine B2 ?_
  (repeat refine Ap ?_);refine As (Ik w 0 (x.workers.length-1)) rfl (A7 ?_)
  repeat refine B2 ?_
  exact Am A0 rfl rfl ⟨congrArg vb (by rw [Bool.eq_iff_iff,Go.Sx.Al,decide_eq_true_eq];exact ⟨fun p=>⟨p.2.1,by have:=p.2.2;omega⟩,fun p=>⟨of_decide_eq_true h1,by omega,by omega⟩⟩),trivial⟩
 repeat refine B2 ?_
 exact Am A0 rfl rfl ⟨congrArg vb (decide_eq_false fun p=>absurd p.1 (of_decide_eq_false h1)),trivial⟩
theorem Y1 {c:A3}{w:Int}(h:¬ Gm c w):Dk c w=(c,false):=if_neg h
theorem Q3 {c:A3}{w:Int}(h:Gm c w):Dk c w=(Av c w (Fi c.graph (A8 c w)).1,(Fi c.graph (A8 c w)).2):=if_pos h
theorem Vj {c:A3}{w:Int}(h:¬ Gm c w):D9 c w=(c,false):=if_neg h
theorem Oa {c:A3}{w:Int}(h:Gm c w):D9 c w=(Av c w (Df c.graph (A8 c w)).1,(Df c.graph (A8 c w)).2):=if_pos h
set_option maxHeartbeats 2000000 in
theorem A5x (x:A3)(w:Int)(h:x.w≤16000000)(hgo:Kw x):B3 Tryz.prog 201 [.agg x.c,.one (vi w)] [.agg (Dk x w).1.c,.one (vb (Dk x w).2)]:=by
 refine Aw A0 false Tryz.func201 rfl B5 fun W=>?_;conv=>whnf
 refine Bd (Ew x Ad) rfl (A7 ?_);refine As (O7 x w h hgo) rfl (A7 ?_);refine ⟨fun h1=>?_,fun h1=>?_⟩<;>conv=>whnf
 ·have h1:¬ Gm x w:=of_decide_eq_false (by simpa using h1)
  repeat refine B2 ?_
  rw [Y1 h1];refine Am A0 rfl rfl ?_;exact B0
 have h1:Gm x w:=of_decide_eq_true (show decide (Gm x w)=true by simpa using h1)
 have hC:=h1.1;have hb:=h1.2;have hk:w.toNat<x.workers.length:=by omega
 have hw:=A3.worker_le h hk;have hg:=Pt h;have hWP:=hC.2.1 _ (At (d:=default) hk);have hww:(A8 x w).w≤16000000:=by show (x.workers.getD w.toNat default).w≤_;omega
 repeat refine B2 ?_
 refine H0 rfl ?_;refine Bp A0 false 0 rfl rfl A6 rfl (A4 Br) ?_;refine Bp A0 false 2 rfl rfl A6 rfl (A4 Br) ?_;refine Bp A0 false 4 rfl rfl A6 rfl (A4 Br) ?_;refine Cl (s':=?_) 1 rfl A6 ?_ ?_;rotate_left;refine A7 ?_;(repeat refine Ap ?_);exact B6
 refine Cl (s':=?_) 3 rfl A6 ?_ ?_;rotate_left;refine A7 ?_;(repeat refine Ap ?_);exact B6
 refine Cl (s':=?_) 5 rfl A6 ?_ ?_;rotate_left;refine A7 ?_;(repeat refine Ap ?_);exact B6
 refine Cl (s':=?_) 6 rfl A6 ?_ ?_;rotate_left;refine A7 ?_;(repeat refine Ap ?_);exact B6
 refine Dp [7,11] A6 ⟨?_,?_,trivial⟩
 focus
  refine A7 ?_;refine Bd (A1a x.graph (A8 x w) Ad hww) rfl (A7 ?_);refine Dq ?_;refine Bp A0 false 8 rfl rfl A6 rfl (A4 Br) ?_;refine Kx (s':=?_) 9 rfl A6 ?_ ?_;rotate_left;refine A7 ?_;(repeat refine Ap ?_);exact B6
  refine Kx (s':=?_) 10 rfl A6 ?_ ?_;rotate_left;refine A7 ?_;(repeat refine Ap ?_);exact B6
  refine Dp [11] A6 ⟨?_,trivial⟩;refine A7 ?_;(repeat refine Ap ?_);refine Dq ?_
 rotate_left 1
 focus
  refine A7 ?_;(repeat refine Ap ?_);refine Dq ?_;refine Dp [7] A6 ⟨?_,trivial⟩;refine A7 ?_;refine Bd (A1a x.graph (A8 x w) Ad hww) rfl (A7 ?_);refine Dq ?_;refine Bp A0 false 8 rfl rfl A6 rfl (A4 Br) ?_;refine Kx (s':=?_) 9 rfl A6 ?_ ?_;rotate_left;refine A7 ?_;(repeat refine Ap ?_);exact B6
  refine Kx (s':=?_) 10 rfl A6 ?_ ?_;rotate_left;refine A7 ?_;(repeat refine Ap ?_);exact B6
 all_goals
  refine Dp [12] A6 ⟨?_,trivial⟩;refine A7 ?_;(repeat refine Ap ?_);refine Dq ?_;refine Bp A0 false 13 rfl rfl A6 rfl (A4 Br) ?_;refine Qk A6 (A7 ?_)
 all_goals
  (repeat refine Ap ?_);refine Bv (j:=w) A0 rfl rfl rfl rfl rfl rfl rfl rfl (Ar (x.workers.set w.toNat (Fi x.graph (A8 x w)).1)) (Ck hk rfl) (A7 ?_);rw [Q3 h1];refine Am A0 rfl rfl ?_;exact B0
set_option maxHeartbeats 2000000 in
theorem A23 (x:A3)(w:Int)(h:x.w≤16000000)(hgo:Kw x):B3 Tryz.prog 202 [.agg x.c,.one (vi w)] [.agg (D9 x w).1.c,.one (vb (D9 x w).2)]:=by
 refine Aw A0 false Tryz.func202 rfl B5 fun W=>?_;conv=>whnf
 refine Bd (Ew x Ad) rfl (A7 ?_);refine As (O7 x w h hgo) rfl (A7 ?_);refine ⟨fun h1=>?_,fun h1=>?_⟩<;>conv=>whnf
 ·have h1:¬ Gm x w:=of_decide_eq_false (by simpa using h1)
  repeat refine B2 ?_
  rw [Vj h1];refine Am A0 rfl rfl ?_;exact B0
 have h1:Gm x w:=of_decide_eq_true (show decide (Gm x w)=true by simpa using h1)
 have hC:=h1.1;have hb:=h1.2;have hk:w.toNat<x.workers.length:=by omega
 have hw:=A3.worker_le h hk;have hg:=Pt h;have hWP:=hC.2.1 _ (At (d:=default) hk);have hww:(A8 x w).w≤16000000:=by show (x.workers.getD w.toNat default).w≤_;omega
 repeat refine B2 ?_
 refine H0 rfl ?_;refine Bp A0 false 0 rfl rfl A6 rfl (A4 Br) ?_;refine Bp A0 false 2 rfl rfl A6 rfl (A4 Br) ?_;refine Bp A0 false 4 rfl rfl A6 rfl (A4 Br) ?_;refine Cl (s':=?_) 1 rfl A6 ?_ ?_;rotate_left;refine A7 ?_;(repeat refine Ap ?_);exact B6
 refine Cl (s':=?_) 3 rfl A6 ?_ ?_;rotate_left;refine A7 ?_;(repeat refine Ap ?_);exact B6
 refine Cl (s':=?_) 5 rfl A6 ?_ ?_;rotate_left;refine A7 ?_;(repeat refine Ap ?_);exact B6
 refine Cl (s':=?_) 6 rfl A6 ?_ ?_;rotate_left;refine A7 ?_;(repeat refine Ap ?_);exact B6
 refine Dp [7,11] A6 ⟨?_,?_,trivial⟩
 focus
  refine A7 ?_;refine Bd (Sw x.graph (A8 x w) Ad hww) rfl (A7 ?_);refine Dq ?_;refine Bp A0 false 8 rfl rfl A6 rfl (A4 Br) ?_;refine Kx (s':=?_) 9 rfl A6 ?_ ?_;rotate_left;refine A7 ?_;(repeat refine Ap ?_);exact B6
  refine Kx (s':=?_) 10 rfl A6 ?_ ?_;rotate_left;refine A7 ?_;(repeat refine Ap ?_);exact B6
  refine Dp [11] A6 ⟨?_,trivial⟩;refine A7 ?_;(repeat refine Ap ?_);refine Dq ?_
 rotate_left 1
 focus
  refine A7 ?_;(repeat refine Ap ?_);refine Dq ?_;refine Dp [7] A6 ⟨?_,trivial⟩;refine A7 ?_;refine Bd (Sw x.graph (A8 x w) Ad hww) rfl (A7 ?_);refine Dq ?_;refine Bp A0 false 8 rfl rfl A6 rfl (A4 Br) ?_;refine Kx (s':=?_) 9 rfl A6 ?_ ?_;rotate_left;refine A7 ?_;(repeat refine Ap ?_);exact B6
  refine Kx (s':=?_) 10 rfl A6 ?_ ?_;rotate_left;refine A7 ?_;(repeat refine Ap ?_);exact B6
 all_goals
  refine Dp [12] A6 ⟨?_,trivial⟩;refine A7 ?_;(repeat refine Ap ?_);refine Dq ?_;refine Bp A0 false 13 rfl rfl A6 rfl (A4 Br) ?_;refine Qk A6 (A7 ?_)
 all_goals
  (repeat refine Ap ?_);refine Bv (j:=w) A0 rfl rfl rfl rfl rfl rfl rfl rfl (Ar (x.workers.set w.toNat (Df x.graph (A8 x w)).1)) (Ck hk rfl) (A7 ?_);rw [Oa h1];refine Am A0 rfl rfl ?_;exact B0
theorem O0 {c:A3}{w:Int}(h:¬ (Gm c w∧0<(A8 c w).staged.length)):C7 c w=(c,false):=if_neg h
theorem Vk {c:A3}{w:Int}(h:Gm c w∧0<(A8 c w).staged.length)(h1:B8 c w=w):C7 c w=(Av c w (kept (Cd (A8 c w)) (B1 c w)),true):=by
 unfold C7;rw [if_pos h,if_pos h1]
theorem T4 {c:A3}{w:Int}(h:Gm c w∧0<(A8 c w).staged.length)(h1:B8 c w≠w)(h2:(Cf (Ba c (Ao c w (B8 c w))) (B1 c w)).2=false):C7 c w=(c,false):=by
 unfold C7;rw [if_pos h,if_neg h1,if_neg (by rw [h2];decide)]
theorem T5 {c:A3}{w:Int}(h:Gm c w∧0<(A8 c w).staged.length)(h1:B8 c w≠w)(h2:(Cf (Ba c (Ao c w (B8 c w))) (B1 c w)).2=true):C7 c w=(Av (Bi c (Ao c w (B8 c w)) (Cf (Ba c (Ao c w (B8 c w))) (B1 c w)).1) w (E5 (Cd (A8 c w)) (B1 c w).stamp.epoch),true):=by
 unfold C7;rw [if_pos h,if_neg h1,if_pos h2]
theorem A83 {k n:Int}(hk:0≤k)(hn:1≤n):0≤Bn k n∧Bn k n<n:=by
 have h1:=Int.tmod_lt_of_pos k (show 0<n by omega)
 have h2:=Int.tmod_nonneg n hk;unfold Bn
 (repeat' split)<;>omega
theorem B6h (x:Ab):(Cd x).w≤x.w:=by
 simp only [Ab.w,Cd,List.length_drop];omega
set_option maxHeartbeats 4000000 in
theorem A5v (x:A3)(w:Int)(h:x.w≤8000000)(hgo:Kw x):B3 Tryz.prog 203 [.agg x.c,.one (vi w)] [.agg (C7 x w).1.c,.one (vb (C7 x w).2)]:=by
 have h:x.w≤16000000:=by omega
 refine Aw A0 false Tryz.func203 rfl B5 fun W=>?_;conv=>whnf
 refine Bd (Ew x Ad) rfl (A7 ?_);refine As (O7 x w h hgo) rfl (A7 ?_);refine ⟨fun h1=>?_,fun h1=>?_⟩<;>conv=>whnf
 ·have h1:¬ Gm x w:=of_decide_eq_false (by simpa using h1)
  repeat refine B2 ?_
  rw [(fun q=>O0 (fun p=>q p.1)) h1];refine Am A0 rfl rfl ?_;exact B0
 have h1:Gm x w:=of_decide_eq_true (show decide (Gm x w)=true by simpa using h1)
 have hC:=h1.1;have hb:=h1.2;have hk:w.toNat<x.workers.length:=by omega
 have hw:=A3.worker_le h hk;have hg:=Pt h;have hWP:=hC.2.1 _ (At (d:=default) hk);have hww:(A8 x w).w≤16000000:=by show (x.workers.getD w.toNat default).w≤_;omega
 repeat refine B2 ?_
 refine ⟨fun h2=>have h2:=eq_of_beq h2;?_,fun h2=>have h2:=beq_eq_false_iff_ne.1 h2;?_⟩<;>conv=>whnf
 ·repeat refine B2 ?_
  rw [O0 (fun p=>by have:=p.2;simp only [A8] at this;omega)];refine Am A0 rfl rfl ?_;exact B0
 have h2:0<(A8 x w).staged.length:=by simp only [A8];omega
 have hM:Gm x w∧0<(A8 x w).staged.length:=⟨h1,h2⟩;have hR:H2 (B1 x w)∧(B1 x w).op<x.graph.nodes.length:=hWP.1.2.1 _ (At (d:=default) h2);have hgw:=hC.1.1.2.1;have how:=A83 (k:=(B1 x w).key) (n:=x.graph.workers) hR.1.2.2.2.1.1 hgw.1;have hwl:=hC.1.2.1;have huw:=B6h (A8 x w)
 repeat refine B2 ?_
 refine Bd (A52 (A8 x w) hww) rfl (A7 ?_);rw [W7 h2];refine As (Nx (B1 x w).key x.graph.workers Ad) rfl (A7 ?_);refine ⟨fun h3=>have h3:=eq_of_beq h3;?_,fun h3=>have h3:=beq_eq_false_iff_ne.1 h3;?_⟩<;>conv=>whnf
 ·have h3:B8 x w=w:=h3
  first|(refine Ax 7 rfl [0,1,2,3,4,5,6,7] A6 (A7 ?_))|(refine Ax 10 rfl [0,1,2,3,4,5,6,7,8,9,10,11,12] A6 (A7 ?_))|(refine Ax 14 rfl [0,1,2,3,4,5,6,7,8,9] A6 (A7 ?_))
  refine Bd (A8g (Cd (A8 x w)) (B1 x w) Ad) rfl (A7 ?_);(repeat refine Ap ?_);refine Bv (j:=w) A0 rfl rfl rfl rfl rfl rfl rfl rfl (Ar (x.workers.set w.toNat (kept (Cd (A8 x w)) (B1 x w)))) (Ck hk rfl) (A7 ?_);rw [Vk hM h3];refine Am A0 rfl rfl ?_;exact B0
 have h3:B8 x w≠w:=h3;have hmt:0≤B8 x w∧B8 x w<x.graph.workers:=how;have hln:=Mn hC (f:=w) (t:=B8 x w) Ad hmt;have hlk:(Ao x w (B8 x w)).toNat<x.links.length:=by omega
 have hlw:=A3.link_le h hlk;have hlp:Hn x.graph.workers w (Bn (B1 x w).key x.graph.workers)=Ao x w (B8 x w):=O9 hgw Ad hmt;refine As (Sv x.graph w (Bn (B1 x w).key x.graph.workers)) rfl (A7 ?_);rw [hlp];refine H0 rfl ?_;refine Bp A0 false 0 rfl rfl A6 rfl (A4 Br) ?_;refine Bp A0 false 2 rfl rfl A6 rfl (A4 Br) ?_;refine Cl (s':=?_) 1 rfl A6 ?_ ?_;rotate_left;refine A7 ?_;(repeat refine Ap ?_);exact B6
 refine Cl (s':=?_) 3 rfl A6 ?_ ?_;rotate_left;refine A7 ?_;(repeat refine Ap ?_);exact B6
 refine Cl (s':=?_) 4 rfl A6 ?_ ?_;rotate_left;refine A7 ?_;(repeat refine Ap ?_);exact B6
 refine Cl (s':=?_) 5 rfl A6 ?_ ?_;rotate_left;refine A7 ?_;(repeat refine Ap ?_);exact B6
 refine Dp [6,10] A6 ⟨?_,?_,trivial⟩
 focus
  refine A7 ?_;refine Bd (A09 (Ba x (Ao x w (B8 x w))) (B1 x w) (by show (x.links.getD _ default).w≤_;omega) (hgo _ (At (d:=default) hlk))) rfl (A7 ?_)
  refine Dq ?_;refine Bp A0 false 7 rfl rfl A6 rfl (A4 Br) ?_;refine Kx (s':=?_) 8 rfl A6 ?_ ?_;rotate_left;refine A7 ?_;(repeat refine Ap ?_);exact B6
  refine Kx (s':=?_) 9 rfl A6 ?_ ?_;rotate_left;refine A7 ?_;(repeat refine Ap ?_);exact B6
  refine Dp [10] A6 ⟨?_,trivial⟩;refine A7 ?_;(repeat refine Ap ?_);refine Dq ?_
 rotate_left 1
 focus
  refine A7 ?_;(repeat refine Ap ?_);refine Dq ?_;refine Dp [6] A6 ⟨?_,trivial⟩;refine A7 ?_;refine Bd (A09 (Ba x (Ao x w (B8 x w))) (B1 x w) (by show (x.links.getD _ default).w≤_;omega) (hgo _ (At (d:=default) hlk))) rfl (A7 ?_)
  refine Dq ?_;refine Bp A0 false 7 rfl rfl A6 rfl (A4 Br) ?_;refine Kx (s':=?_) 8 rfl A6 ?_ ?_;rotate_left;refine A7 ?_;(repeat refine Ap ?_);exact B6
  refine Kx (s':=?_) 9 rfl A6 ?_ ?_;rotate_left;refine A7 ?_;(repeat refine Ap ?_);exact B6
 all_goals
  refine Dp [11] A6 ⟨?_,trivial⟩;refine A7 ?_;(repeat refine Ap ?_);refine Dq ?_;refine Bp A0 false 12 rfl rfl A6 rfl (A4 Br) ?_;refine Qk A6 (A7 ?_)
 all_goals
  refine ⟨fun h4=>?_,fun h4=>?_⟩<;>conv=>whnf
  ·have h4:(Cf (Ba x (Ao x w (B8 x w))) (B1 x w)).2=false:=by simpa using h4
   repeat refine B2 ?_
   rw [T4 hM h3 h4];refine Am A0 rfl rfl ?_;exact B0
  have h4:(Cf (Ba x (Ao x w (B8 x w))) (B1 x w)).2=true:=by simpa using h4
  repeat refine B2 ?_
  refine Bv (j:=(Ao x w (B8 x w))) A0 rfl rfl rfl rfl rfl rfl rfl rfl (C4 (x.links.set (Ao x w (B8 x w)).toNat (Cf (Ba x (Ao x w (B8 x w))) (B1 x w)).1)) (Ck hlk rfl) (A7 ?_)
  first|(refine Ax 7 rfl [0,1,2,3,4,5,6,7] A6 (A7 ?_))|(refine Ax 10 rfl [0,1,2,3,4,5,6,7,8,9,10,11,12] A6 (A7 ?_))|(refine Ax 14 rfl [0,1,2,3,4,5,6,7,8,9] A6 (A7 ?_))
  refine Bd (A5z (Cd (A8 x w)) (B1 x w).stamp.epoch Ad hWP.2.2.2.1) rfl (A7 ?_);(repeat refine Ap ?_);refine Bv (j:=w) A0 rfl rfl rfl rfl rfl rfl rfl rfl (Ar (x.workers.set w.toNat (E5 (Cd (A8 x w)) (B1 x w).stamp.epoch))) (Ck hk rfl) (A7 ?_);rw [T5 hM h3 h4];refine Am A0 rfl rfl ?_;exact B0
theorem M0 {c:A3}{f t:Int}(h:¬ L0 c f t):Ct c f t=(c,false):=if_neg fun p=>h p.1
theorem T6 {c:A3}{f t:Int}(h:(Bc (Ba c (Ao c f t))).2.2=false):Ct c f t=(c,false):=if_neg fun p=>by rw [p.2] at h;cases h
theorem Vl {c:A3}{f t:Int}(h:L0 c f t)(h1:(Bc (Ba c (Ao c f t))).2.2=true):Ct c f t=(Av (Bi c (Ao c f t) (Bc (Ba c (Ao c f t))).1) t (D0 (A8 c t) (Bc (Ba c (Ao c f t))).2.1),true):=if_pos ⟨h,h1⟩
theorem Jg {c:A3}{f t:Int}(h:¬ L0 c f t):D4 c f t=(c,false):=if_neg h
theorem Rh {c:A3}{f t:Int}(h:L0 c f t):D4 c f t=(Bi c (Ao c f t) (Ce (Ba c (Ao c f t))).1,(Ce (Ba c (Ao c f t))).2):=if_pos h
def Lb (c:A3) (f t:Int):Int:=if L0 c f t then Ao c f t else-1
theorem A1h {c:A3}{f t:Int}(hC:B7 c)(hne:f≠t):Hn c.graph.workers f t=Lb c f t:=by
 unfold Lb
 by_cases h:L0 c f t
 ·rw [if_pos h,O9 hC.1.1.2.1 h.2.2.1 h.2.2.2]
  rfl
 rw [if_neg h,A58 (fun p=>h ⟨hC,hne,p⟩)]
theorem A05 (x:A3)(f t:Int)(h:x.w≤16000000)(hgo:Kw x):B3 Tryz.prog 229 [.agg x.c,.one (vi f),.one (vi t)] [.one (vi (Lb x f t))]:=by
 refine Aw A0 false Tryz.func229 rfl B5 fun W=>?_;conv=>whnf
 refine As (Li x Ad hgo) rfl (A7 ?_);refine ⟨fun h1=>?_,fun h1=>?_⟩<;>conv=>whnf
 ·have h1:¬ B7 x:=of_decide_eq_false (by simpa [Bf] using h1)
  repeat refine B2 ?_
  rw [Lb,if_neg (fun p=>h1 p.1)];refine Am A0 rfl rfl ?_;exact B0
 have h1:B7 x:=of_decide_eq_true (show Bf x=true by simpa using h1)
 repeat refine B2 ?_
 refine ⟨fun h2=>have h2:=eq_of_beq h2;?_,fun h2=>have h2:=beq_eq_false_iff_ne.1 h2;?_⟩<;>conv=>whnf
 ·repeat refine B2 ?_
  rw [Lb,if_neg (fun p=>p.2.1 h2)];refine Am A0 rfl rfl ?_;exact B0
 repeat refine B2 ?_
 refine As (Sv x.graph f t) rfl (A7 ?_);rw [A1h h1 h2];refine Am A0 rfl rfl ?_;exact B0
set_option maxHeartbeats 4000000 in
theorem A07 (x:A3)(f t:Int)(h:x.w≤16000000)(hgo:Kw x):B3 Tryz.prog 205 [.agg x.c,.one (vi f),.one (vi t)] [.agg (D4 x f t).1.c,.one (vb (D4 x f t).2)]:=by
 refine Aw A0 false Tryz.func205 rfl B5 fun W=>?_;conv=>whnf
 refine Bd (Ew x Ad) rfl (A7 ?_);refine As (A05 x f t h hgo) rfl (A7 ?_)
 cases hL:decide (L0 x f t)
 ·have hL:¬ L0 x f t:=of_decide_eq_false hL
  rw [Lb,if_neg hL]
  repeat refine B2 ?_
  rw [Jg hL];refine Am A0 rfl rfl ?_;exact B0
 have hL:L0 x f t:=of_decide_eq_true hL;have hC:=hL.1;have hln:=Mn hC hL.2.2.1 hL.2.2.2;have hlk:(Ao x f t).toNat<x.links.length:=by omega
 have hlw:=A3.link_le h hlk;have hog:=hgo _ (At (d:=default) hlk);rw [Lb,if_pos hL];refine A1c B6x ?_;conv=>whnf
 (repeat refine Ap ?_);refine Bd (A0z (Ba x (Ao x f t)) (by show (x.links.getD _ default).w≤_;omega) hog) rfl (A7 ?_)
 (repeat refine Ap ?_);refine Bv (j:=(Ao x f t)) A0 rfl rfl rfl rfl rfl rfl rfl rfl (C4 (x.links.set (Ao x f t).toNat (Ce (Ba x (Ao x f t))).1)) (Ck hlk rfl) (A7 ?_);rw [Rh hL];refine Am A0 rfl rfl ?_;exact B0
set_option maxHeartbeats 4000000 in
theorem A5w (x:A3)(f t:Int)(h:x.w≤8000000)(hgo:Kw x):B3 Tryz.prog 204 [.agg x.c,.one (vi f),.one (vi t)] [.agg (Ct x f t).1.c,.one (vb (Ct x f t).2)]:=by
 have h8:=h;have h:x.w≤16000000:=by omega
 refine Aw A0 false Tryz.func204 rfl B5 fun W=>?_;conv=>whnf
 refine Bd (Ew x Ad) rfl (A7 ?_);refine As (A05 x f t h hgo) rfl (A7 ?_)
 cases hL:decide (L0 x f t)
 ·have hL:¬ L0 x f t:=of_decide_eq_false hL
  rw [Lb,if_neg hL]
  repeat refine B2 ?_
  rw [M0 hL];refine Am A0 rfl rfl ?_;exact B0
 have hL:L0 x f t:=of_decide_eq_true hL;have hC:=hL.1;have hln:=Mn hC hL.2.2.1 hL.2.2.2;have hlk:(Ao x f t).toNat<x.links.length:=by omega
 have hlw:=A3.link_le h hlk;have hog:=hgo _ (At (d:=default) hlk);rw [Lb,if_pos hL];refine A1c B6x ?_;conv=>whnf
 (repeat refine Ap ?_);refine Bd (A51 (Ba x (Ao x f t)) (by show (x.links.getD _ default).w≤_;omega) hog) rfl (A7 ?_)
 refine ⟨fun h4=>?_,fun h4=>?_⟩<;>conv=>whnf
 ·have h4:(Bc (Ba x (Ao x f t))).2.2=false:=by simpa using h4
  repeat refine B2 ?_
  rw [T6 h4];refine Am A0 rfl rfl ?_;exact B0
 have h4:(Bc (Ba x (Ao x f t))).2.2=true:=by simpa using h4
 have hT:0<(Ba x (Ao x f t)).queue.length:=by
  rcases Nat.eq_zero_or_pos (Ba x (Ao x f t)).queue.length with e|e
  ·rw [Sn (fun p=>by omega)] at h4;cases h4
  exact e
 have hLA:=hC.2.2.1 _ hlk;have hLP:Gn (Ba x (Ao x f t)):=hLA.1;have hrec:(Bc (Ba x (Ao x f t))).2.1=(Ba x (Ao x f t)).queue.getD 0 default:=by rw [W5 ⟨hLP,hT⟩]
 have hRP:H2 (Bc (Ba x (Ao x f t))).2.1:=by rw [hrec];exact hLP.2 _ (At hT)
 have hb:=hL.2.2.2;have hwl:=hC.1.2.1;have hk:t.toNat<x.workers.length:=by omega
 have hw:=A3.worker_le h8 hk;have hWP:=hC.2.1 _ (At (d:=default) hk)
 repeat refine B2 ?_
 refine Bv (j:=(Ao x f t)) A0 rfl rfl rfl rfl rfl rfl rfl rfl (C4 (x.links.set (Ao x f t).toNat (Bc (Ba x (Ao x f t))).1)) (Ck hlk rfl) (A7 ?_)
 first|(refine Ax 9 rfl [0,1,2,3,4,5,6,7,8,9,10,11] A6 (A7 ?_))
 (repeat refine Ap ?_);refine Bd (A5y (A8 x t) (Bc (Ba x (Ao x f t))).2.1 (by show (x.workers.getD _ default).w≤_;omega) hWP.2.2.2.1 hWP.2.1.1 hWP.2.1.2.1 hRP.2.1) rfl (A7 ?_)
 (repeat refine Ap ?_);refine Bv (j:=t) A0 rfl rfl rfl rfl rfl rfl rfl rfl (Ar (x.workers.set t.toNat (D0 (A8 x t) (Bc (Ba x (Ao x f t))).2.1))) (Ck hk rfl) (A7 ?_);rw [Vl hL h4];refine Am A0 rfl rfl ?_;exact B0
theorem B8j (xs:List Di)(hx:xs.length≤16777216)(f:Nat)(cs:List Ai)(p:Di→Bool)(hf:∀x∈xs,B3 Tryz.prog f [.agg x.c,.ptr cs] [.one (vb (p x))]):
  B3 Tryz.prog 236 [.one (Cc xs),.fn f [.ptr cs]] [.one (vi (Me p xs))]:=by
 refine Aw A0 false Tryz.func236 rfl B5 fun W=>?_;conv=>whnf
 refine Bk A0 false [] (fun k:Nat=>[(8,.c (vi k))]) (fun k=>[]) (fun k=>[])
  (fun k=>k≤xs.length∧(xs.take k).any p=false) (fun k=>xs.length-k) 0 ⟨Nat.zero_le _,by first|rfl|assumption|simp⟩ ⟨F0,trivial⟩ trivial trivial C1 A6 (fun k hk=>?_)
 obtain ⟨hk,he⟩:=hk;conv=>whnf
 refine Eo (fun h=>?_) fun h=>?_<;>conv=>whnf
 ·have h:k<xs.length:=by omega
  (repeat refine Ap ?_);refine As (hf (xs.getD k default) (At h)) rfl (A7 ?_);refine ⟨fun hc=>?_,fun hc=>?_⟩<;>conv=>whnf
  ·exact Am A0 rfl rfl ⟨congrArg vi (On p xs k he h hc),trivial⟩
  (repeat refine Ap ?_);refine Az [] (k+1) ⟨by omega,Fw he h hc⟩ Ad ⟨rfl,trivial⟩ trivial trivial A6 C1 A6
 exact Am A0 rfl rfl ⟨congrArg vi (Jp p xs (by rw [Da xs k Ad] at he;exact he)),trivial⟩
theorem C43 (w:Int)(y:Di):B3 Tryz.prog 237 [.agg y.c,.ptr [vi w]] [.one (vb (Hk w y))]:=by
 refine Aw A0 false Tryz.func237 rfl B5 fun W=>?_;conv=>whnf
 exact Am A0 rfl rfl ⟨rfl,trivial⟩
theorem Yu {c:A3}{w:Int}(h:¬ (B7 c∧c.news.any (Hk w)=true)):Dj c w=(c,false):=if_neg h
theorem A8a {c:A3}{w:Int}(h:B7 c∧c.news.any (Hk w)=true)(h1:Cv (A8 c w) (Eg c w).epoch=true):Dj c w=(Jd c w,true):=by
 unfold Dj;rw [if_pos h,if_pos h1]
theorem A79 {c:A3}{w:Int}(h:B7 c∧c.news.any (Hk w)=true)(h1:Cv (A8 c w) (Eg c w).epoch=false):Dj c w=(Av (Jd c w) w (Ef (A8 c w) ⟨(Eg c w).epoch,(Eg c w).capped⟩),true):=by
 unfold Dj;rw [if_pos h,if_neg (by rw [h1];decide)]
theorem B5i {c:A3}{w:Int}(h:c.news.any (Hk w)=true):Gf c w<c.news.length∧Me (Hk w) c.news=(Gf c w:Int)∧Hk w (Eg c w)=true:=by
 have e:Me (Hk w) c.news=(Fa (Hk w) c.news:Int):=by rw [Me,if_pos h]
 have hx:∀(l:List Di),l.any (Hk w)=true→Fa (Hk w) l<l.length∧Hk w (l.getD (Fa (Hk w) l) default)=true:=by
  intro l
  induction l with
  |nil=>intro h;simp at h
  |cons y r ih=>
   intro h
   by_cases hy:Hk w y=true
   ·simp [Fa,hy]
   have hy:Hk w y=false:=by simpa using hy
   rw [List.any_cons,hy,Bool.false_or] at h;obtain ⟨a,b⟩:=ih h;simp only [Fa,hy];exact ⟨by simpa using a,by simpa using b⟩
 exact ⟨(hx _ h).1,e,(hx _ h).2⟩
set_option maxHeartbeats 8000000 in
theorem A5s (x:A3)(w:Int)(h:x.w≤16000000)(hgo:Kw x):B3 Tryz.prog 207 [.agg x.c,.one (vi w)] [.agg (Dj x w).1.c,.one (vb (Dj x w).2)]:=by
 have hnl:=A3.news_le h;refine Aw A0 false Tryz.func207 rfl B5 fun W=>?_;conv=>whnf
 refine Bd (Ew x Ad) rfl (A7 ?_);refine As (B8j x.news Ad _ [vi w] (Hk w) (fun y _=>C43 w y)) rfl (A7 ?_)
 cases hA:x.news.any (Hk w)
 ·rw [Jp _ _ hA]
  repeat refine B2 ?_
  rw [Yu (fun p=>by rw [p.2] at hA;cases hA)];refine Am A0 rfl rfl ?_;exact B0
 obtain ⟨n1,n2,n3⟩:=B5i hA;rw [n2];refine ⟨fun hz=>?_,fun hz=>?_⟩<;>conv=>whnf
 ·have:=of_decide_eq_true hz
  omega
 repeat refine B2 ?_
 refine As (Li x Ad hgo) rfl (A7 ?_)
 repeat refine B2 ?_
 refine ⟨fun h1=>?_,fun h1=>?_⟩<;>conv=>whnf
 ·have h1:¬ B7 x:=of_decide_eq_false (by simpa [Bf] using h1)
  repeat refine B2 ?_
  rw [Yu (fun p=>h1 p.1)];refine Am A0 rfl rfl ?_;exact B0
 have hC:B7 x:=of_decide_eq_true (show Bf x=true by simpa using h1)
 have hH:B7 x∧x.news.any (Hk w)=true:=⟨hC,hA⟩;have hwn:=hC.2.2.2.2 _ (At (d:=default) n1);have hto:(Eg x w).to_=w:=by simpa [Hk] using n3
 have hwl:=hC.1.2.1
 have hwb:0≤w∧w<x.workers.length:=by
  have:=hwn.1
  have e:(x.news.getD (Gf x w) default).to_=w:=hto;omega
 have hj:w.toNat<x.workers.length:=by omega
 have hww:=A3.worker_le h hj;have hdl:(x.workers.getD w.toNat default).dones.length≤(x.workers.getD w.toNat default).w:=by simp only [Ab.w];omega
 repeat refine B2 ?_
 refine A7n [.own 7] (B05 x.news (Gf x w) n1 Ad) (fun _ _=>trivial) (fun _ h=>by cases h) B0 rfl rfl (fun i _=>go A0 false ?_);conv=>whnf
 have hE0:(x.news.getD (Gf x w) default).epoch=(Eg x w).epoch:=rfl
 first|(refine Ax 7 rfl [0,1,2,3,4,5,6,7,8] A6 (A7 ?_))|(refine Ax 8 rfl [0,1,2,3,4,5,6,7,8,9,10,11,12,13,14,15,16,17,18] A6 (A7 ?_))
 (repeat refine Ap ?_);refine As (A03 (A8 x w) (Eg x w).epoch (by show (x.workers.getD w.toNat default).w≤_;omega)) rfl (A7 ?_)
 refine ⟨fun hd=>?_,fun hd=>?_⟩<;>conv=>whnf
 ·have hd:Cv (A8 x w) (Eg x w).epoch=false:=by simpa using hd
  repeat refine B2 ?_
  refine Ty 8 3 4 rfl rfl (fun v2=>?_);refine A1l 8 3 rfl rfl (fun ho_v2=>?_);refine H0 rfl ?_;refine Bp A0 false 0 rfl rfl A6 rfl (A4 Br) ?_;refine Bp A0 false 3 rfl rfl A6 rfl (A4 Br) ?_;refine Bp A0 false 9 rfl rfl A6 rfl (A4 Br) ?_;refine Bp A0 false 11 rfl rfl A6 rfl (A4 Br) ?_;refine Cl (s':=?_) 4 rfl A6 ?_ ?_;rotate_left;refine A7 ?_;refine Gd 48 4 rfl rfl (A7 ?_);(repeat refine Ap ?_);exact B6
  refine Cl (s':=?_) 5 rfl A6 ?_ ?_;rotate_left;refine A7 ?_;(repeat refine Ap ?_);exact B6
  refine Cl (s':=?_) 6 rfl A6 ?_ ?_;rotate_left;refine A7 ?_;(repeat refine Ap ?_);exact B6
  refine Bp A0 false 7 rfl rfl A6 rfl (A4 Br) ?_;refine Rl (α:=Value) (s':=?_) 8 rfl A6 ?_ ?_;rotate_left;refine A7 ?_;refine Jq A0 rfl rfl rfl rfl rfl rfl (jn:=w.toNat) rfl rfl rfl (fun v=>go A0 false ?_);conv=>whnf
  exact Xp v
  intro v;refine Cl (s':=?_) 10 rfl A6 ?_ ?_;rotate_left;refine A7 ?_;(repeat refine Ap ?_);exact B6
  refine Cl (s':=?_) 12 rfl A6 ?_ ?_;rotate_left;refine A7 ?_;(repeat refine Ap ?_);exact B6
  refine Cl (s':=?_) 13 rfl A6 ?_ ?_;rotate_left;refine A7 ?_;(repeat refine Ap ?_);exact B6
  refine Kz [14,15,16,17,18] [⟨1,45,.rd v2⟩,⟨2,46,.rd (Value.int .i64 w)⟩] A6 ?_;refine Bl (s':=?_) A0 rfl A6 E8 ?_ ?_;rotate_left;refine A7 ?_;(repeat refine Ap ?_);exact B6
  refine Bl (s':=?_) A0 rfl A6 E8 ?_ ?_;rotate_left;refine A7 ?_;refine Bj A0 rfl rfl rfl rfl rfl rfl rfl rfl rfl rfl rfl (G1 ((x.workers.getD w.toNat default).dones++[⟨(Eg x w).epoch,(Eg x w).capped⟩])) (An rfl) C6 Ad (A7 ?_);exact B6
  refine Bl (s':=?_) A0 rfl A6 E8 ?_ ?_;rotate_left;refine A7 ?_;refine Gd 45 4 rfl rfl (A7 ?_);(repeat refine Ap ?_);exact B6
  refine Bl (s':=?_) A0 rfl A6 E8 ?_ ?_;rotate_left;refine A7 ?_;(repeat refine Ap ?_);exact B6
  refine Bl (s':=?_) A0 rfl A6 E8 ?_ ?_;rotate_left;refine A7 ?_;refine Bv (j:=w) A0 rfl rfl rfl rfl rfl rfl rfl rfl (Ar (x.workers.set w.toNat (Ef (A8 x w) ⟨(Eg x w).epoch,(Eg x w).capped⟩))) (G6 hj rfl) (A7 ?_);exact B6
  refine Jf A0 A6 E8 (GW.out (G3 ?_));conv=>whnf
  refine B52 Tryz.prog (fun _ g=>Tv 2 3 4 rfl rfl rfl g) ?_;rw [A79 hH hd];refine Am A0 rfl rfl ?_;exact B0
 have hd:Cv (A8 x w) (Eg x w).epoch=true:=by simpa using hd
 repeat refine B2 ?_
 rw [A8a hH hd];refine Am A0 rfl rfl ?_;exact B0
theorem X0 (e:Int)(b:Bool)(k:Nat):(Ip e b k).length=k:=by rw [Ip,List.length_map,List.length_range]
theorem U0 (e:Int)(b:Bool)(k:Nat):Ip e b (k+1)=Ip e b k++[⟨(k:Int)+1,e,b⟩]:=by
 rw [Ip,List.range_succ,List.map_append];rfl
set_option maxHeartbeats 4000000 in
theorem A9u (x:A3)(e:Int)(cap ok:Bool)(h:x.w≤16000000)(h0:0<x.workers.length):
  E3 Tryz.prog (fun _=>True) 188 [] (X6 x ok) [.one (vi e),.one (vb cap)] (fun _:Unit=>True) (fun _=>X6 (Jl (Av x 0 (Ef (x.workers.getD 0 default) ⟨e,cap⟩)) (Ip e cap (x.workers.length-1))) ok) (fun _=>[]):=by
 have hw:=A3.worker_le h h0;have hnl:=A3.news_le h;have hwl:=A3.workers_le h;have hdl:(x.workers.getD 0 default).dones.length≤16000000:=by simp only [Ab.w] at hw;omega
 refine Em A0 false Tryz.func188 rfl B5 fun B b hH hp=>?_;conv=>whnf
 refine Ty 0 3 2 rfl rfl (fun v2=>?_);refine A1l 0 3 rfl rfl (fun ho_v2=>?_);refine H0 rfl ?_;refine Bp A0 false 0 rfl rfl A6 rfl (A4 Br) ?_;refine Bp A0 false 1 rfl rfl A6 rfl (A4 Br) ?_;refine Bp A0 false 2 rfl rfl A6 rfl (A4 Br) ?_;refine Bp A0 false 3 rfl rfl A6 rfl (A4 Br) ?_;refine Bp A0 false 5 rfl rfl A6 rfl (A4 Br) ?_;refine Bp A0 false 6 rfl rfl A6 rfl (A4 Br) ?_;refine Bp A0 false 7 rfl rfl A6 rfl (A4 Br) ?_;refine Bp A0 false 8 rfl rfl A6 rfl (A4 Br) ?_;refine Bp A0 false 13 rfl rfl A6 rfl (A4 Br) ?_;refine Bp A0 false 14 rfl rfl A6 rfl (A4 Br) ?_;refine Cl (s':=?_) 9 rfl A6 ?_ ?_;rotate_left;refine A7 ?_;(repeat refine Ap ?_);exact B6
 refine Cl (s':=?_) 10 rfl A6 ?_ ?_;rotate_left;refine A7 ?_;refine Gd 16 2 rfl rfl (A7 ?_);(repeat refine Ap ?_);exact B6
 refine Bp A0 false 11 rfl rfl A6 rfl (A4 Br) ?_;refine Rl (α:=Value) (s':=?_) 12 rfl A6 ?_ ?_;rotate_left;refine A7 ?_;refine Jq A0 rfl rfl rfl rfl rfl rfl (jn:=0) rfl rfl rfl (fun v=>go A0 false ?_);conv=>whnf
 exact Xp v
 intro v;refine Cl (s':=?_) 15 rfl A6 ?_ ?_;rotate_left;refine A7 ?_;(repeat refine Ap ?_);exact B6
 refine Kz [16,17,18,19,20] [⟨4,11,.rd v2⟩] A6 ?_;refine Bl (s':=?_) A0 rfl A6 E8 ?_ ?_;rotate_left;refine A7 ?_;(repeat refine Ap ?_);exact B6
 refine Bl (s':=?_) A0 rfl A6 E8 ?_ ?_;rotate_left;refine A7 ?_;refine Bj A0 rfl rfl rfl rfl rfl rfl rfl rfl rfl rfl rfl (G1 ((x.workers.getD 0 default).dones++[⟨e,cap⟩])) (An rfl) C6 Ad (A7 ?_);exact B6
 refine Bl (s':=?_) A0 rfl A6 E8 ?_ ?_;rotate_left;refine A7 ?_;refine Gd 11 2 rfl rfl (A7 ?_);(repeat refine Ap ?_);exact B6
 refine Bl (s':=?_) A0 rfl A6 E8 ?_ ?_;rotate_left;refine A7 ?_;(repeat refine Ap ?_);exact B6
 refine Bl (s':=?_) A0 rfl A6 E8 ?_ ?_;rotate_left;refine A7 ?_;refine Bv (j:=0) A0 rfl rfl rfl rfl rfl rfl rfl rfl (Ar (x.workers.set 0 (Ef (x.workers.getD 0 default) ⟨e,cap⟩))) (G6 h0 rfl) (A7 ?_);exact B6
 refine Jf A0 A6 E8 (GW.out (G3 ?_));conv=>whnf
 refine Tv 0 3 2 rfl rfl rfl ?_
 refine Bk A0 false [7,8,9,10,11,12,13,14,15,16,17,18,19,20,21,22,23,24,25,26] (fun k:Nat=>[(6,.c (vi (k+1)))]) (fun k=>[⟨0,[.own 1,.c (vi x.graph.workers),.c (vi x.graph.cap),.own 2,.own 3,.own 4,.own 5,.c (vb ok)]⟩]) (fun k=>[⟨1,Bg x.graph.nodes⟩,⟨2,Ar (x.workers.set 0 (Ef (x.workers.getD 0 default) ⟨e,cap⟩))⟩,⟨3,C4 x.links⟩,⟨4,Bm x.tokens⟩,⟨5,Cc (x.news++Ip e cap k)⟩])
  (fun k=>k≤(x.workers.length-1)) (fun k=>(x.workers.length-1)-k) 0 (Nat.zero_le _) ⟨F0,trivial⟩ C2 ⟨Dm,Dm,Dm,Dm,Dm,trivial⟩ C1 A6 (fun k hk=>?_)
 conv=>whnf
 refine Eo (fun hg=>?_) fun hg=>?_<;>conv=>whnf
 ·rw [List.length_set] at hg
  refine Bj A0 rfl rfl rfl rfl rfl rfl rfl rfl rfl rfl rfl (Cc (x.news++Ip e cap k++[⟨k+1,e,cap⟩])) (An rfl) C6 (by rw [List.length_append,X0];omega) (A7 ?_);(repeat refine Ap ?_);refine Az [(0,0),(1,1),(2,2),(3,3),(4,4),(5,10)] (k+1) Ad Ad ⟨by rw [Int.natCast_add];rfl,trivial⟩ ⟨rfl,rfl,rfl,rfl,by show (_:Ai)=_;rw [U0,←List.append_assoc],trivial⟩ C2 A6 C1 A6
 rw [List.length_set] at hg
 repeat refine B2 ?_
 obtain rfl:k=x.workers.length-1:=by omega
 exact C3q (C3 A0 () trivial rfl rfl rfl rfl B0)
theorem C2r (c:A3)(e:Int)(t:Fs):(De c e t).w=c.w:=by simp only [A3.w,De,List.length_set]
set_option maxHeartbeats 4000000 in
theorem B59 (x:A3)(e:Int)(h:x.w≤16000000):E3 Tryz.prog (fun _=>True) 164 [] (rc x) [.one (vi e)] (fun _:Unit=>True) (fun _=>X6 (Ci x e).1 (Bf x)) (fun _=>[.one (vb (Ci x e).2)]):=by
 refine Em A0 false Tryz.func164 rfl B5 fun B b hH hp=>?_;conv=>whnf
 refine ⟨fun hC=>?_,fun hC=>?_⟩<;>conv=>whnf
 ·repeat refine B2 ?_
  rw [Qg (fun p=>by rw [show Bf x=true from decide_eq_true p.1] at hC;exact absurd hC B5)]
  exact C3 A0 () trivial rfl rfl rfl rfl B0
 have hC:B7 x:=of_decide_eq_true (show Bf x=true by simpa using hC)
 have hl0:1≤x.workers.length:=by have:=hC.1.2.1;have:=hC.1.1.2.1;omega
 have htl:x.tokens.length=4:=hC.1.2.2.2;have hwl4:x.workers.length≤4:=by have:=hC.1.2.1;have:=hC.1.1.2.1;omega
 repeat refine B2 ?_
 refine As (G9 e 0 3) rfl (A7 ?_)
 repeat refine B2 ?_
 refine ⟨fun hE=>?_,fun hE=>?_⟩<;>conv=>whnf
 ·repeat refine B2 ?_
  rw [Qg (fun p=>by have:=p.2.1;clear hC p;simp only [beq_iff_eq,beq_eq_false_iff_ne,bne_iff_ne,bne_eq_false_iff_eq,Bool.not_eq_true',Bool.not_eq_false',Go.Sx.Al,Go.Sx.B4,decide_eq_true_eq,decide_eq_false_iff_not,ne_eq,Int.not_lt,Int.not_le,ge_iff_le,gt_iff_lt,Int.toNat_zero,Int.toNat_one,Int.toNat_natCast] at *;omega)];exact C3 A0 () trivial rfl rfl rfl rfl B0
 have hE:0≤e∧e≤3:=by clear hC;simp only [beq_iff_eq,beq_eq_false_iff_ne,bne_iff_ne,bne_eq_false_iff_eq,Bool.not_eq_true',Bool.not_eq_false',Go.Sx.Al,Go.Sx.B4,decide_eq_true_eq,decide_eq_false_iff_not,ne_eq,Int.not_lt,Int.not_le,ge_iff_le,gt_iff_lt,Int.toNat_zero,Int.toNat_one,Int.toNat_natCast] at *;omega
 repeat refine B2 ?_
 refine As (A2j x e Ad) rfl (A7 ?_)
 repeat refine B2 ?_
 refine ⟨fun hD=>?_,fun hD=>?_⟩<;>conv=>whnf
 ·rw [Qg (fun p=>by have hd:Cv (x.workers.getD 0 default) e=false:=p.2.2.1;rw [Na,if_pos Ad,hd] at hD;cases hD)]
  exact C3 A0 () trivial rfl rfl rfl rfl B0
 have hD:Cv (A8 x 0) e=false:=by rw [Na,if_pos Ad] at hD;exact hD
 have hTP:=hC.2.2.2.1 _ (At (d:=default) (show e.toNat<x.tokens.length by omega))
 have hat:0≤(x.tokens.getD e.toNat default).at_∧(x.tokens.getD e.toNat default).at_<x.workers.length:=by
  have:=hC.1.2.1
  have:=hTP.1
  omega
 have hj:(x.tokens.getD e.toNat default).at_.toNat<x.workers.length:=by omega
 have hWP:=hC.2.1 _ (At (d:=default) hj);(repeat refine Ap ?_);refine T0 A0 rfl rfl rfl rfl rfl (jn:=(x.tokens.getD e.toNat default).at_.toNat) rfl (r:=Ab.c ((x.workers).getD ((x.tokens.getD e.toNat default).at_.toNat) default)) rfl hj rfl rfl (fun u=>go A0 false ?_);conv=>whnf
 refine As (A3a (x.workers.getD (x.tokens.getD e.toNat default).at_.toNat default) e (by have:=A3.worker_le h hj;omega)) rfl ?_
 cases hP:Dx (x.workers.getD (x.tokens.getD e.toNat default).at_.toNat default) e
 ·refine Mf 2 ((x.tokens.getD e.toNat default).at_.toNat) [(0,7),(1,8),(2,9),(3,10),(4,11),(5,12),(6,13),(7,14)] (Ar x.workers) hj rfl rfl H3 rfl (D8 rfl) (G3 ?_)
  conv=>whnf
  repeat refine B2 ?_
  rw [Qg (fun p=>by have q:=p.2.2.2;rw [show A8 x (A9 x e).at_=x.workers.getD (x.tokens.getD e.toNat default).at_.toNat default from rfl,hP] at q;cases q)]
  exact C3 A0 () trivial rfl rfl rfl rfl B0
 have hT:Nk x e:=⟨hC,hE,hD,hP⟩;obtain ⟨hL1,hL2,hL3⟩:=hWP.2.1;have hs1:=hTP.2.2;have htk:e.toNat<x.tokens.length:=by omega
 have hbl:e.toNat<(A8 x (A9 x e).at_).black.length:=by
  show e.toNat<(x.workers.getD (x.tokens.getD e.toNat default).at_.toNat default).black.length
  omega
 have hs2:Hf ((x.workers.getD (x.tokens.getD e.toNat default).at_.toNat default).sums.getD e.toNat default):=hWP.2.2.2.1 _ (At Ad);simp only [Hf] at hs2;refine A7 ?_
 repeat refine B2 ?_
 first|(refine Ax 8 rfl [0,1,2,3,4,5,6,7,8] A6 (A7 ?_))|(refine Ax 14 rfl [0,1,2,3,4,5,6,7,8,9,10,11,12,13,14,15,16,17,18,19,20] A6 (A7 ?_))|(refine Ax 19 rfl [0,1,2,3,4,5,6,7,8,9,10,11,12,13,14,15,16,17,18,19,20,21,22,23,24,25,26,27,28,29] A6 (A7 ?_))|(refine Ax 10 rfl [0,1,2,3,4,5,6,7,8] A6 (A7 ?_))
 refine ⟨by (show _∧_;omega),?_⟩
 conv=>whnf
 refine ⟨by (show _∧_;omega),?_⟩
 conv=>whnf
 refine ⟨fun hg=>?_,fun hg=>?_⟩<;>conv=>whnf
 ·have hg:(A9 x e).going=false:=by simpa [A9] using hg
  have hA:(A9 x e).at_=0:=hTP.2.1 hg
  first|(refine Ax 8 rfl [0,1,2,3,4,5,6,7,8] A6 (A7 ?_))|(refine Ax 14 rfl [0,1,2,3,4,5,6,7,8,9,10,11,12,13,14,15,16,17,18,19,20] A6 (A7 ?_))|(refine Ax 19 rfl [0,1,2,3,4,5,6,7,8,9,10,11,12,13,14,15,16,17,18,19,20,21,22,23,24,25,26,27,28,29] A6 (A7 ?_))|(refine Ax 10 rfl [0,1,2,3,4,5,6,7,8] A6 (A7 ?_))
  (repeat refine Ap ?_);refine Bv (j:=e) A0 rfl rfl rfl rfl rfl rfl rfl rfl (Bm (x.tokens.set e.toNat ⟨true,(x.workers.length:Int)-1,0,false,(A8 x (A9 x e).at_).caps.getD e.toNat default⟩)) (Ck htk rfl) ?_;refine Mf 2 ((x.tokens.getD e.toNat default).at_.toNat) [(0,7),(1,8),(2,9),(3,10),(4,11),(5,12),(6,13),(7,14)] (Ar x.workers) hj rfl rfl H3 rfl (D8 rfl) (G3 ?_);conv=>whnf
  refine ⟨by exact ⟨Int.le_refl 0,by show (0:Int)<(x.workers.length:Int);omega⟩,?_⟩
  conv=>whnf
  refine Jq A0 rfl rfl rfl rfl rfl rfl (jn:=(x.tokens.getD e.toNat default).at_.toNat) (by rw [show (x.tokens.getD e.toNat default).at_=0 from hA]) rfl rfl (fun v=>go A0 false ?_)
  conv=>whnf
  (repeat refine Ap ?_);refine Bv (j:=e) A0 rfl rfl rfl rfl rfl rfl rfl rfl (Dw ((A8 x (A9 x e).at_).black.set e.toNat false)) (Ck hbl rfl) (A7 ?_);rw [A4t hT hg];refine Fp Tryz.prog 2 ((x.tokens.getD e.toNat default).at_.toNat) [(5,16)] (Ar (x.workers.set (x.tokens.getD e.toNat default).at_.toNat (G2 (A8 x (A9 x e).at_) e))) hj rfl rfl H3 rfl (Gq hj rfl) ?_;exact C3 A0 () trivial rfl rfl rfl rfl B0
 have hg:(A9 x e).going=true:=by simpa [A9] using hg
 refine ⟨fun hA=>?_,fun hA=>?_⟩<;>conv=>whnf
 ·have hA:(A9 x e).at_>0:=of_decide_eq_true hA
  refine As (G9 ((x.tokens.getD e.toNat default).sum+(x.workers.getD (x.tokens.getD e.toNat default).at_.toNat default).sums.getD e.toNat default) (-1000000) 1000000) rfl (A7 ?_)
  repeat refine B2 ?_
  refine ⟨fun hS=>?_,fun hS=>?_⟩<;>conv=>whnf
  ·rw [B36 hT hg hA (fun p=>by simp only [Hf,A9,A8] at p;simp only [beq_iff_eq,beq_eq_false_iff_ne,bne_iff_ne,bne_eq_false_iff_eq,Bool.not_eq_true',Bool.not_eq_false',Go.Sx.Al,Go.Sx.B4,decide_eq_true_eq,decide_eq_false_iff_not,ne_eq,Int.not_lt,Int.not_le,ge_iff_le,gt_iff_lt,Int.toNat_zero,Int.toNat_one,Int.toNat_natCast] at *;omega)]
   refine Fp Tryz.prog 2 ((x.tokens.getD e.toNat default).at_.toNat) [(0,7),(1,8),(2,9),(3,10),(4,11),(5,12),(6,13),(7,14)] (Ar x.workers) hj rfl rfl H3 rfl (D8 rfl) ?_;exact C3 A0 () trivial rfl rfl rfl rfl B0
  have hS:Hf ((A9 x e).sum+(A8 x (A9 x e).at_).sums.getD e.toNat default):=by simp only [Hf,A9,A8];simp only [beq_iff_eq,beq_eq_false_iff_ne,bne_iff_ne,bne_eq_false_iff_eq,Bool.not_eq_true',Bool.not_eq_false',Go.Sx.Al,Go.Sx.B4,decide_eq_true_eq,decide_eq_false_iff_not,ne_eq,Int.not_lt,Int.not_le,ge_iff_le,gt_iff_lt,Int.toNat_zero,Int.toNat_one,Int.toNat_natCast] at *;omega
  first|(refine Ax 8 rfl [0,1,2,3,4,5,6,7,8] A6 (A7 ?_))|(refine Ax 14 rfl [0,1,2,3,4,5,6,7,8,9,10,11,12,13,14,15,16,17,18,19,20] A6 (A7 ?_))|(refine Ax 19 rfl [0,1,2,3,4,5,6,7,8,9,10,11,12,13,14,15,16,17,18,19,20,21,22,23,24,25,26,27,28,29] A6 (A7 ?_))|(refine Ax 10 rfl [0,1,2,3,4,5,6,7,8] A6 (A7 ?_))
  (repeat refine Ap ?_);refine ⟨fun hb=>?_,fun hb=>?_⟩<;>conv=>whnf
  ·have hb:(A9 x e).black=true:=hb
   repeat refine B2 ?_
   refine ⟨fun hc=>?_,fun hc=>?_⟩<;>conv=>whnf
   ·have hc:(A9 x e).capped=true:=hc
    repeat refine B2 ?_
    refine Bv (j:=e) A0 rfl rfl rfl rfl rfl rfl rfl rfl (Bm (x.tokens.set e.toNat ⟨true,(A9 x e).at_-1,(A9 x e).sum+(A8 x (A9 x e).at_).sums.getD e.toNat default,(A9 x e).black||(A8 x (A9 x e).at_).black.getD e.toNat default,(A9 x e).capped||(A8 x (A9 x e).at_).caps.getD e.toNat default⟩)) (Ck htk (by rw [hb,hc];rfl)) ?_;refine Mf 2 ((x.tokens.getD e.toNat default).at_.toNat) [(0,7),(1,8),(2,9),(3,10),(4,11),(5,12),(6,13),(7,14)] (Ar x.workers) hj rfl rfl H3 rfl (D8 rfl) (G3 ?_);conv=>whnf
    (repeat refine Ap ?_);refine Jq A0 rfl rfl rfl rfl rfl rfl (jn:=(x.tokens.getD e.toNat default).at_.toNat) rfl rfl rfl (fun v=>go A0 false ?_);conv=>whnf
    (repeat refine Ap ?_);refine Bv (j:=e) A0 rfl rfl rfl rfl rfl rfl rfl rfl (Dw ((A8 x (A9 x e).at_).black.set e.toNat false)) (Ck hbl rfl) (A7 ?_);rw [M4 hT hg hA hS];refine Fp Tryz.prog 2 ((x.tokens.getD e.toNat default).at_.toNat) [(5,16)] (Ar (x.workers.set (x.tokens.getD e.toNat default).at_.toNat (G2 (A8 x (A9 x e).at_) e))) hj rfl rfl H3 rfl (Gq hj rfl) ?_;exact C3 A0 () trivial rfl rfl rfl rfl B0
   have hc:(A9 x e).capped=false:=hc
   repeat refine B2 ?_
   refine Bv (j:=e) A0 rfl rfl rfl rfl rfl rfl rfl rfl (Bm (x.tokens.set e.toNat ⟨true,(A9 x e).at_-1,(A9 x e).sum+(A8 x (A9 x e).at_).sums.getD e.toNat default,(A9 x e).black||(A8 x (A9 x e).at_).black.getD e.toNat default,(A9 x e).capped||(A8 x (A9 x e).at_).caps.getD e.toNat default⟩)) (Ck htk (by rw [hb,hc];rfl)) ?_;refine Mf 2 ((x.tokens.getD e.toNat default).at_.toNat) [(0,7),(1,8),(2,9),(3,10),(4,11),(5,12),(6,13),(7,14)] (Ar x.workers) hj rfl rfl H3 rfl (D8 rfl) (G3 ?_);conv=>whnf
   (repeat refine Ap ?_);refine Jq A0 rfl rfl rfl rfl rfl rfl (jn:=(x.tokens.getD e.toNat default).at_.toNat) rfl rfl rfl (fun v=>go A0 false ?_);conv=>whnf
   (repeat refine Ap ?_);refine Bv (j:=e) A0 rfl rfl rfl rfl rfl rfl rfl rfl (Dw ((A8 x (A9 x e).at_).black.set e.toNat false)) (Ck hbl rfl) (A7 ?_);rw [M4 hT hg hA hS];refine Fp Tryz.prog 2 ((x.tokens.getD e.toNat default).at_.toNat) [(5,16)] (Ar (x.workers.set (x.tokens.getD e.toNat default).at_.toNat (G2 (A8 x (A9 x e).at_) e))) hj rfl rfl H3 rfl (Gq hj rfl) ?_;exact C3 A0 () trivial rfl rfl rfl rfl B0
  have hb:(A9 x e).black=false:=hb
  repeat refine B2 ?_
  refine ⟨fun hc=>?_,fun hc=>?_⟩<;>conv=>whnf
  ·have hc:(A9 x e).capped=true:=hc
   repeat refine B2 ?_
   refine Bv (j:=e) A0 rfl rfl rfl rfl rfl rfl rfl rfl (Bm (x.tokens.set e.toNat ⟨true,(A9 x e).at_-1,(A9 x e).sum+(A8 x (A9 x e).at_).sums.getD e.toNat default,(A9 x e).black||(A8 x (A9 x e).at_).black.getD e.toNat default,(A9 x e).capped||(A8 x (A9 x e).at_).caps.getD e.toNat default⟩)) (Ck htk (by rw [hb,hc];rfl)) ?_;refine Mf 2 ((x.tokens.getD e.toNat default).at_.toNat) [(0,7),(1,8),(2,9),(3,10),(4,11),(5,12),(6,13),(7,14)] (Ar x.workers) hj rfl rfl H3 rfl (D8 rfl) (G3 ?_);conv=>whnf
   (repeat refine Ap ?_);refine Jq A0 rfl rfl rfl rfl rfl rfl (jn:=(x.tokens.getD e.toNat default).at_.toNat) rfl rfl rfl (fun v=>go A0 false ?_);conv=>whnf
   (repeat refine Ap ?_);refine Bv (j:=e) A0 rfl rfl rfl rfl rfl rfl rfl rfl (Dw ((A8 x (A9 x e).at_).black.set e.toNat false)) (Ck hbl rfl) (A7 ?_);rw [M4 hT hg hA hS];refine Fp Tryz.prog 2 ((x.tokens.getD e.toNat default).at_.toNat) [(5,16)] (Ar (x.workers.set (x.tokens.getD e.toNat default).at_.toNat (G2 (A8 x (A9 x e).at_) e))) hj rfl rfl H3 rfl (Gq hj rfl) ?_;exact C3 A0 () trivial rfl rfl rfl rfl B0
  have hc:(A9 x e).capped=false:=hc
  repeat refine B2 ?_
  refine Bv (j:=e) A0 rfl rfl rfl rfl rfl rfl rfl rfl (Bm (x.tokens.set e.toNat ⟨true,(A9 x e).at_-1,(A9 x e).sum+(A8 x (A9 x e).at_).sums.getD e.toNat default,(A9 x e).black||(A8 x (A9 x e).at_).black.getD e.toNat default,(A9 x e).capped||(A8 x (A9 x e).at_).caps.getD e.toNat default⟩)) (Ck htk (by rw [hb,hc];rfl)) ?_;refine Mf 2 ((x.tokens.getD e.toNat default).at_.toNat) [(0,7),(1,8),(2,9),(3,10),(4,11),(5,12),(6,13),(7,14)] (Ar x.workers) hj rfl rfl H3 rfl (D8 rfl) (G3 ?_);conv=>whnf
  (repeat refine Ap ?_);refine Jq A0 rfl rfl rfl rfl rfl rfl (jn:=(x.tokens.getD e.toNat default).at_.toNat) rfl rfl rfl (fun v=>go A0 false ?_);conv=>whnf
  (repeat refine Ap ?_);refine Bv (j:=e) A0 rfl rfl rfl rfl rfl rfl rfl rfl (Dw ((A8 x (A9 x e).at_).black.set e.toNat false)) (Ck hbl rfl) (A7 ?_);rw [M4 hT hg hA hS];refine Fp Tryz.prog 2 ((x.tokens.getD e.toNat default).at_.toNat) [(5,16)] (Ar (x.workers.set (x.tokens.getD e.toNat default).at_.toNat (G2 (A8 x (A9 x e).at_) e))) hj rfl rfl H3 rfl (Gq hj rfl) ?_;exact C3 A0 () trivial rfl rfl rfl rfl B0
 have hA:¬ (A9 x e).at_>0:=of_decide_eq_false hA
 have hz:(x.tokens.getD e.toNat default).at_=0:=by
  have:¬ (x.tokens.getD e.toNat default).at_>0:=hA
  omega
 have hsw:(De x e ⟨false,(A9 x e).at_,(A9 x e).sum,(A9 x e).black,(A9 x e).capped⟩).w≤16000000:=by rw [C2r];exact h
 first|(refine Ax 8 rfl [0,1,2,3,4,5,6,7,8] A6 (A7 ?_))|(refine Ax 14 rfl [0,1,2,3,4,5,6,7,8,9,10,11,12,13,14,15,16,17,18,19,20] A6 (A7 ?_))|(refine Ax 19 rfl [0,1,2,3,4,5,6,7,8,9,10,11,12,13,14,15,16,17,18,19,20,21,22,23,24,25,26,27,28,29] A6 (A7 ?_))|(refine Ax 10 rfl [0,1,2,3,4,5,6,7,8] A6 (A7 ?_))
 (repeat refine Ap ?_);refine Bv (j:=e) A0 rfl rfl rfl rfl rfl rfl rfl rfl (Bm (x.tokens.set e.toNat ⟨false,(A9 x e).at_,(A9 x e).sum,(A9 x e).black,(A9 x e).capped⟩)) (Ck htk rfl) ?_;refine A7 ?_;refine ⟨fun hb=>?_,fun hb=>?_⟩<;>conv=>whnf
 ·have hb:(A9 x e).black=false:=by simpa [A9] using hb
  repeat refine B2 ?_
  refine ⟨fun hw=>?_,fun hw=>?_⟩<;>conv=>whnf
  ·have hw:(A8 x (A9 x e).at_).black.getD e.toNat default=false:=by simpa [A9,A8] using hw
   repeat refine B2 ?_
   refine ⟨fun hs=>?_,fun hs=>?_⟩<;>conv=>whnf
   ·have hs:(A9 x e).sum+(A8 x (A9 x e).at_).sums.getD e.toNat default=0:=eq_of_beq hs
    have hyes:=And.intro hb (And.intro hw hs)
    repeat refine B2 ?_
    have hw0:A8 x (A9 x e).at_=x.workers.getD 0 default:=by
     show x.workers.getD (x.tokens.getD e.toNat default).at_.toNat default=_
     rw [hz];rfl
    refine ⟨fun hc=>?_,fun hc=>?_⟩<;>conv=>whnf
    ·have hc:(A9 x e).capped=true:=hc
     have hcap:((A9 x e).capped||(A8 x (A9 x e).at_).caps.getD e.toNat default)=true:=by rw [hc];rfl
     repeat refine B2 ?_
     refine B10 2 ((x.tokens.getD e.toNat default).at_.toNat) [(0,7),(1,8),(2,9),(3,10),(4,11),(5,12),(6,13),(7,14)] (Ar x.workers) hj rfl rfl H3 rfl (D8 rfl) ?_;refine Ay (A9u (De x e ⟨false,(A9 x e).at_,(A9 x e).sum,(A9 x e).black,(A9 x e).capped⟩) e true (Bf x) hsw hl0) hH hp rfl B0 rfl rfl (fun r hr=>go A0 false ?_);conv=>whnf
     rw [Ln hT hg hA,Gw,if_pos hyes,hcap,show Ef (A8 x (A9 x e).at_)=Ef (x.workers.getD 0 default) by rw [hw0]]
     exact C3 A0 () trivial rfl rfl rfl rfl B0
    have hc:(A9 x e).capped=false:=hc;have hcap:((A9 x e).capped||(A8 x (A9 x e).at_).caps.getD e.toNat default)=(A8 x (A9 x e).at_).caps.getD e.toNat default:=by rw [hc];rfl
    repeat refine B2 ?_
    refine B10 2 ((x.tokens.getD e.toNat default).at_.toNat) [(0,7),(1,8),(2,9),(3,10),(4,11),(5,12),(6,13),(7,14)] (Ar x.workers) hj rfl rfl H3 rfl (D8 rfl) ?_;refine Ay (A9u (De x e ⟨false,(A9 x e).at_,(A9 x e).sum,(A9 x e).black,(A9 x e).capped⟩) e ((A8 x (A9 x e).at_).caps.getD e.toNat default) (Bf x) hsw hl0) hH hp rfl B0 rfl rfl (fun r hr=>go A0 false ?_);conv=>whnf
    rw [Ln hT hg hA,Gw,if_pos hyes,hcap,show Ef (A8 x (A9 x e).at_)=Ef (x.workers.getD 0 default) by rw [hw0]]
    exact C3 A0 () trivial rfl rfl rfl rfl B0
   have hs:(A9 x e).sum+(A8 x (A9 x e).at_).sums.getD e.toNat default≠0:=beq_eq_false_iff_ne.1 hs;have hno:¬ ((A9 x e).black=false∧(A8 x (A9 x e).at_).black.getD e.toNat default=false∧(A9 x e).sum+(A8 x (A9 x e).at_).sums.getD e.toNat default=0):=fun p=>hs p.2.2
   repeat refine B2 ?_
   rw [Ln hT hg hA,Gw,if_neg hno];refine Fp Tryz.prog 2 ((x.tokens.getD e.toNat default).at_.toNat) [(0,7),(1,8),(2,9),(3,10),(4,11),(5,12),(6,13),(7,14)] (Ar x.workers) hj rfl rfl H3 rfl (D8 rfl) ?_;exact C3 A0 () trivial rfl rfl rfl rfl B0
  have hw:(A8 x (A9 x e).at_).black.getD e.toNat default=true:=by simpa [A9,A8] using hw
  have hno:¬ ((A9 x e).black=false∧(A8 x (A9 x e).at_).black.getD e.toNat default=false∧(A9 x e).sum+(A8 x (A9 x e).at_).sums.getD e.toNat default=0):=fun p=>by rw [hw] at p;exact absurd p.2.1 B5
  repeat refine B2 ?_
  rw [Ln hT hg hA,Gw,if_neg hno];refine Fp Tryz.prog 2 ((x.tokens.getD e.toNat default).at_.toNat) [(0,7),(1,8),(2,9),(3,10),(4,11),(5,12),(6,13),(7,14)] (Ar x.workers) hj rfl rfl H3 rfl (D8 rfl) ?_;exact C3 A0 () trivial rfl rfl rfl rfl B0
 have hb:(A9 x e).black=true:=by simpa [A9] using hb
 have hno:¬ ((A9 x e).black=false∧(A8 x (A9 x e).at_).black.getD e.toNat default=false∧(A9 x e).sum+(A8 x (A9 x e).at_).sums.getD e.toNat default=0):=fun p=>by rw [hb] at p;exact absurd p.1 B5
 repeat refine B2 ?_
 rw [Ln hT hg hA,Gw,if_neg hno];refine Fp Tryz.prog 2 ((x.tokens.getD e.toNat default).at_.toNat) [(0,7),(1,8),(2,9),(3,10),(4,11),(5,12),(6,13),(7,14)] (Ar x.workers) hj rfl rfl H3 rfl (D8 rfl) ?_;exact C3 A0 () trivial rfl rfl rfl rfl B0
theorem A4n (x:A3)(h:x.w≤16000000):A42 Tryz.prog 117 [] [.agg x.c] (fun _:Unit=>True) (fun _=>rc x):=by
 refine B7x A0 false Tryz.func117 rfl B5 fun W hp=>?_;conv=>whnf
 first|(refine Ax 1 rfl [0,2,1,3,4,5,6] A6 (A7 ?_))
 refine Bd (Yn x Ad) rfl (A7 ?_);refine As (A29 x Ad) rfl (A7 ?_);exact C4a A0 () trivial rfl rfl rfl (by repeat' (first|exact trivial|exact rfl|exact .inr ⟨rfl,rfl,_,_,rfl⟩|refine ⟨?_,?_⟩))
end Go.Proofs.YtdendlkeiaccpaaGreat
