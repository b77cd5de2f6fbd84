/- Part 36 of the proof that each of the laws FnOneWorker returns true for every input. No conditions. -/
import Derived.Test.YtonodkjaoalfjaaGreatP35
import Derived.Test.YtonodkjaoalfjaaGreatP29
import Derived.Test.YtonodkjaoalfjaaGreatP11

set_option linter.unusedSimpArgs false
set_option linter.unusedVariables false
set_option maxRecDepth 100000
namespace Go.Proofs.YtonodkjaoalfjaaGreat
open Go.Sx
theorem Qd {w f t:Int}(hw:1≤w∧w≤4)(hf:0≤f∧f<w)(ht:0≤t∧t<w):Ij w f t=f * w+t:=by
 unfold Ij
 rw [if_pos Ac]
 have e:w=1∨w=2∨w=3∨w=4:=by omega
 rcases e with rfl|rfl|rfl|rfl<;>rw [Hz (k:= .i64) (n:=f * _) (by show _∧_;omega),Hz (by show _∧_;omega)]
theorem A1e {w f t:Int}(h:¬ ((0≤f∧f<w)∧(0≤t∧t<w))):Ij w f t= -1:=by
 unfold Ij
 rw [if_neg Ac]
theorem T6 {c:A3}{f t:Int}(h:Ap c)(hf:0≤f∧f<c.graph.workers)(ht:0≤t∧t<c.graph.workers):0≤Ae c f t∧Ae c f t<c.links.length:=by
 have hl:=h.1.2.2.1
 have hw:=h.1.1.2.1
 clear h
 unfold Ae
 generalize c.graph.workers=n at *
 have e:n=1∨n=2∨n=3∨n=4:=by omega
 rcases e with rfl|rfl|rfl|rfl<;>omega
theorem M4 (x:A3)(w:Int)(h:x.w≤16000000)(hgo:J9 x):B0 Tryz.prog 194 [.agg x.c,.one (vi w)] [.one (vb (decide (Hh x w)))]:=by
 have hl:=A3.workers_le h
 refine Ay A0 false Tryz.func194 rfl Bu fun W=>?_
 conv=>whnf
 refine Aw (Js x Ac hgo) rfl (Al ?_)
 refine ⟨fun h1=>?_,fun h1=>?_⟩<;>conv=>whnf
 ·repeat refine Bi ?_
  (repeat refine Ar ?_)
  refine Aw (He w 0 (x.workers.length-1)) rfl (Al ?_)
  repeat refine Bi ?_
  exact Ao A0 rfl rfl ⟨congrArg vb (by rw [Bool.eq_iff_iff,Go.Sx.Am,decide_eq_true_eq];exact ⟨fun p=>⟨p.2.1,by have:=p.2.2;omega⟩,fun p=>⟨of_decide_eq_true h1,by omega,by omega⟩⟩),trivial⟩
 ·repeat refine Bi ?_
  exact Ao A0 rfl rfl ⟨congrArg vb (decide_eq_false fun p=>absurd p.1 (of_decide_eq_false h1)),trivial⟩
theorem A4h {c:A3}{w:Int}(h:¬ Hh c w):Cr c w=(c,false):=if_neg h
theorem A1t {c:A3}{w:Int}(h:Hh c w):Cr c w=(Av c w (Fk c.graph (A6 c w)).1,(Fk c.graph (A6 c w)).2):=if_pos h
theorem A1p {c:A3}{w:Int}(h:¬ Hh c w):Cg c w=(c,false):=if_neg h
theorem Y9 {c:A3}{w:Int}(h:Hh c w):Cg c w=(Av c w (Dg c.graph (A6 c w)).1,(Dg c.graph (A6 c w)).2):=if_pos h
set_option maxHeartbeats 2000000 in
theorem A05 (x:A3)(w:Int)(h:x.w≤16000000)(hgo:J9 x):B0 Tryz.prog 166 [.agg x.c,.one (vi w)] [.agg (Cr x w).1.c,.one (vb (Cr x w).2)]:=by
 refine Ay A0 false Tryz.func166 rfl Bu fun W=>?_
 conv=>whnf
 refine B4 (Dz x Ac) rfl (Al ?_)
 refine Aw (M4 x w h hgo) rfl (Al ?_)
 refine ⟨fun h1=>?_,fun h1=>?_⟩<;>conv=>whnf
 ·have h1:¬ Hh x w:=of_decide_eq_false (by simpa using h1)
  repeat refine Bi ?_
  rw [A4h h1]
  refine Ao A0 rfl rfl ?_
  exact Ca
 have h1:Hh x w:=of_decide_eq_true (show decide (Hh x w)=true by simpa using h1)
 have hC:=h1.1
 have hb:=h1.2
 have hk:w.toNat<x.workers.length:=by omega
 have hw:=A3.worker_le h hk
 have hg:=Ui h
 have hWP:=hC.2.1 _ (Aq (d:=default) hk)
 have hww:(A6 x w).w≤16000000:=by show (x.workers.getD w.toNat default).w≤_;omega
 repeat refine Bi ?_
 refine Jc rfl ?_
 refine Ct A0 false 0 rfl rfl Aa rfl (Af F3) ?_
 refine Ct A0 false 2 rfl rfl Aa rfl (Af F3) ?_
 refine Ct A0 false 4 rfl rfl Aa rfl (Af F3) ?_
 refine Do (s':=?_) 1 rfl Aa ?_ ?_
 rotate_left
 refine go A0 false ?_
 conv=>whnf
 (repeat refine Ar ?_)
 exact Bd
 refine Do (s':=?_) 3 rfl Aa ?_ ?_
 rotate_left
 refine go A0 false ?_
 conv=>whnf
 (repeat refine Ar ?_)
 exact Bd
 refine Do (s':=?_) 5 rfl Aa ?_ ?_
 rotate_left
 refine go A0 false ?_
 conv=>whnf
 (repeat refine Ar ?_)
 exact Bd
 refine Do (s':=?_) 6 rfl Aa ?_ ?_
 rotate_left
 refine go A0 false ?_
 conv=>whnf
 (repeat refine Ar ?_)
 exact Bd
 refine Cm [7,11] Aa ⟨?_,?_,trivial⟩
 focus
  refine go A0 false ?_
  conv=>whnf
  refine B4 (Wh x.graph (A6 x w) Ac hww) rfl (Al ?_)
  refine Cu ?_
  refine Ct A0 false 8 rfl rfl Aa rfl (Af F3) ?_
  refine Kj (s':=?_) 9 rfl Aa ?_ ?_
  rotate_left
  refine go A0 false ?_
  conv=>whnf
  (repeat refine Ar ?_)
  exact Bd
  refine Kj (s':=?_) 10 rfl Aa ?_ ?_
  rotate_left
  refine go A0 false ?_
  conv=>whnf
  (repeat refine Ar ?_)
  exact Bd
  refine Cm [11] Aa ⟨?_,trivial⟩
  refine go A0 false ?_
  conv=>whnf
  (repeat refine Ar ?_)
  refine Cu ?_
  refine Cm [12] Aa ⟨?_,trivial⟩
  refine go A0 false ?_
  conv=>whnf
  (repeat refine Ar ?_)
  refine Cu ?_
  refine Ct A0 false 13 rfl rfl Aa rfl (Af F3) ?_
  refine Hu Aa (Al ?_)
 rotate_left 1
 focus
  refine go A0 false ?_
  conv=>whnf
  (repeat refine Ar ?_)
  refine Cu ?_
  refine Cm [7] Aa ⟨?_,trivial⟩
  refine go A0 false ?_
  conv=>whnf
  refine B4 (Wh x.graph (A6 x w) Ac hww) rfl (Al ?_)
  refine Cu ?_
  refine Ct A0 false 8 rfl rfl Aa rfl (Af F3) ?_
  refine Kj (s':=?_) 9 rfl Aa ?_ ?_
  rotate_left
  refine go A0 false ?_
  conv=>whnf
  (repeat refine Ar ?_)
  exact Bd
  refine Kj (s':=?_) 10 rfl Aa ?_ ?_
  rotate_left
  refine go A0 false ?_
  conv=>whnf
  (repeat refine Ar ?_)
  exact Bd
  refine Cm [12] Aa ⟨?_,trivial⟩
  refine go A0 false ?_
  conv=>whnf
  (repeat refine Ar ?_)
  refine Cu ?_
  refine Ct A0 false 13 rfl rfl Aa rfl (Af F3) ?_
  refine Hu Aa (Al ?_)
 all_goals
  (repeat refine Ar ?_)
  refine D7 (j:=w) A0 rfl rfl rfl rfl rfl rfl rfl rfl (Be (x.workers.set w.toNat (Fk x.graph (A6 x w)).1)) (E4 hk rfl) (Al ?_)
  rw [A1t h1]
  refine Ao A0 rfl rfl ?_
  exact Ca
set_option maxHeartbeats 2000000 in
theorem Y3 (x:A3)(w:Int)(h:x.w≤16000000)(hgo:J9 x):B0 Tryz.prog 167 [.agg x.c,.one (vi w)] [.agg (Cg x w).1.c,.one (vb (Cg x w).2)]:=by
 refine Ay A0 false Tryz.func167 rfl Bu fun W=>?_
 conv=>whnf
 refine B4 (Dz x Ac) rfl (Al ?_)
 refine Aw (M4 x w h hgo) rfl (Al ?_)
 refine ⟨fun h1=>?_,fun h1=>?_⟩<;>conv=>whnf
 ·have h1:¬ Hh x w:=of_decide_eq_false (by simpa using h1)
  repeat refine Bi ?_
  rw [A1p h1]
  refine Ao A0 rfl rfl ?_
  exact Ca
 have h1:Hh x w:=of_decide_eq_true (show decide (Hh x w)=true by simpa using h1)
 have hC:=h1.1
 have hb:=h1.2
 have hk:w.toNat<x.workers.length:=by omega
 have hw:=A3.worker_le h hk
 have hg:=Ui h
 have hWP:=hC.2.1 _ (Aq (d:=default) hk)
 have hww:(A6 x w).w≤16000000:=by show (x.workers.getD w.toNat default).w≤_;omega
 repeat refine Bi ?_
 refine Jc rfl ?_
 refine Ct A0 false 0 rfl rfl Aa rfl (Af F3) ?_
 refine Ct A0 false 2 rfl rfl Aa rfl (Af F3) ?_
 refine Ct A0 false 4 rfl rfl Aa rfl (Af F3) ?_
 refine Do (s':=?_) 1 rfl Aa ?_ ?_
 rotate_left
 refine go A0 false ?_
 conv=>whnf
 (repeat refine Ar ?_)
 exact Bd
 refine Do (s':=?_) 3 rfl Aa ?_ ?_
 rotate_left
 refine go A0 false ?_
 conv=>whnf
 (repeat refine Ar ?_)
 exact Bd
 refine Do (s':=?_) 5 rfl Aa ?_ ?_
 rotate_left
 refine go A0 false ?_
 conv=>whnf
 (repeat refine Ar ?_)
 exact Bd
 refine Do (s':=?_) 6 rfl Aa ?_ ?_
 rotate_left
 refine go A0 false ?_
 conv=>whnf
 (repeat refine Ar ?_)
 exact Bd
 refine Cm [7,11] Aa ⟨?_,?_,trivial⟩
 focus
  refine go A0 false ?_
  conv=>whnf
  refine B4 (Qc x.graph (A6 x w) Ac hww) rfl (Al ?_)
  refine Cu ?_
  refine Ct A0 false 8 rfl rfl Aa rfl (Af F3) ?_
  refine Kj (s':=?_) 9 rfl Aa ?_ ?_
  rotate_left
  refine go A0 false ?_
  conv=>whnf
  (repeat refine Ar ?_)
  exact Bd
  refine Kj (s':=?_) 10 rfl Aa ?_ ?_
  rotate_left
  refine go A0 false ?_
  conv=>whnf
  (repeat refine Ar ?_)
  exact Bd
  refine Cm [11] Aa ⟨?_,trivial⟩
  refine go A0 false ?_
  conv=>whnf
  (repeat refine Ar ?_)
  refine Cu ?_
  refine Cm [12] Aa ⟨?_,trivial⟩
  refine go A0 false ?_
  conv=>whnf
  (repeat refine Ar ?_)
  refine Cu ?_
  refine Ct A0 false 13 rfl rfl Aa rfl (Af F3) ?_
  refine Hu Aa (Al ?_)
 rotate_left 1
 focus
  refine go A0 false ?_
  conv=>whnf
  (repeat refine Ar ?_)
  refine Cu ?_
  refine Cm [7] Aa ⟨?_,trivial⟩
  refine go A0 false ?_
  conv=>whnf
  refine B4 (Qc x.graph (A6 x w) Ac hww) rfl (Al ?_)
  refine Cu ?_
  refine Ct A0 false 8 rfl rfl Aa rfl (Af F3) ?_
  refine Kj (s':=?_) 9 rfl Aa ?_ ?_
  rotate_left
  refine go A0 false ?_
  conv=>whnf
  (repeat refine Ar ?_)
  exact Bd
  refine Kj (s':=?_) 10 rfl Aa ?_ ?_
  rotate_left
  refine go A0 false ?_
  conv=>whnf
  (repeat refine Ar ?_)
  exact Bd
  refine Cm [12] Aa ⟨?_,trivial⟩
  refine go A0 false ?_
  conv=>whnf
  (repeat refine Ar ?_)
  refine Cu ?_
  refine Ct A0 false 13 rfl rfl Aa rfl (Af F3) ?_
  refine Hu Aa (Al ?_)
 all_goals
  (repeat refine Ar ?_)
  refine D7 (j:=w) A0 rfl rfl rfl rfl rfl rfl rfl rfl (Be (x.workers.set w.toNat (Dg x.graph (A6 x w)).1)) (E4 hk rfl) (Al ?_)
  rw [Y9 h1]
  refine Ao A0 rfl rfl ?_
  exact Ca
theorem U0 {c:A3}{w:Int}(h:¬ (Hh c w∧0<(A6 c w).staged.length)):C6 c w=(c,false):=if_neg h
theorem A1r {c:A3}{w:Int}(h:Hh c w∧0<(A6 c w).staged.length)(h1:B8 c w=w):C6 c w=(Av c w (kept (Bt (A6 c w)) (B7 c w)),true):=by
 unfold C6
 rw [if_pos h,if_pos h1]
theorem Ya {c:A3}{w:Int}(h:Hh c w∧0<(A6 c w).staged.length)(h1:B8 c w≠w)(h2:(Dn (An c (Ae c w (B8 c w))) (B7 c w)).2=false):C6 c w=(c,false):=by
 unfold C6
 rw [if_pos h,if_neg h1,if_neg (by rw [h2];decide)]
theorem Yb {c:A3}{w:Int}(h:Hh c w∧0<(A6 c w).staged.length)(h1:B8 c w≠w)(h2:(Dn (An c (Ae c w (B8 c w))) (B7 c w)).2=true):C6 c w=(Av (B6 c (Ae c w (B8 c w)) (Dn (An c (Ae c w (B8 c w))) (B7 c w)).1) w (Cs (Bt (A6 c w)) (B7 c w).stamp.epoch),true):=by
 unfold C6
 rw [if_pos h,if_neg h1,if_pos h2]
theorem B4o {k n:Int}(hk:0≤k)(hn:1≤n):0≤Cf k n∧Cf k n<n:=by
 have h1:=Int.tmod_lt_of_pos k (show 0<n by omega)
 have h2:=Int.tmod_nonneg n hk
 unfold Cf
 (repeat' split)<;>omega
theorem B1s (x:Ab):(Bt x).w≤x.w:=by
 simp only [Ab.w,Bt,List.length_drop]
 omega
set_option maxHeartbeats 4000000 in
theorem A03 (x:A3)(w:Int)(h:x.w≤8000000)(hgo:J9 x):B0 Tryz.prog 168 [.agg x.c,.one (vi w)] [.agg (C6 x w).1.c,.one (vb (C6 x w).2)]:=by
 have h:x.w≤16000000:=by omega
 refine Ay A0 false Tryz.func168 rfl Bu fun W=>?_
 conv=>whnf
 refine B4 (Dz x Ac) rfl (Al ?_)
 refine Aw (M4 x w h hgo) rfl (Al ?_)
 refine ⟨fun h1=>?_,fun h1=>?_⟩<;>conv=>whnf
 ·have h1:¬ Hh x w:=of_decide_eq_false (by simpa using h1)
  repeat refine Bi ?_
  rw [(fun q=>U0 (fun p=>q p.1)) h1]
  refine Ao A0 rfl rfl ?_
  exact Ca
 have h1:Hh x w:=of_decide_eq_true (show decide (Hh x w)=true by simpa using h1)
 have hC:=h1.1
 have hb:=h1.2
 have hk:w.toNat<x.workers.length:=by omega
 have hw:=A3.worker_le h hk
 have hg:=Ui h
 have hWP:=hC.2.1 _ (Aq (d:=default) hk)
 have hww:(A6 x w).w≤16000000:=by show (x.workers.getD w.toNat default).w≤_;omega
 repeat refine Bi ?_
 (repeat refine Ar ?_)
 refine ⟨fun h2=>have h2:=eq_of_beq h2;?_,fun h2=>have h2:=beq_eq_false_iff_ne.1 h2;?_⟩<;>conv=>whnf
 ·repeat refine Bi ?_
  rw [U0 (fun p=>by have:=p.2;simp only [A6] at this;omega)]
  refine Ao A0 rfl rfl ?_
  exact Ca
 have h2:0<(A6 x w).staged.length:=by simp only [A6];omega
 have hM:Hh x w∧0<(A6 x w).staged.length:=⟨h1,h2⟩
 have hR:Ja (B7 x w)∧(B7 x w).op<x.graph.nodes.length:=hWP.1.2.1 _ (Aq (d:=default) h2)
 have hgw:=hC.1.1.2.1
 have how:=B4o (k:=(B7 x w).key) (n:=x.graph.workers) hR.1.2.2.2.1.1 hgw.1
 have hwl:=hC.1.2.1
 have huw:=B1s (A6 x w)
 repeat refine Bi ?_
 (repeat refine Ar ?_)
 refine B4 (A1a (A6 x w) hww) rfl (Al ?_)
 rw [Sf h2]
 refine Aw (Tw (B7 x w).key x.graph.workers Ac) rfl (Al ?_)
 refine ⟨fun h3=>have h3:=eq_of_beq h3;?_,fun h3=>have h3:=beq_eq_false_iff_ne.1 h3;?_⟩<;>conv=>whnf
 ·have h3:B8 x w=w:=h3
  first|(refine B9 7 rfl [0,1,2,3,4,5,6,7] Aa (Al ?_))|(refine B9 10 rfl [0,1,2,3,4,5,6,7,8,9,10,11,12] Aa (Al ?_))|(refine B9 14 rfl [0,1,2,3,4,5,6,7,8,9] Aa (Al ?_))
  refine B4 (A3p (Bt (A6 x w)) (B7 x w) Ac) rfl (Al ?_)
  (repeat refine Ar ?_)
  refine D7 (j:=w) A0 rfl rfl rfl rfl rfl rfl rfl rfl (Be (x.workers.set w.toNat (kept (Bt (A6 x w)) (B7 x w)))) (E4 hk rfl) (Al ?_)
  rw [A1r hM h3]
  refine Ao A0 rfl rfl ?_
  exact Ca
 have h3:B8 x w≠w:=h3
 have hmt:0≤B8 x w∧B8 x w<x.graph.workers:=how
 have hln:=T6 hC (f:=w) (t:=B8 x w) Ac hmt
 have hlk:(Ae x w (B8 x w)).toNat<x.links.length:=by omega
 have hlw:=A3.link_le h hlk
 have hlp:Ij x.graph.workers w (Cf (B7 x w).key x.graph.workers)=Ae x w (B8 x w):=Qd hgw Ac hmt
 refine Aw (Qb x.graph w (Cf (B7 x w).key x.graph.workers)) rfl (Al ?_)
 rw [hlp]
 refine Jc rfl ?_
 refine Ct A0 false 0 rfl rfl Aa rfl (Af F3) ?_
 refine Ct A0 false 2 rfl rfl Aa rfl (Af F3) ?_
 refine Do (s':=?_) 1 rfl Aa ?_ ?_
 rotate_left
 refine go A0 false ?_
 conv=>whnf
 (repeat refine Ar ?_)
 exact Bd
 refine Do (s':=?_) 3 rfl Aa ?_ ?_
 rotate_left
 refine go A0 false ?_
 conv=>whnf
 (repeat refine Ar ?_)
 exact Bd
 refine Do (s':=?_) 4 rfl Aa ?_ ?_
 rotate_left
 refine go A0 false ?_
 conv=>whnf
 (repeat refine Ar ?_)
 exact Bd
 refine Do (s':=?_) 5 rfl Aa ?_ ?_
 rotate_left
 refine go A0 false ?_
 conv=>whnf
 (repeat refine Ar ?_)
 exact Bd
 refine Cm [6,10] Aa ⟨?_,?_,trivial⟩
 focus
  refine go A0 false ?_
  conv=>whnf
  refine B4 (Wg (An x (Ae x w (B8 x w))) (B7 x w) (by show (x.links.getD _ default).w≤_;omega) (hgo _ (Aq (d:=default) hlk))) rfl (Al ?_)
  refine Cu ?_
  refine Ct A0 false 7 rfl rfl Aa rfl (Af F3) ?_
  refine Kj (s':=?_) 8 rfl Aa ?_ ?_
  rotate_left
  refine go A0 false ?_
  conv=>whnf
  (repeat refine Ar ?_)
  exact Bd
  refine Kj (s':=?_) 9 rfl Aa ?_ ?_
  rotate_left
  refine go A0 false ?_
  conv=>whnf
  (repeat refine Ar ?_)
  exact Bd
  refine Cm [10] Aa ⟨?_,trivial⟩
  refine go A0 false ?_
  conv=>whnf
  (repeat refine Ar ?_)
  refine Cu ?_
  refine Cm [11] Aa ⟨?_,trivial⟩
  refine go A0 false ?_
  conv=>whnf
  (repeat refine Ar ?_)
  refine Cu ?_
  refine Ct A0 false 12 rfl rfl Aa rfl (Af F3) ?_
  refine Hu Aa (Al ?_)
 rotate_left 1
 focus
  refine go A0 false ?_
  conv=>whnf
  (repeat refine Ar ?_)
  refine Cu ?_
  refine Cm [6] Aa ⟨?_,trivial⟩
  refine go A0 false ?_
  conv=>whnf
  refine B4 (Wg (An x (Ae x w (B8 x w))) (B7 x w) (by show (x.links.getD _ default).w≤_;omega) (hgo _ (Aq (d:=default) hlk))) rfl (Al ?_)
  refine Cu ?_
  refine Ct A0 false 7 rfl rfl Aa rfl (Af F3) ?_
  refine Kj (s':=?_) 8 rfl Aa ?_ ?_
  rotate_left
  refine go A0 false ?_
  conv=>whnf
  (repeat refine Ar ?_)
  exact Bd
  refine Kj (s':=?_) 9 rfl Aa ?_ ?_
  rotate_left
  refine go A0 false ?_
  conv=>whnf
  (repeat refine Ar ?_)
  exact Bd
  refine Cm [11] Aa ⟨?_,trivial⟩
  refine go A0 false ?_
  conv=>whnf
  (repeat refine Ar ?_)
  refine Cu ?_
  refine Ct A0 false 12 rfl rfl Aa rfl (Af F3) ?_
  refine Hu Aa (Al ?_)
 all_goals
  refine ⟨fun h4=>?_,fun h4=>?_⟩<;>conv=>whnf
  ·have h4:(Dn (An x (Ae x w (B8 x w))) (B7 x w)).2=false:=by simpa using h4
   repeat refine Bi ?_
   rw [Ya hM h3 h4]
   refine Ao A0 rfl rfl ?_
   exact Ca
  ·have h4:(Dn (An x (Ae x w (B8 x w))) (B7 x w)).2=true:=by simpa using h4
   repeat refine Bi ?_
   (repeat refine Ar ?_)
   refine D7 (j:=(Ae x w (B8 x w))) A0 rfl rfl rfl rfl rfl rfl rfl rfl (Dt (x.links.set (Ae x w (B8 x w)).toNat (Dn (An x (Ae x w (B8 x w))) (B7 x w)).1)) (E4 hlk rfl) (Al ?_)
   first|(refine B9 7 rfl [0,1,2,3,4,5,6,7] Aa (Al ?_))|(refine B9 10 rfl [0,1,2,3,4,5,6,7,8,9,10,11,12] Aa (Al ?_))|(refine B9 14 rfl [0,1,2,3,4,5,6,7,8,9] Aa (Al ?_))
   refine B4 (A07 (Bt (A6 x w)) (B7 x w).stamp.epoch Ac hWP.2.2.2.1) rfl (Al ?_)
   (repeat refine Ar ?_)
   refine D7 (j:=w) A0 rfl rfl rfl rfl rfl rfl rfl rfl (Be (x.workers.set w.toNat (Cs (Bt (A6 x w)) (B7 x w).stamp.epoch))) (E4 hk rfl) (Al ?_)
   rw [Yb hM h3 h4]
   refine Ao A0 rfl rfl ?_
   exact Ca
theorem A4f {c:A3}{f t:Int}(h:¬ Jw c f t):Cd c f t=(c,false):=if_neg fun p=>h p.1
theorem Yc {c:A3}{f t:Int}(h:(At (An c (Ae c f t))).2.2=false):Cd c f t=(c,false):=if_neg fun p=>by rw [p.2] at h;cases h
theorem A1s {c:A3}{f t:Int}(h:Jw c f t)(h1:(At (An c (Ae c f t))).2.2=true):Cd c f t=(Av (B6 c (Ae c f t) (At (An c (Ae c f t))).1) t (Cj (A6 c t) (At (An c (Ae c f t))).2.1),true):=if_pos ⟨h,h1⟩
theorem Y8 {c:A3}{f t:Int}(h:¬ Jw c f t):Br c f t=(c,false):=if_neg h
theorem Wz {c:A3}{f t:Int}(h:Jw c f t):Br c f t=(B6 c (Ae c f t) (Bn (An c (Ae c f t))).1,(Bn (An c (Ae c f t))).2):=if_pos h
def Nl (c:A3) (f t:Int):Int:=if Jw c f t then Ae c f t else-1
theorem B32 {c:A3}{f t:Int}(hC:Ap c)(hne:f≠t):Ij c.graph.workers f t=Nl c f t:=by
 unfold Nl
 by_cases h:Jw c f t
 ·rw [if_pos h,Qd hC.1.1.2.1 h.2.2.1 h.2.2.2]
  rfl
 ·rw [if_neg h,A1e (fun p=>h ⟨hC,hne,p⟩)]
theorem Wc (x:A3)(f t:Int)(h:x.w≤16000000)(hgo:J9 x):B0 Tryz.prog 201 [.agg x.c,.one (vi f),.one (vi t)] [.one (vi (Nl x f t))]:=by
 refine Ay A0 false Tryz.func201 rfl Bu fun W=>?_
 conv=>whnf
 refine Aw (Js x Ac hgo) rfl (Al ?_)
 refine ⟨fun h1=>?_,fun h1=>?_⟩<;>conv=>whnf
 ·have h1:¬ Ap x:=of_decide_eq_false (by simpa [Fp] using h1)
  repeat refine Bi ?_
  rw [Nl,if_neg (fun p=>h1 p.1)]
  refine Ao A0 rfl rfl ?_
  exact Ca
 have h1:Ap x:=of_decide_eq_true (show Fp x=true by simpa using h1)
 repeat refine Bi ?_
 refine ⟨fun h2=>have h2:=eq_of_beq h2;?_,fun h2=>have h2:=beq_eq_false_iff_ne.1 h2;?_⟩<;>conv=>whnf
 ·repeat refine Bi ?_
  rw [Nl,if_neg (fun p=>p.2.1 h2)]
  refine Ao A0 rfl rfl ?_
  exact Ca
 repeat refine Bi ?_
 refine Aw (Qb x.graph f t) rfl (Al ?_)
 rw [B32 h1 h2]
 refine Ao A0 rfl rfl ?_
 exact Ca
set_option maxHeartbeats 4000000 in
theorem We (x:A3)(f t:Int)(h:x.w≤16000000)(hgo:J9 x):B0 Tryz.prog 170 [.agg x.c,.one (vi f),.one (vi t)] [.agg (Br x f t).1.c,.one (vb (Br x f t).2)]:=by
 refine Ay A0 false Tryz.func170 rfl Bu fun W=>?_
 conv=>whnf
 refine B4 (Dz x Ac) rfl (Al ?_)
 refine Aw (Wc x f t h hgo) rfl (Al ?_)
 cases hL:decide (Jw x f t)
 ·have hL:¬ Jw x f t:=of_decide_eq_false hL
  rw [Nl,if_neg hL]
  repeat refine Bi ?_
  rw [Y8 hL]
  refine Ao A0 rfl rfl ?_
  exact Ca
 have hL:Jw x f t:=of_decide_eq_true hL
 have hC:=hL.1
 have hln:=T6 hC hL.2.2.1 hL.2.2.2
 have hlk:(Ae x f t).toNat<x.links.length:=by omega
 have hlw:=A3.link_le h hlk
 have hog:=hgo _ (Aq (d:=default) hlk)
 rw [Nl,if_pos hL]
 refine O3 B16 ?_
 conv=>whnf
 (repeat refine Ar ?_)
 refine B4 (W7 (An x (Ae x f t)) (by show (x.links.getD _ default).w≤_;omega) hog) rfl (Al ?_)
 (repeat refine Ar ?_)
 refine D7 (j:=(Ae x f t)) A0 rfl rfl rfl rfl rfl rfl rfl rfl (Dt (x.links.set (Ae x f t).toNat (Bn (An x (Ae x f t))).1)) (E4 hlk rfl) (Al ?_)
 rw [Wz hL]
 refine Ao A0 rfl rfl ?_
 exact Ca
set_option maxHeartbeats 4000000 in
theorem A04 (x:A3)(f t:Int)(h:x.w≤8000000)(hgo:J9 x):B0 Tryz.prog 169 [.agg x.c,.one (vi f),.one (vi t)] [.agg (Cd x f t).1.c,.one (vb (Cd x f t).2)]:=by
 have h8:=h
 have h:x.w≤16000000:=by omega
 refine Ay A0 false Tryz.func169 rfl Bu fun W=>?_
 conv=>whnf
 refine B4 (Dz x Ac) rfl (Al ?_)
 refine Aw (Wc x f t h hgo) rfl (Al ?_)
 cases hL:decide (Jw x f t)
 ·have hL:¬ Jw x f t:=of_decide_eq_false hL
  rw [Nl,if_neg hL]
  repeat refine Bi ?_
  rw [A4f hL]
  refine Ao A0 rfl rfl ?_
  exact Ca
 have hL:Jw x f t:=of_decide_eq_true hL
 have hC:=hL.1
 have hln:=T6 hC hL.2.2.1 hL.2.2.2
 have hlk:(Ae x f t).toNat<x.links.length:=by omega
 have hlw:=A3.link_le h hlk
 have hog:=hgo _ (Aq (d:=default) hlk)
 rw [Nl,if_pos hL]
 refine O3 B16 ?_
 conv=>whnf
 (repeat refine Ar ?_)
 refine B4 (A09 (An x (Ae x f t)) (by show (x.links.getD _ default).w≤_;omega) hog) rfl (Al ?_)
 refine ⟨fun h4=>?_,fun h4=>?_⟩<;>conv=>whnf
 ·have h4:(At (An x (Ae x f t))).2.2=false:=by simpa using h4
  repeat refine Bi ?_
  rw [Yc h4]
  refine Ao A0 rfl rfl ?_
  exact Ca
 have h4:(At (An x (Ae x f t))).2.2=true:=by simpa using h4
 have hT:0<(An x (Ae x f t)).queue.length:=by
  rcases Nat.eq_zero_or_pos (An x (Ae x f t)).queue.length with e|e
  ·rw [A2g (fun p=>by omega)] at h4;cases h4
  ·exact e
 have hLA:=hC.2.2.1 _ hlk
 have hLP:Gy (An x (Ae x f t)):=hLA.1
 have hrec:(At (An x (Ae x f t))).2.1=(An x (Ae x f t)).queue.getD 0 default:=by rw [A5j ⟨hLP,hT⟩]
 have hRP:Ja (At (An x (Ae x f t))).2.1:=by rw [hrec];exact hLP.2 _ (Aq hT)
 have hb:=hL.2.2.2
 have hwl:=hC.1.2.1
 have hk:t.toNat<x.workers.length:=by omega
 have hw:=A3.worker_le h8 hk
 have hWP:=hC.2.1 _ (Aq (d:=default) hk)
 repeat refine Bi ?_
 (repeat refine Ar ?_)
 refine D7 (j:=(Ae x f t)) A0 rfl rfl rfl rfl rfl rfl rfl rfl (Dt (x.links.set (Ae x f t).toNat (At (An x (Ae x f t))).1)) (E4 hlk rfl) (Al ?_)
 first|(refine B9 9 rfl [0,1,2,3,4,5,6,7,8,9,10,11] Aa (Al ?_))
 (repeat refine Ar ?_)
 refine B4 (A06 (A6 x t) (At (An x (Ae x f t))).2.1 (by show (x.workers.getD _ default).w≤_;omega) hWP.2.2.2.1 hWP.2.1.1 hWP.2.1.2.1 hRP.2.1) rfl (Al ?_)
 (repeat refine Ar ?_)
 refine D7 (j:=t) A0 rfl rfl rfl rfl rfl rfl rfl rfl (Be (x.workers.set t.toNat (Cj (A6 x t) (At (An x (Ae x f t))).2.1))) (E4 hk rfl) (Al ?_)
 rw [A1s hL h4]
 refine Ao A0 rfl rfl ?_
 exact Ca
end Go.Proofs.YtonodkjaoalfjaaGreat
