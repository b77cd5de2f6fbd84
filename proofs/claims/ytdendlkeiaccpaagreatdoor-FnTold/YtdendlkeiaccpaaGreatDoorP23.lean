/- Part 23 of the proof that each of the laws FnTold returns true for every input. No conditions. -/
import Derived.Test.YtdendlkeiaccpaaGreatDoorP22
import Derived.Test.YtdendlkeiaccpaaGreatDoorP21
import Derived.Test.YtdendlkeiaccpaaGreatDoorP18
import Derived.Test.YtdendlkeiaccpaaGreatDoorP20

set_option linter.unusedSimpArgs false
set_option linter.unusedVariables false
set_option maxRecDepth 100000
namespace Go.Proofs.YtdendlkeiaccpaaGreatDoor
open Go.Sx
theorem E6 {n:Int}(h: -9000000000≤n)(h':n≤9000000000):Ee .i64 n:=⟨by omega,by omega⟩
theorem A6z (d:Dx)(i h:Int)(hi:0≤i∧i≤d.n):Cw Tryz.prog HT 191 d.pins (d.cur i h) [] (fun r:Int×Int×Ec=>(0≤r.1∧r.1≤d.n)∧(0≤r.2.2.epoch∧r.2.2.epoch≤3)∧r.2.2.ok) (fun r=>d.cur r.1 r.2.1) (fun r=>[.agg r.2.2.c]):=by
 refine Dn A0 false Tryz.func191 rfl Aw fun B b hH hp=>?_
 conv=>whnf
 refine Aj (Ai d i h 4 hi Aw) hH hp rfl Ay rfl rfl (fun r hr=>go A0 false ?_)
 conv=>whnf
 refine Aj (Ai d r.1 r.2.1 5 hr.1 Aw) hH hp rfl Ay rfl rfl (fun r2 hr2=>go A0 false ?_)
 conv=>whnf
 have h4:=hr.2.2.2 Aw
 have h5:=hr.2.1
 have h6:=hr2.2.2.2 Aw
 have h7:=hr2.2.1
 exact Bl A0 (r2.1,r2.2.1,⟨r.2.2,r2.2.2⟩) ⟨hr2.1,⟨hr.2.1,by show r.2.2≤3;omega⟩,E6 (by show _≤r.2.2;omega) (by show r.2.2≤_;omega),E6 (by show _≤r2.2.2;omega) (by show r2.2.2≤_;omega)⟩ rfl rfl rfl rfl Ay
theorem P6 (d:Dx)(i h:Int)(hi:0≤i∧i≤d.n):Cw Tryz.prog HT 159 d.pins (d.cur i h) [] (fun r:Int×Int×Ae=>(0≤r.1∧r.1≤d.n)∧(0≤r.2.2.stamp.epoch∧r.2.2.stamp.epoch≤3)∧r.2.2.ok) (fun r=>d.cur r.1 r.2.1) (fun r=>[.agg r.2.2.c]):=by
 refine Dn A0 false Tryz.func159 rfl Aw fun B b hH hp=>?_
 conv=>whnf
 refine Aj (Ai d i h 5 hi Aw) hH hp rfl Ay rfl rfl (fun r hr=>go A0 false ?_)
 conv=>whnf
 refine Aj (A6z d r.1 r.2.1 hr.1) hH hp rfl Ay rfl rfl (fun s hs=>go A0 false ?_)
 conv=>whnf
 refine Aj (Ai d s.1 s.2.1 12 hs.1 Aw) hH hp rfl Ay rfl rfl (fun r2 hr2=>go A0 false ?_)
 conv=>whnf
 refine Aj (Ai d r2.1 r2.2.1 40 hr2.1 Aw) hH hp rfl Ay rfl rfl (fun r3 hr3=>go A0 false ?_)
 conv=>whnf
 have k1:=hr.2.2.2 Aw
 have k2:=hr.2.1
 have k3:=hr2.2.2.2 Aw
 have k4:=hr2.2.1
 have k5:=hr3.2.2.2 Aw
 have k6:=hr3.2.1
 exact Bl A0 (r3.1,r3.2.1,⟨r.2.2,s.2.2,r2.2.2,r3.2.2⟩) ⟨hr3.1,hs.2.1,E6 (by show _≤r.2.2;omega) (by show r.2.2≤_;omega),hs.2.2,E6 (by show _≤r2.2.2;omega) (by show r2.2.2≤_;omega),E6 (by show _≤r3.2.2;omega) (by show r3.2.2≤_;omega)⟩ rfl rfl rfl rfl Ay
theorem Ys (d:Dx)(i h:Int)(g:Ap)(hi:0≤i∧i≤d.n)(hg:g.nodes.length≤1000):Cw Tryz.prog HT 187 d.pins (d.cur i h) [.agg g.c] (fun r:Int×Int×Ae=>(0≤r.1∧r.1≤d.n)∧(0≤r.2.2.stamp.epoch∧r.2.2.stamp.epoch≤3)∧r.2.2.ok) (fun r=>d.cur r.1 r.2.1) (fun r=>[.agg r.2.2.c]):=by
 refine Dn A0 false Tryz.func187 rfl Aw fun B b hH hp=>?_
 conv=>whnf
 refine Aj (P6 d i h hi) hH hp rfl Ay rfl rfl (fun r hr=>go A0 false ?_)
 conv=>whnf
 refine ⟨fun c0=>?_,fun c0=>?_⟩<;>conv=>whnf
 ·refine Aj (Ai d r.1 r.2.1 g.nodes.length hr.1 Ab) hH hp rfl Ay rfl rfl (fun r2 hr2=>go A0 false ?_)
  conv=>whnf
  have k2:=hr2.2.1
  have k3:=hr2.2.2.2
  have ho2:Ee .i64 r2.2.2:=E6 Ab (by have:=k3 (of_decide_eq_true c0);omega)
  refine Aj (Q7 d r2.1 r2.2.1 4 hr2.1 Aw) hH hp rfl Ay rfl rfl (fun r3 hr3=>go A0 false ?_)
  conv=>whnf
  refine ⟨fun c1=>?_,fun c1=>?_⟩<;>conv=>whnf
  ·refine Aj (Ai d r3.1 r3.2.1 2 hr3 Aw) hH hp rfl Ay rfl rfl (fun r4 hr4=>go A0 false ?_)
   conv=>whnf
   have h4:=hr4.2.2.2 Aw
   have h5:=hr4.2.1
   (repeat refine An ?_)
   exact Bl A0 (r4.1,r4.2.1,⟨r2.2.2,⟨r.2.2.stamp.epoch,5+r4.2.2⟩,r.2.2.key,r.2.2.val⟩) ⟨hr4.1,hr.2.1,ho2,⟨hr.2.2.2.1.1,E6 (by show _≤5+r4.2.2;omega) (by show 5+r4.2.2≤_;omega)⟩,hr.2.2.2.2⟩ rfl rfl rfl rfl Ay
  exact Bl A0 (r3.1,r3.2.1,⟨r2.2.2,r.2.2.stamp,r.2.2.key,r.2.2.val⟩) ⟨hr3,hr.2.1,ho2,hr.2.2.2⟩ rfl rfl rfl rfl Ay
 refine Aj (Q7 d r.1 r.2.1 4 hr.1 Aw) hH hp rfl Ay rfl rfl (fun r3 hr3=>go A0 false ?_)
 conv=>whnf
 refine ⟨fun c1=>?_,fun c1=>?_⟩<;>conv=>whnf
 ·refine Aj (Ai d r3.1 r3.2.1 2 hr3 Aw) hH hp rfl Ay rfl rfl (fun r4 hr4=>go A0 false ?_)
  conv=>whnf
  have h4:=hr4.2.2.2 Aw
  have h5:=hr4.2.1
  (repeat refine An ?_)
  exact Bl A0 (r4.1,r4.2.1,⟨r.2.2.op,⟨r.2.2.stamp.epoch,5+r4.2.2⟩,r.2.2.key,r.2.2.val⟩) ⟨hr4.1,hr.2.1,hr.2.2.1,⟨hr.2.2.2.1.1,E6 (by show _≤5+r4.2.2;omega) (by show 5+r4.2.2≤_;omega)⟩,hr.2.2.2.2⟩ rfl rfl rfl rfl Ay
 exact Bl A0 (r3.1,r3.2.1,r.2.2) ⟨hr3,hr.2⟩ rfl rfl rfl rfl Ay
theorem B56 {xs:List Ae}(h:xs.length≤5)(ho:∀y∈xs,y.ok):WD 0 (Hc xs):=by
 refine ⟨?_,rfl,rfl,fun n hn=>?_,B3y ho⟩
 ·simp only [A9.w,Hc,List.length_nil,List.length_replicate];omega
 have:n=0:=List.eq_of_mem_replicate hn
 omega
theorem A0h {k:Nat}{x y:A9}(h:WD k x)(hw:y.w≤x.w+3)(hs:y.sums=x.sums)(hb:y.black.length=x.black.length)(ho:Tl y):WD (k+1) y:=
 ⟨by have:=h.w;omega,by rw [hs];exact h.s4,by rw [hb];exact h.b4,fun n hn=>by rw [hs] at hn;have:=h.s n hn;omega,ho⟩
theorem B67 {k m:Nat}{x:A9}(h:WD k x)(hk:k≤m):WD m x:=⟨by have:=h.w;omega,h.s4,h.b4,fun n hn=>by have:=h.s n hn;omega,h.o⟩
theorem B4o {k:Nat}{x:A9}{g:Ap}(h:WD k x):WD (k+1) (Dm g x).1:=by
 have hw:=T1 (g:=g) (w:=x)
 refine A0h h Ab ?_ ?_ (B02 h.o)<;>unfold Dm<;>split<;>rfl
theorem B4p {k:Nat}{x:A9}{g:Ap}(h:WD k x):WD (k+1) (Fk g x).1:=by
 have hw:=A2z (g:=g) (w:=x)
 refine A0h h Ab ?_ ?_ (B03 h.o)<;>unfold Fk<;>split<;>first|rfl|(unfold Ij;rfl)
theorem B58 {k:Nat}{x:A9}(h:WD k x):WD (k+1) (Hp x).1:=by
 refine A0h h ?_ ?_ ?_ (B3z h.o)<;>unfold Hp<;>split<;>first|rfl|(simp only [A9.w,Ei,List.length_drop];omega)|omega
theorem B57 {k:Nat}{x:A9}{r:Ae}(h:WD k x)(he:0≤r.stamp.epoch∧r.stamp.epoch≤3)(ho:r.ok)(hk8:k≤8):WD (k+1) (En x r):=by
 have hw:=V9 (w:=x) (r:=r)
 rw [Qt h.s4 h.b4 he] at *
 refine ⟨by have:=h.w;omega,?_,?_,fun n hn=>?_,B01 (B4z (q:=x.black.set r.stamp.epoch.toNat true) (B41 (q:=x.queue++[r]) h.o (I6 h.o.q ho))) (Q0 h.o.n ?_)⟩
 ·simp only [I8,Fe,kept,List.length_set];exact h.s4
 ·simp only [I8,Fe,kept,List.length_set];exact h.b4
 ·have hn:n∈x.sums.set r.stamp.epoch.toNat (x.sums.getD r.stamp.epoch.toNat default+ -1):=hn
  rcases List.mem_or_eq_of_mem_set hn with hn|rfl
  ·have:=h.s n hn;omega
  have hk:r.stamp.epoch.toNat<x.sums.length:=by have:=h.s4;omega
  have:=h.s _ (B8 (d:=default) hk)
  omega
 have hk:r.stamp.epoch.toNat<x.sums.length:=by have:=h.s4;omega
 have:=h.s _ (B8 (d:=default) hk)
 exact E6 (by show _≤x.sums.getD _ _+_;omega) (by show x.sums.getD _ _+_≤_;omega)
structure JWk where
 k:Nat
 i:Int
 h:Int
 x:A9
set_option maxHeartbeats 4000000 in
theorem A3e (d:Dx)(i h:Int)(g:Ap)(hi:0≤i∧i≤d.n)(hg:g.w≤1000):Cw Tryz.prog HT 157 d.pins (d.cur i h) [.agg g.c] (fun r:Int×Int×A9=>(0≤r.1∧r.1≤d.n)∧WD 8 r.2.2) (fun r=>d.cur r.1 r.2.1) (fun r=>[.agg r.2.2.c]):=by
 have hgl:g.nodes.length≤g.w:=by show g.nodes.length≤g.nodes.length+(g.nodes.map Aq.w).sum;omega
 refine Dn A0 false Tryz.func157 rfl Aw fun B b hH hp=>?_
 conv=>whnf
 refine Aj (X9 d i h hi) hH hp rfl Ay rfl rfl (fun r hr=>go A0 false ?_)
 conv=>whnf
 have hrl:=hr.2.1
 refine Cq (Oq r.2.2 Ab) rfl (A8 ?_)
 refine C0 A0 false [8,9] (fun j:JWk=>[(6,.c (vi j.k))]) (fun j=>[⟨12,[.own 4,.own 5,.own 6,.own 7,.own 8,.own 9,.own 10,.own 11]⟩,⟨0,[.c (.val d.v),.c (vi j.i),.c (vi j.h)]⟩,⟨2,[.c (.val (.slice none 0 0)),.c (.val (.slice none 0 0)),.c (.val (.slice none 0 0)),.c (.val (.slice none 0 0)),.c (.val (.slice none 0 0)),.c (.val (.slice none 0 0)),.c (.val (.slice none 0 0)),.c (.val (.slice none 0 0))]⟩,⟨1,[.c (Bp g.nodes),.c (vi g.workers),.c (vi g.cap)]⟩]) (fun j=>[⟨4,Ah j.x.queue⟩,⟨5,Ah j.x.staged⟩,⟨6,Ah j.x.inputs⟩,⟨7,Ak j.x.cells⟩,⟨8,At j.x.sums⟩,⟨9,Ek j.x.black⟩,⟨10,Ek j.x.caps⟩,⟨11,Hv j.x.dones⟩]) (fun j=>(0≤j.i∧j.i≤d.n)∧j.k≤7∧WD j.k j.x) (fun j=>8-j.k) (⟨0,r.1,r.2.1,Hc r.2.2⟩) (⟨hr.1,Nat.zero_le _,B56 hrl (B28 hr.2)⟩) ⟨G9,trivial⟩ Cf ⟨Eu,Eu,Eu,Eu,Eu,Eu,Eu,Eu,trivial⟩ Cr A7 (fun j hj=>?_)
 conv=>whnf
 obtain ⟨hi2,hk2,hx⟩:=hj
 have hxw:=hx.w
 refine Aj (Ai d j.i j.h 8 hi2 Aw) hH hp rfl Ay rfl rfl (fun s hs=>go A0 false ?_)
 conv=>whnf
 refine Fi (fun hlt=>?_) fun hlt=>?_<;>conv=>whnf
 ·have hlt2:s.2.2<8:=hs.2.2.2 Aw
  refine Aj (Ai d s.1 s.2.1 5 hs.1 Aw) hH hp rfl Ay rfl rfl (fun t ht=>go A0 false ?_)
  conv=>whnf
  refine ⟨fun c0=>?_,fun c0=>?_⟩<;>conv=>whnf
  ·refine Cq (Wp g j.x Ab Ab) rfl (A8 ?_)
   (repeat refine An ?_)
   refine B9 [(4,13),(5,14),(6,15),(7,16),(8,17),(9,18),(10,19),(11,20)] (⟨j.k+1,t.1,t.2.1,(Dm g j.x).1⟩) (⟨ht.1,by show j.k+1≤7;omega,B4o hx⟩) (by show 8-(j.k+1)<_;omega) ⟨rfl,trivial⟩ ⟨rfl,rfl,rfl,rfl,rfl,rfl,rfl,rfl,trivial⟩ Cf A7 Cr A7
  refine ⟨fun c1=>?_,fun c1=>?_⟩<;>conv=>whnf
  ·refine Fq rfl ?_
   refine Am A0 false 1 rfl rfl rfl A7 rfl (A4 B2) ?_
   refine A3 [0,2] A7 ⟨?_,?_,trivial⟩
   focus
    refine A8 ?_
    refine A6 (A3 [2] A7 ⟨A8 ?_,trivial⟩)
    refine A6 (A3 [3] A7 ⟨A8 ?_,trivial⟩)
    refine Aj (Ys d t.1 t.2.1 g ht.1 Ab) hH hp rfl Ay rfl rfl (fun r9 hr9=>go A0 false ?_)
    conv=>whnf
    refine A6 (A3 [4] A7 ⟨A8 ?_,trivial⟩)
    refine Cq (Mg j.x r9.2.2 Ab (fun n hn=>by have:=hx.s n hn;omega) hx.s4 hx.b4 hr9.2.1) rfl (A8 ?_)
    refine A6 (A3 [5] A7 ⟨A8 ?_,trivial⟩)
    refine A6 (Au A7 (A8 ?_))
   rotate_left 1
   focus
    refine A8 ?_
    refine A6 ?_
    refine A3 [0,3] A7 ⟨?_,?_,trivial⟩
    focus
     refine A8 ?_
     refine A6 (A3 [3] A7 ⟨A8 ?_,trivial⟩)
     refine Aj (Ys d t.1 t.2.1 g ht.1 Ab) hH hp rfl Ay rfl rfl (fun r9 hr9=>go A0 false ?_)
     conv=>whnf
     refine A6 (A3 [4] A7 ⟨A8 ?_,trivial⟩)
     refine Cq (Mg j.x r9.2.2 Ab (fun n hn=>by have:=hx.s n hn;omega) hx.s4 hx.b4 hr9.2.1) rfl (A8 ?_)
     refine A6 (A3 [5] A7 ⟨A8 ?_,trivial⟩)
     refine A6 (Au A7 (A8 ?_))
    rotate_left 1
    focus
     refine A8 ?_
     refine Aj (Ys d t.1 t.2.1 g ht.1 Ab) hH hp rfl Ay rfl rfl (fun r9 hr9=>go A0 false ?_)
     conv=>whnf
     refine A6 (A3 [0] A7 ⟨A8 ?_,trivial⟩)
     refine A6 (A3 [4] A7 ⟨A8 ?_,trivial⟩)
     refine Cq (Mg j.x r9.2.2 Ab (fun n hn=>by have:=hx.s n hn;omega) hx.s4 hx.b4 hr9.2.1) rfl (A8 ?_)
     refine A6 (A3 [5] A7 ⟨A8 ?_,trivial⟩)
     refine A6 (Au A7 (A8 ?_))
   all_goals
    (repeat refine An ?_)
    refine B9 [(4,13),(5,14),(6,15),(7,16),(8,17),(9,18),(10,19),(11,20)] (⟨j.k+1,r9.1,r9.2.1,En j.x r9.2.2⟩) (⟨hr9.1,by show j.k+1≤7;omega,B57 hx hr9.2.1 hr9.2.2 Ab⟩) (by show 8-(j.k+1)<_;omega) ⟨rfl,trivial⟩ ⟨rfl,rfl,rfl,rfl,rfl,rfl,rfl,rfl,trivial⟩ Cf A7 Cr A7
  refine ⟨fun c2=>?_,fun c2=>?_⟩<;>conv=>whnf
  ·refine Cq (Zx j.x Ab) rfl (A8 ?_)
   (repeat refine An ?_)
   refine B9 [(4,13),(5,14),(6,15),(7,16),(8,17),(9,18),(10,19),(11,20)] (⟨j.k+1,t.1,t.2.1,(Hp j.x).1⟩) (⟨ht.1,by show j.k+1≤7;omega,B58 hx⟩) (by show 8-(j.k+1)<_;omega) ⟨rfl,trivial⟩ ⟨rfl,rfl,rfl,rfl,rfl,rfl,rfl,rfl,trivial⟩ Cf A7 Cr A7
  refine Cq (A4i g j.x Ab Ab) rfl (A8 ?_)
  (repeat refine An ?_)
  refine B9 [(4,13),(5,14),(6,15),(7,16),(8,17),(9,18),(10,19),(11,20)] (⟨j.k+1,t.1,t.2.1,(Fk g j.x).1⟩) (⟨ht.1,by show j.k+1≤7;omega,B4p hx⟩) (by show 8-(j.k+1)<_;omega) ⟨rfl,trivial⟩ ⟨rfl,rfl,rfl,rfl,rfl,rfl,rfl,rfl,trivial⟩ Cf A7 Cr A7
 exact Bl A0 (s.1,s.2.1,j.x) ⟨hs.1,B67 hx Ab⟩ rfl rfl rfl rfl Ay
theorem Fs (xs:List Int)(k:Nat)(h:∀x∈xs,Ee .i64 x):Ee .i64 (xs.getD k 0):=Ue (p:=fun w=>Ee .i64 w) xs k 0 h ⟨by decide,by decide⟩
theorem Dp {n:Int}(h: -9223372036854775808≤n)(h':n≤9223372036854775807):Ee .i64 n:=⟨h,h'⟩
theorem A05 (d:Dx)(i h:Int)(hi:0≤i∧i≤d.n):Cw Tryz.prog HT 191 d.pins (d.cur i h) [] (fun r:Int×Int×Ec=>(0≤r.1∧r.1≤d.n)∧r.2.2.ok) (fun r=>d.cur r.1 r.2.1) (fun r=>[.agg r.2.2.c]):=by
 refine Dn A0 false Tryz.func191 rfl Aw fun B b hH hp=>?_
 conv=>whnf
 refine Aj (Ai d i h 4 hi Aw) hH hp rfl Ay rfl rfl (fun r hr=>go A0 false ?_)
 conv=>whnf
 refine Aj (Ai d r.1 r.2.1 5 hr.1 Aw) hH hp rfl Ay rfl rfl (fun r2 hr2=>go A0 false ?_)
 conv=>whnf
 exact Bl A0 (r2.1,r2.2.1,⟨r.2.2,r2.2.2⟩) ⟨hr2.1,Dp (by show _≤r.2.2;omega) (by show r.2.2≤_;omega),Dp (by show _≤r2.2.2;omega) (by show r2.2.2≤_;omega)⟩ rfl rfl rfl rfl Ay
theorem A03 (d:Dx)(i h:Int)(hi:0≤i∧i≤d.n):Cw Tryz.prog HT 190 d.pins (d.cur i h) [] (fun r:Int×Int×Ec=>(0≤r.1∧r.1≤d.n)∧r.2.2.ok) (fun r=>d.cur r.1 r.2.1) (fun r=>[.agg r.2.2.c]):=by
 refine Dn A0 false Tryz.func190 rfl Aw fun B b hH hp=>?_
 conv=>whnf
 refine Aj (A05 d i h hi) hH hp rfl Ay rfl rfl (fun r hr=>go A0 false ?_)
 conv=>whnf
 refine Aj (Ai d r.1 r.2.1 10 hr.1 Aw) hH hp rfl Ay rfl rfl (fun r2 hr2=>go A0 false ?_)
 conv=>whnf
 refine ⟨fun c0=>?_,fun c0=>?_⟩<;>conv=>whnf
 ·refine Ev 3 (At [-1,3,4,9223372036854775807]) rfl (Bd rfl Cf) ?_
  refine Aj (Cn d r2.1 r2.2.1 [-1,3,4,9223372036854775807] hr2.1 Aw) hH hp rfl Ay rfl rfl (fun r3 hr3=>go A0 false ?_)
  conv=>whnf
  exact Bl A0 (r3.1,r3.2.1,⟨[-1,3,4,9223372036854775807].getD r3.2.2 0,r.2.2.turn⟩) ⟨hr3.1,Fs _ _ (by intro x hx;simp only [List.mem_cons,List.not_mem_nil,or_false] at hx;show _∧_;omega),hr.2.2⟩ rfl rfl rfl rfl Ay
 refine ⟨fun c1=>?_,fun c1=>?_⟩<;>conv=>whnf
 ·refine Ev 3 (At [-1,5,6,7,-9223372036854775808]) rfl (Bd rfl Cf) ?_
  refine Aj (Cn d r2.1 r2.2.1 [-1,5,6,7,-9223372036854775808] hr2.1 Aw) hH hp rfl Ay rfl rfl (fun r3 hr3=>go A0 false ?_)
  conv=>whnf
  exact Bl A0 (r3.1,r3.2.1,⟨r.2.2.epoch,[-1,5,6,7,-9223372036854775808].getD r3.2.2 0⟩) ⟨hr3.1,hr.2.1,Fs _ _ (by intro x hx;simp only [List.mem_cons,List.not_mem_nil,or_false] at hx;show _∧_;omega)⟩ rfl rfl rfl rfl Ay
 exact Bl A0 (r2.1,r2.2.1,r.2.2) ⟨hr2.1,hr.2⟩ rfl rfl rfl rfl Ay
theorem A6y (d:Dx)(i h:Int)(hi:0≤i∧i≤d.n):Cw Tryz.prog HT 159 d.pins (d.cur i h) [] (fun r:Int×Int×Ae=>(0≤r.1∧r.1≤d.n)∧r.2.2.ok) (fun r=>d.cur r.1 r.2.1) (fun r=>[.agg r.2.2.c]):=by
 refine Dn A0 false Tryz.func159 rfl Aw fun B b hH hp=>?_
 conv=>whnf
 refine Aj (Ai d i h 5 hi Aw) hH hp rfl Ay rfl rfl (fun r hr=>go A0 false ?_)
 conv=>whnf
 refine Aj (A05 d r.1 r.2.1 hr.1) hH hp rfl Ay rfl rfl (fun s hs=>go A0 false ?_)
 conv=>whnf
 refine Aj (Ai d s.1 s.2.1 12 hs.1 Aw) hH hp rfl Ay rfl rfl (fun r2 hr2=>go A0 false ?_)
 conv=>whnf
 refine Aj (Ai d r2.1 r2.2.1 40 hr2.1 Aw) hH hp rfl Ay rfl rfl (fun r3 hr3=>go A0 false ?_)
 conv=>whnf
 exact Bl A0 (r3.1,r3.2.1,⟨r.2.2,s.2.2,r2.2.2,r3.2.2⟩) ⟨hr3.1,Dp (by show _≤r.2.2;omega) (by show r.2.2≤_;omega),hs.2,Dp (by show _≤r2.2.2;omega) (by show r2.2.2≤_;omega),Dp (by show _≤r3.2.2;omega) (by show r3.2.2≤_;omega)⟩ rfl rfl rfl rfl Ay
theorem Q5 (d:Dx)(i h:Int)(hi:0≤i∧i≤d.n):Cw Tryz.prog HT 158 d.pins (d.cur i h) [] (fun r:Int×Int×Ae=>(0≤r.1∧r.1≤d.n)∧r.2.2.ok) (fun r=>d.cur r.1 r.2.1) (fun r=>[.agg r.2.2.c]):=by
 refine Dn A0 false Tryz.func158 rfl Aw fun B b hH hp=>?_
 conv=>whnf
 refine Aj (A6y d i h hi) hH hp rfl Ay rfl rfl (fun r hr=>go A0 false ?_)
 conv=>whnf
 refine Aj (Ai d r.1 r.2.1 12 hr.1 Aw) hH hp rfl Ay rfl rfl (fun r2 hr2=>go A0 false ?_)
 conv=>whnf
 refine ⟨fun c0=>?_,fun c0=>?_⟩<;>conv=>whnf
 ·refine Ev 3 (At [-1,7,8]) rfl (Bd rfl Cf) ?_
  refine Aj (Cn d r2.1 r2.2.1 [-1,7,8] hr2.1 Aw) hH hp rfl Ay rfl rfl (fun r3 hr3=>go A0 false ?_)
  conv=>whnf
  exact Bl A0 (r3.1,r3.2.1,⟨[-1,7,8].getD r3.2.2 0,r.2.2.stamp,r.2.2.key,r.2.2.val⟩) ⟨hr3.1,Fs _ _ (by intro x hx;simp only [List.mem_cons,List.not_mem_nil,or_false] at hx;show _∧_;omega),hr.2.2⟩ rfl rfl rfl rfl Ay
 refine ⟨fun c1=>?_,fun c1=>?_⟩<;>conv=>whnf
 ·refine Aj (A03 d r2.1 r2.2.1 hr2.1) hH hp rfl Ay rfl rfl (fun r3 hr3=>go A0 false ?_)
  conv=>whnf
  exact Bl A0 (r3.1,r3.2.1,⟨r.2.2.op,r3.2.2,r.2.2.key,r.2.2.val⟩) ⟨hr3.1,hr.2.1,hr3.2,hr.2.2.2⟩ rfl rfl rfl rfl Ay
 refine ⟨fun c2=>?_,fun c2=>?_⟩<;>conv=>whnf
 ·refine Ev 3 (At [-1,99,100,-9223372036854775808]) rfl (Bd rfl Cf) ?_
  refine Aj (Cn d r2.1 r2.2.1 [-1,99,100,-9223372036854775808] hr2.1 Aw) hH hp rfl Ay rfl rfl (fun r3 hr3=>go A0 false ?_)
  conv=>whnf
  exact Bl A0 (r3.1,r3.2.1,⟨r.2.2.op,r.2.2.stamp,[-1,99,100,-9223372036854775808].getD r3.2.2 0,r.2.2.val⟩) ⟨hr3.1,hr.2.1,hr.2.2.1,Fs _ _ (by intro x hx;simp only [List.mem_cons,List.not_mem_nil,or_false] at hx;show _∧_;omega),hr.2.2.2.2⟩ rfl rfl rfl rfl Ay
 refine ⟨fun c3=>?_,fun c3=>?_⟩<;>conv=>whnf
 ·refine Ev 3 (At [-1,999,1000,9223372036854775807]) rfl (Bd rfl Cf) ?_
  refine Aj (Cn d r2.1 r2.2.1 [-1,999,1000,9223372036854775807] hr2.1 Aw) hH hp rfl Ay rfl rfl (fun r3 hr3=>go A0 false ?_)
  conv=>whnf
  exact Bl A0 (r3.1,r3.2.1,⟨r.2.2.op,r.2.2.stamp,r.2.2.key,[-1,999,1000,9223372036854775807].getD r3.2.2 0⟩) ⟨hr3.1,hr.2.1,hr.2.2.1,hr.2.2.2.1,Fs _ _ (by intro x hx;simp only [List.mem_cons,List.not_mem_nil,or_false] at hx;show _∧_;omega)⟩ rfl rfl rfl rfl Ay
 exact Bl A0 (r2.1,r2.2.1,r.2.2) ⟨hr2.1,hr.2⟩ rfl rfl rfl rfl Ay
end Go.Proofs.YtdendlkeiaccpaaGreatDoor
