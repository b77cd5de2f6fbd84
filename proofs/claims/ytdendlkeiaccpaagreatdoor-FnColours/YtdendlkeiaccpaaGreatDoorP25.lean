/- Part 25 of the proof that each of the laws FnColours returns true for every input. No conditions. -/
import Derived.Test.YtdendlkeiaccpaaGreatDoorP24
import Derived.Test.YtdendlkeiaccpaaGreatDoorP23
import Derived.Test.YtdendlkeiaccpaaGreatDoorP19
import Derived.Test.YtdendlkeiaccpaaGreatDoorP22

set_option linter.unusedSimpArgs false
set_option linter.unusedVariables false
set_option maxRecDepth 100000
namespace Go.Proofs.YtdendlkeiaccpaaGreatDoor
open Go.Sx
theorem Fb {n:Int}(h: -9000000000≤n)(h':n≤9000000000):Eu .i64 n:=⟨by omega,by omega⟩
theorem A9f (d:E4)(i h:Int)(hi:0≤i∧i≤d.n):Dd Tryz.prog HT 191 d.pins (d.cur i h) [] (fun r:Int×Int×Ea=>(0≤r.1∧r.1≤d.n)∧(0≤r.2.2.epoch∧r.2.2.epoch≤3)∧r.2.2.ok) (fun r=>d.cur r.1 r.2.1) (fun r=>[.agg r.2.2.c]):=by
 refine Dp A0 false Tryz.func191 rfl Az fun B b hH hp=>?_
 conv=>whnf
 refine Ak (Ai d i h 4 hi Az) hH hp rfl B1 rfl rfl (fun r hr=>go A0 false ?_)
 conv=>whnf
 refine Ak (Ai d r.1 r.2.1 5 hr.1 Az) hH hp rfl B1 rfl rfl (fun r2 hr2=>go A0 false ?_)
 conv=>whnf
 have h4:=hr.2.2.2 Az
 have h5:=hr.2.1
 have h6:=hr2.2.2.2 Az
 have h7:=hr2.2.1
 exact Bu A0 (r2.1,r2.2.1,⟨r.2.2,r2.2.2⟩) ⟨hr2.1,⟨hr.2.1,by show r.2.2≤3;omega⟩,Fb (by show _≤r.2.2;omega) (by show r.2.2≤_;omega),Fb (by show _≤r2.2.2;omega) (by show r2.2.2≤_;omega)⟩ rfl rfl rfl rfl B1
theorem Qs (d:E4)(i h:Int)(hi:0≤i∧i≤d.n):Dd Tryz.prog HT 159 d.pins (d.cur i h) [] (fun r:Int×Int×Ae=>(0≤r.1∧r.1≤d.n)∧(0≤r.2.2.stamp.epoch∧r.2.2.stamp.epoch≤3)∧r.2.2.ok) (fun r=>d.cur r.1 r.2.1) (fun r=>[.agg r.2.2.c]):=by
 refine Dp A0 false Tryz.func159 rfl Az fun B b hH hp=>?_
 conv=>whnf
 refine Ak (Ai d i h 5 hi Az) hH hp rfl B1 rfl rfl (fun r hr=>go A0 false ?_)
 conv=>whnf
 refine Ak (A9f d r.1 r.2.1 hr.1) hH hp rfl B1 rfl rfl (fun s hs=>go A0 false ?_)
 conv=>whnf
 refine Ak (Ai d s.1 s.2.1 12 hs.1 Az) hH hp rfl B1 rfl rfl (fun r2 hr2=>go A0 false ?_)
 conv=>whnf
 refine Ak (Ai d r2.1 r2.2.1 40 hr2.1 Az) hH hp rfl B1 rfl rfl (fun r3 hr3=>go A0 false ?_)
 conv=>whnf
 have k1:=hr.2.2.2 Az
 have k2:=hr.2.1
 have k3:=hr2.2.2.2 Az
 have k4:=hr2.2.1
 have k5:=hr3.2.2.2 Az
 have k6:=hr3.2.1
 exact Bu A0 (r3.1,r3.2.1,⟨r.2.2,s.2.2,r2.2.2,r3.2.2⟩) ⟨hr3.1,hs.2.1,Fb (by show _≤r.2.2;omega) (by show r.2.2≤_;omega),hs.2.2,Fb (by show _≤r2.2.2;omega) (by show r2.2.2≤_;omega),Fb (by show _≤r3.2.2;omega) (by show r3.2.2≤_;omega)⟩ rfl rfl rfl rfl B1
theorem A0r (d:E4)(i h:Int)(g:Aq)(hi:0≤i∧i≤d.n)(hg:g.nodes.length≤1000):Dd Tryz.prog HT 187 d.pins (d.cur i h) [.agg g.c] (fun r:Int×Int×Ae=>(0≤r.1∧r.1≤d.n)∧(0≤r.2.2.stamp.epoch∧r.2.2.stamp.epoch≤3)∧r.2.2.ok) (fun r=>d.cur r.1 r.2.1) (fun r=>[.agg r.2.2.c]):=by
 refine Dp A0 false Tryz.func187 rfl Az fun B b hH hp=>?_
 conv=>whnf
 refine Ak (Qs d i h hi) hH hp rfl B1 rfl rfl (fun r hr=>go A0 false ?_)
 conv=>whnf
 refine ⟨fun c0=>?_,fun c0=>?_⟩<;>conv=>whnf
 ·refine Ak (Ai d r.1 r.2.1 g.nodes.length hr.1 Ac) hH hp rfl B1 rfl rfl (fun r2 hr2=>go A0 false ?_)
  conv=>whnf
  have k2:=hr2.2.1
  have k3:=hr2.2.2.2
  have ho2:Eu .i64 r2.2.2:=Fb Ac (by have:=k3 (of_decide_eq_true c0);omega)
  refine Ak (Lt d r2.1 r2.2.1 4 hr2.1 Az) hH hp rfl B1 rfl rfl (fun r3 hr3=>go A0 false ?_)
  conv=>whnf
  refine ⟨fun c1=>?_,fun c1=>?_⟩<;>conv=>whnf
  ·refine Ak (Ai d r3.1 r3.2.1 2 hr3 Az) hH hp rfl B1 rfl rfl (fun r4 hr4=>go A0 false ?_)
   conv=>whnf
   have h4:=hr4.2.2.2 Az
   have h5:=hr4.2.1
   (repeat refine An ?_)
   exact Bu A0 (r4.1,r4.2.1,⟨r2.2.2,⟨r.2.2.stamp.epoch,5+r4.2.2⟩,r.2.2.key,r.2.2.val⟩) ⟨hr4.1,hr.2.1,ho2,⟨hr.2.2.2.1.1,Fb (by show _≤5+r4.2.2;omega) (by show 5+r4.2.2≤_;omega)⟩,hr.2.2.2.2⟩ rfl rfl rfl rfl B1
  exact Bu A0 (r3.1,r3.2.1,⟨r2.2.2,r.2.2.stamp,r.2.2.key,r.2.2.val⟩) ⟨hr3,hr.2.1,ho2,hr.2.2.2⟩ rfl rfl rfl rfl B1
 refine Ak (Lt d r.1 r.2.1 4 hr.1 Az) hH hp rfl B1 rfl rfl (fun r3 hr3=>go A0 false ?_)
 conv=>whnf
 refine ⟨fun c1=>?_,fun c1=>?_⟩<;>conv=>whnf
 ·refine Ak (Ai d r3.1 r3.2.1 2 hr3 Az) hH hp rfl B1 rfl rfl (fun r4 hr4=>go A0 false ?_)
  conv=>whnf
  have h4:=hr4.2.2.2 Az
  have h5:=hr4.2.1
  (repeat refine An ?_)
  exact Bu A0 (r4.1,r4.2.1,⟨r.2.2.op,⟨r.2.2.stamp.epoch,5+r4.2.2⟩,r.2.2.key,r.2.2.val⟩) ⟨hr4.1,hr.2.1,hr.2.2.1,⟨hr.2.2.2.1.1,Fb (by show _≤5+r4.2.2;omega) (by show 5+r4.2.2≤_;omega)⟩,hr.2.2.2.2⟩ rfl rfl rfl rfl B1
 exact Bu A0 (r3.1,r3.2.1,r.2.2) ⟨hr3,hr.2⟩ rfl rfl rfl rfl B1
theorem B8q {xs:List Ae}(h:xs.length≤5)(ho:∀y∈xs,y.ok):WD 0 (Hz xs):=by
 refine ⟨?_,rfl,rfl,fun n hn=>?_,B6j ho⟩
 ·simp only [Aa.w,Hz,List.length_nil,List.length_replicate];omega
 have:n=0:=List.eq_of_mem_replicate hn
 omega
theorem A2b {k:Nat}{x y:Aa}(h:WD k x)(hw:y.w≤x.w+3)(hs:y.sums=x.sums)(hb:y.black.length=x.black.length)(ho:V7 y):WD (k+1) y:=
 ⟨by have:=h.w;omega,by rw [hs];exact h.s4,by rw [hb];exact h.b4,fun n hn=>by rw [hs] at hn;have:=h.s n hn;omega,ho⟩
theorem B9s {k m:Nat}{x:Aa}(h:WD k x)(hk:k≤m):WD m x:=⟨by have:=h.w;omega,h.s4,h.b4,fun n hn=>by have:=h.s n hn;omega,h.o⟩
theorem B68 {k:Nat}{x:Aa}{g:Aq}(h:WD k x):WD (k+1) (D8 g x).1:=by
 have hw:=Ui (g:=g) (w:=x)
 refine A2b h Ac ?_ ?_ (B3p h.o)<;>unfold D8<;>split<;>rfl
theorem B69 {k:Nat}{x:Aa}{g:Aq}(h:WD k x):WD (k+1) (F3 g x).1:=by
 have hw:=A48 (g:=g) (w:=x)
 refine A2b h Ac ?_ ?_ (B3q h.o)<;>unfold F3<;>split<;>first|rfl|(unfold Hg;rfl)
theorem B8s {k:Nat}{x:Aa}(h:WD k x):WD (k+1) (Ii x).1:=by
 refine A2b h ?_ ?_ ?_ (B6k h.o)<;>unfold Ii<;>split<;>first|rfl|(simp only [Aa.w,Dz,List.length_drop];omega)|omega
theorem B8r {k:Nat}{x:Aa}{r:Ae}(h:WD k x)(he:0≤r.stamp.epoch∧r.stamp.epoch≤3)(ho:r.ok)(hk8:k≤8):WD (k+1) (E8 x r):=by
 have hw:=X3 (w:=x) (r:=r)
 rw [Sb h.s4 h.b4 he] at *
 refine ⟨by have:=h.w;omega,?_,?_,fun n hn=>?_,B3o (B7k (q:=x.black.set r.stamp.epoch.toNat true) (B7m (q:=x.queue++[r]) h.o (J9 h.o.q ho))) (Rh h.o.n ?_)⟩
 ·simp only [Gy,El,kept,List.length_set];exact h.s4
 ·simp only [Gy,El,kept,List.length_set];exact h.b4
 ·have hn:n∈x.sums.set r.stamp.epoch.toNat (x.sums.getD r.stamp.epoch.toNat default+ -1):=hn
  rcases List.mem_or_eq_of_mem_set hn with hn|rfl
  ·have:=h.s n hn;omega
  have hk:r.stamp.epoch.toNat<x.sums.length:=by have:=h.s4;omega
  have:=h.s _ (Ay (d:=default) hk)
  omega
 have hk:r.stamp.epoch.toNat<x.sums.length:=by have:=h.s4;omega
 have:=h.s _ (Ay (d:=default) hk)
 exact Fb (by show _≤x.sums.getD _ _+_;omega) (by show x.sums.getD _ _+_≤_;omega)
structure JWk where
 k:Nat
 i:Int
 h:Int
 x:Aa
set_option maxHeartbeats 4000000 in
theorem A5l (d:E4)(i h:Int)(g:Aq)(hi:0≤i∧i≤d.n)(hg:g.w≤1000):Dd Tryz.prog HT 157 d.pins (d.cur i h) [.agg g.c] (fun r:Int×Int×Aa=>(0≤r.1∧r.1≤d.n)∧WD 8 r.2.2) (fun r=>d.cur r.1 r.2.1) (fun r=>[.agg r.2.2.c]):=by
 have hgl:g.nodes.length≤g.w:=by show g.nodes.length≤g.nodes.length+(g.nodes.map Av.w).sum;omega
 refine Dp A0 false Tryz.func157 rfl Az fun B b hH hp=>?_
 conv=>whnf
 refine Ak (Yx d i h hi) hH hp rfl B1 rfl rfl (fun r hr=>go A0 false ?_)
 conv=>whnf
 have hrl:=hr.2.1
 refine Cn (Qe r.2.2 Ac) rfl (A8 ?_)
 refine C0 A0 false [8,9] (fun j:JWk=>[(6,.c (vi j.k))]) (fun j=>[⟨12,[.own 4,.own 5,.own 6,.own 7,.own 8,.own 9,.own 10,.own 11]⟩,⟨0,[.c (.val d.v),.c (vi j.i),.c (vi j.h)]⟩,⟨2,[.c (.val (.slice none 0 0)),.c (.val (.slice none 0 0)),.c (.val (.slice none 0 0)),.c (.val (.slice none 0 0)),.c (.val (.slice none 0 0)),.c (.val (.slice none 0 0)),.c (.val (.slice none 0 0)),.c (.val (.slice none 0 0))]⟩,⟨1,[.c (Bn g.nodes),.c (vi g.workers),.c (vi g.cap)]⟩]) (fun j=>[⟨4,Ag j.x.queue⟩,⟨5,Ag j.x.staged⟩,⟨6,Ag j.x.inputs⟩,⟨7,Bm j.x.cells⟩,⟨8,Au j.x.sums⟩,⟨9,Dq j.x.black⟩,⟨10,Dq j.x.caps⟩,⟨11,G1 j.x.dones⟩]) (fun j=>(0≤j.i∧j.i≤d.n)∧j.k≤7∧WD j.k j.x) (fun j=>8-j.k) (⟨0,r.1,r.2.1,Hz r.2.2⟩) (⟨hr.1,Nat.zero_le _,B8q hrl (B5s hr.2)⟩) ⟨G3,trivial⟩ Cg ⟨Ek,Ek,Ek,Ek,Ek,Ek,Ek,Ek,trivial⟩ Co A7 (fun j hj=>?_)
 conv=>whnf
 obtain ⟨hi2,hk2,hx⟩:=hj
 have hxw:=hx.w
 refine Ak (Ai d j.i j.h 8 hi2 Az) hH hp rfl B1 rfl rfl (fun s hs=>go A0 false ?_)
 conv=>whnf
 refine F4 (fun hlt=>?_) fun hlt=>?_<;>conv=>whnf
 ·have hlt2:s.2.2<8:=hs.2.2.2 Az
  refine Ak (Ai d s.1 s.2.1 5 hs.1 Az) hH hp rfl B1 rfl rfl (fun t ht=>go A0 false ?_)
  conv=>whnf
  refine ⟨fun c0=>?_,fun c0=>?_⟩<;>conv=>whnf
  ·refine Cn (Yf g j.x Ac Ac) rfl (A8 ?_)
   (repeat refine An ?_)
   refine B8 [(4,13),(5,14),(6,15),(7,16),(8,17),(9,18),(10,19),(11,20)] (⟨j.k+1,t.1,t.2.1,(D8 g j.x).1⟩) (⟨ht.1,by show j.k+1≤7;omega,B68 hx⟩) (by show 8-(j.k+1)<_;omega) ⟨rfl,trivial⟩ ⟨rfl,rfl,rfl,rfl,rfl,rfl,rfl,rfl,trivial⟩ Cg A7 Co A7
  refine ⟨fun c1=>?_,fun c1=>?_⟩<;>conv=>whnf
  ·refine Fx rfl ?_
   refine Ao A0 false 1 rfl rfl rfl A7 rfl (A5 Bb) ?_
   refine A4 [0,2] A7 ⟨?_,?_,trivial⟩
   focus
    refine A8 ?_
    refine A6 (A4 [2] A7 ⟨A8 ?_,trivial⟩)
    refine A6 (A4 [3] A7 ⟨A8 ?_,trivial⟩)
    refine Ak (A0r d t.1 t.2.1 g ht.1 Ac) hH hp rfl B1 rfl rfl (fun r9 hr9=>go A0 false ?_)
    conv=>whnf
    refine A6 (A4 [4] A7 ⟨A8 ?_,trivial⟩)
    refine Cn (Ns j.x r9.2.2 Ac (fun n hn=>by have:=hx.s n hn;omega) hx.s4 hx.b4 hr9.2.1) rfl (A8 ?_)
    refine A6 (A4 [5] A7 ⟨A8 ?_,trivial⟩)
    refine A6 (B2 A7 (A8 ?_))
   rotate_left 1
   focus
    refine A8 ?_
    refine A6 ?_
    refine A4 [0,3] A7 ⟨?_,?_,trivial⟩
    focus
     refine A8 ?_
     refine A6 (A4 [3] A7 ⟨A8 ?_,trivial⟩)
     refine Ak (A0r d t.1 t.2.1 g ht.1 Ac) hH hp rfl B1 rfl rfl (fun r9 hr9=>go A0 false ?_)
     conv=>whnf
     refine A6 (A4 [4] A7 ⟨A8 ?_,trivial⟩)
     refine Cn (Ns j.x r9.2.2 Ac (fun n hn=>by have:=hx.s n hn;omega) hx.s4 hx.b4 hr9.2.1) rfl (A8 ?_)
     refine A6 (A4 [5] A7 ⟨A8 ?_,trivial⟩)
     refine A6 (B2 A7 (A8 ?_))
    rotate_left 1
    focus
     refine A8 ?_
     refine Ak (A0r d t.1 t.2.1 g ht.1 Ac) hH hp rfl B1 rfl rfl (fun r9 hr9=>go A0 false ?_)
     conv=>whnf
     refine A6 (A4 [0] A7 ⟨A8 ?_,trivial⟩)
     refine A6 (A4 [4] A7 ⟨A8 ?_,trivial⟩)
     refine Cn (Ns j.x r9.2.2 Ac (fun n hn=>by have:=hx.s n hn;omega) hx.s4 hx.b4 hr9.2.1) rfl (A8 ?_)
     refine A6 (A4 [5] A7 ⟨A8 ?_,trivial⟩)
     refine A6 (B2 A7 (A8 ?_))
   all_goals
    (repeat refine An ?_)
    refine B8 [(4,13),(5,14),(6,15),(7,16),(8,17),(9,18),(10,19),(11,20)] (⟨j.k+1,r9.1,r9.2.1,E8 j.x r9.2.2⟩) (⟨hr9.1,by show j.k+1≤7;omega,B8r hx hr9.2.1 hr9.2.2 Ac⟩) (by show 8-(j.k+1)<_;omega) ⟨rfl,trivial⟩ ⟨rfl,rfl,rfl,rfl,rfl,rfl,rfl,rfl,trivial⟩ Cg A7 Co A7
  refine ⟨fun c2=>?_,fun c2=>?_⟩<;>conv=>whnf
  ·refine Cn (A11 j.x Ac) rfl (A8 ?_)
   (repeat refine An ?_)
   refine B8 [(4,13),(5,14),(6,15),(7,16),(8,17),(9,18),(10,19),(11,20)] (⟨j.k+1,t.1,t.2.1,(Ii j.x).1⟩) (⟨ht.1,by show j.k+1≤7;omega,B8s hx⟩) (by show 8-(j.k+1)<_;omega) ⟨rfl,trivial⟩ ⟨rfl,rfl,rfl,rfl,rfl,rfl,rfl,rfl,trivial⟩ Cg A7 Co A7
  refine Cn (A6u g j.x Ac Ac) rfl (A8 ?_)
  (repeat refine An ?_)
  refine B8 [(4,13),(5,14),(6,15),(7,16),(8,17),(9,18),(10,19),(11,20)] (⟨j.k+1,t.1,t.2.1,(F3 g j.x).1⟩) (⟨ht.1,by show j.k+1≤7;omega,B69 hx⟩) (by show 8-(j.k+1)<_;omega) ⟨rfl,trivial⟩ ⟨rfl,rfl,rfl,rfl,rfl,rfl,rfl,rfl,trivial⟩ Cg A7 Co A7
 exact Bu A0 (s.1,s.2.1,j.x) ⟨hs.1,B9s hx Ac⟩ rfl rfl rfl rfl B1
theorem Gb (xs:List Int)(k:Nat)(h:∀x∈xs,Eu .i64 x):Eu .i64 (xs.getD k 0):=W8 (p:=fun w=>Eu .i64 w) xs k 0 h ⟨by decide,by decide⟩
theorem Ds {n:Int}(h: -9223372036854775808≤n)(h':n≤9223372036854775807):Eu .i64 n:=⟨h,h'⟩
theorem A24 (d:E4)(i h:Int)(hi:0≤i∧i≤d.n):Dd Tryz.prog HT 191 d.pins (d.cur i h) [] (fun r:Int×Int×Ea=>(0≤r.1∧r.1≤d.n)∧r.2.2.ok) (fun r=>d.cur r.1 r.2.1) (fun r=>[.agg r.2.2.c]):=by
 refine Dp A0 false Tryz.func191 rfl Az fun B b hH hp=>?_
 conv=>whnf
 refine Ak (Ai d i h 4 hi Az) hH hp rfl B1 rfl rfl (fun r hr=>go A0 false ?_)
 conv=>whnf
 refine Ak (Ai d r.1 r.2.1 5 hr.1 Az) hH hp rfl B1 rfl rfl (fun r2 hr2=>go A0 false ?_)
 conv=>whnf
 exact Bu A0 (r2.1,r2.2.1,⟨r.2.2,r2.2.2⟩) ⟨hr2.1,Ds (by show _≤r.2.2;omega) (by show r.2.2≤_;omega),Ds (by show _≤r2.2.2;omega) (by show r2.2.2≤_;omega)⟩ rfl rfl rfl rfl B1
theorem A22 (d:E4)(i h:Int)(hi:0≤i∧i≤d.n):Dd Tryz.prog HT 190 d.pins (d.cur i h) [] (fun r:Int×Int×Ea=>(0≤r.1∧r.1≤d.n)∧r.2.2.ok) (fun r=>d.cur r.1 r.2.1) (fun r=>[.agg r.2.2.c]):=by
 refine Dp A0 false Tryz.func190 rfl Az fun B b hH hp=>?_
 conv=>whnf
 refine Ak (A24 d i h hi) hH hp rfl B1 rfl rfl (fun r hr=>go A0 false ?_)
 conv=>whnf
 refine Ak (Ai d r.1 r.2.1 10 hr.1 Az) hH hp rfl B1 rfl rfl (fun r2 hr2=>go A0 false ?_)
 conv=>whnf
 refine ⟨fun c0=>?_,fun c0=>?_⟩<;>conv=>whnf
 ·refine Fl 3 (Au [-1,3,4,9223372036854775807]) rfl (Bq rfl Cg) ?_
  refine Ak (De d r2.1 r2.2.1 [-1,3,4,9223372036854775807] hr2.1 Az) hH hp rfl B1 rfl rfl (fun r3 hr3=>go A0 false ?_)
  conv=>whnf
  exact Bu A0 (r3.1,r3.2.1,⟨[-1,3,4,9223372036854775807].getD r3.2.2 0,r.2.2.turn⟩) ⟨hr3.1,Gb _ _ (by intro x hx;simp only [List.mem_cons,List.not_mem_nil,or_false] at hx;show _∧_;omega),hr.2.2⟩ rfl rfl rfl rfl B1
 refine ⟨fun c1=>?_,fun c1=>?_⟩<;>conv=>whnf
 ·refine Fl 3 (Au [-1,5,6,7,-9223372036854775808]) rfl (Bq rfl Cg) ?_
  refine Ak (De d r2.1 r2.2.1 [-1,5,6,7,-9223372036854775808] hr2.1 Az) hH hp rfl B1 rfl rfl (fun r3 hr3=>go A0 false ?_)
  conv=>whnf
  exact Bu A0 (r3.1,r3.2.1,⟨r.2.2.epoch,[-1,5,6,7,-9223372036854775808].getD r3.2.2 0⟩) ⟨hr3.1,hr.2.1,Gb _ _ (by intro x hx;simp only [List.mem_cons,List.not_mem_nil,or_false] at hx;show _∧_;omega)⟩ rfl rfl rfl rfl B1
 exact Bu A0 (r2.1,r2.2.1,r.2.2) ⟨hr2.1,hr.2⟩ rfl rfl rfl rfl B1
theorem A9e (d:E4)(i h:Int)(hi:0≤i∧i≤d.n):Dd Tryz.prog HT 159 d.pins (d.cur i h) [] (fun r:Int×Int×Ae=>(0≤r.1∧r.1≤d.n)∧r.2.2.ok) (fun r=>d.cur r.1 r.2.1) (fun r=>[.agg r.2.2.c]):=by
 refine Dp A0 false Tryz.func159 rfl Az fun B b hH hp=>?_
 conv=>whnf
 refine Ak (Ai d i h 5 hi Az) hH hp rfl B1 rfl rfl (fun r hr=>go A0 false ?_)
 conv=>whnf
 refine Ak (A24 d r.1 r.2.1 hr.1) hH hp rfl B1 rfl rfl (fun s hs=>go A0 false ?_)
 conv=>whnf
 refine Ak (Ai d s.1 s.2.1 12 hs.1 Az) hH hp rfl B1 rfl rfl (fun r2 hr2=>go A0 false ?_)
 conv=>whnf
 refine Ak (Ai d r2.1 r2.2.1 40 hr2.1 Az) hH hp rfl B1 rfl rfl (fun r3 hr3=>go A0 false ?_)
 conv=>whnf
 exact Bu A0 (r3.1,r3.2.1,⟨r.2.2,s.2.2,r2.2.2,r3.2.2⟩) ⟨hr3.1,Ds (by show _≤r.2.2;omega) (by show r.2.2≤_;omega),hs.2,Ds (by show _≤r2.2.2;omega) (by show r2.2.2≤_;omega),Ds (by show _≤r3.2.2;omega) (by show r3.2.2≤_;omega)⟩ rfl rfl rfl rfl B1
theorem Rj (d:E4)(i h:Int)(hi:0≤i∧i≤d.n):Dd Tryz.prog HT 158 d.pins (d.cur i h) [] (fun r:Int×Int×Ae=>(0≤r.1∧r.1≤d.n)∧r.2.2.ok) (fun r=>d.cur r.1 r.2.1) (fun r=>[.agg r.2.2.c]):=by
 refine Dp A0 false Tryz.func158 rfl Az fun B b hH hp=>?_
 conv=>whnf
 refine Ak (A9e d i h hi) hH hp rfl B1 rfl rfl (fun r hr=>go A0 false ?_)
 conv=>whnf
 refine Ak (Ai d r.1 r.2.1 12 hr.1 Az) hH hp rfl B1 rfl rfl (fun r2 hr2=>go A0 false ?_)
 conv=>whnf
 refine ⟨fun c0=>?_,fun c0=>?_⟩<;>conv=>whnf
 ·refine Fl 3 (Au [-1,7,8]) rfl (Bq rfl Cg) ?_
  refine Ak (De d r2.1 r2.2.1 [-1,7,8] hr2.1 Az) hH hp rfl B1 rfl rfl (fun r3 hr3=>go A0 false ?_)
  conv=>whnf
  exact Bu A0 (r3.1,r3.2.1,⟨[-1,7,8].getD r3.2.2 0,r.2.2.stamp,r.2.2.key,r.2.2.val⟩) ⟨hr3.1,Gb _ _ (by intro x hx;simp only [List.mem_cons,List.not_mem_nil,or_false] at hx;show _∧_;omega),hr.2.2⟩ rfl rfl rfl rfl B1
 refine ⟨fun c1=>?_,fun c1=>?_⟩<;>conv=>whnf
 ·refine Ak (A22 d r2.1 r2.2.1 hr2.1) hH hp rfl B1 rfl rfl (fun r3 hr3=>go A0 false ?_)
  conv=>whnf
  exact Bu A0 (r3.1,r3.2.1,⟨r.2.2.op,r3.2.2,r.2.2.key,r.2.2.val⟩) ⟨hr3.1,hr.2.1,hr3.2,hr.2.2.2⟩ rfl rfl rfl rfl B1
 refine ⟨fun c2=>?_,fun c2=>?_⟩<;>conv=>whnf
 ·refine Fl 3 (Au [-1,99,100,-9223372036854775808]) rfl (Bq rfl Cg) ?_
  refine Ak (De d r2.1 r2.2.1 [-1,99,100,-9223372036854775808] hr2.1 Az) hH hp rfl B1 rfl rfl (fun r3 hr3=>go A0 false ?_)
  conv=>whnf
  exact Bu A0 (r3.1,r3.2.1,⟨r.2.2.op,r.2.2.stamp,[-1,99,100,-9223372036854775808].getD r3.2.2 0,r.2.2.val⟩) ⟨hr3.1,hr.2.1,hr.2.2.1,Gb _ _ (by intro x hx;simp only [List.mem_cons,List.not_mem_nil,or_false] at hx;show _∧_;omega),hr.2.2.2.2⟩ rfl rfl rfl rfl B1
 refine ⟨fun c3=>?_,fun c3=>?_⟩<;>conv=>whnf
 ·refine Fl 3 (Au [-1,999,1000,9223372036854775807]) rfl (Bq rfl Cg) ?_
  refine Ak (De d r2.1 r2.2.1 [-1,999,1000,9223372036854775807] hr2.1 Az) hH hp rfl B1 rfl rfl (fun r3 hr3=>go A0 false ?_)
  conv=>whnf
  exact Bu A0 (r3.1,r3.2.1,⟨r.2.2.op,r.2.2.stamp,r.2.2.key,[-1,999,1000,9223372036854775807].getD r3.2.2 0⟩) ⟨hr3.1,hr.2.1,hr.2.2.1,hr.2.2.2.1,Gb _ _ (by intro x hx;simp only [List.mem_cons,List.not_mem_nil,or_false] at hx;show _∧_;omega)⟩ rfl rfl rfl rfl B1
 exact Bu A0 (r2.1,r2.2.1,r.2.2) ⟨hr2.1,hr.2⟩ rfl rfl rfl rfl B1
end Go.Proofs.YtdendlkeiaccpaaGreatDoor
