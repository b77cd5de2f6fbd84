/- Part 24 of the proof that each of the laws FnTotals returns true for every input. No conditions. -/
import Derived.Test.YtdendlkeiaccpaaGreatP23
import Derived.Test.YtdendlkeiaccpaaGreatP22
import Derived.Test.YtdendlkeiaccpaaGreatP17
import Derived.Test.YtdendlkeiaccpaaGreatP20

set_option linter.unusedSimpArgs false
set_option linter.unusedVariables false
set_option maxRecDepth 100000
namespace Go.Proofs.YtdendlkeiaccpaaGreat
open Go.Sx
theorem F6 {n:Int}(h: -9000000000≤n)(h':n≤9000000000):Et .i64 n:=⟨by omega,by omega⟩
theorem A56 (d:Dy)(i h:Int)(hi:0≤i∧i≤d.n):Cr Tryz.prog HT 155 d.pins (d.cur i h) [] (fun r:Int×Int×Bs=>(0≤r.1∧r.1≤d.n)∧(0≤r.2.2.epoch∧r.2.2.epoch≤3)∧r.2.2.ok) (fun r=>d.cur r.1 r.2.1) (fun r=>[.agg r.2.2.c]):=by
 refine Df A0 false Tryz.func155 rfl Aw fun B b hH hp=>?_
 conv=>whnf
 refine Ai (Ah d i h 4 hi Aw) hH hp rfl At rfl rfl (fun r hr=>go A0 false ?_)
 conv=>whnf
 refine Ai (Ah d r.1 r.2.1 5 hr.1 Aw) hH hp rfl At rfl rfl (fun r2 hr2=>go A0 false ?_)
 conv=>whnf
 have h4:=hr.2.2.2 Aw
 have h5:=hr.2.1
 have h6:=hr2.2.2.2 Aw
 have h7:=hr2.2.1
 exact Bm A0 (r2.1,r2.2.1,⟨r.2.2,r2.2.2⟩) ⟨hr2.1,⟨hr.2.1,by show r.2.2≤3;omega⟩,F6 (by show _≤r.2.2;omega) (by show r.2.2≤_;omega),F6 (by show _≤r2.2.2;omega) (by show r2.2.2≤_;omega)⟩ rfl rfl rfl rfl At
theorem Oz (d:Dy)(i h:Int)(hi:0≤i∧i≤d.n):Cr Tryz.prog HT 122 d.pins (d.cur i h) [] (fun r:Int×Int×A9=>(0≤r.1∧r.1≤d.n)∧(0≤r.2.2.stamp.epoch∧r.2.2.stamp.epoch≤3)∧r.2.2.ok) (fun r=>d.cur r.1 r.2.1) (fun r=>[.agg r.2.2.c]):=by
 refine Df A0 false Tryz.func122 rfl Aw fun B b hH hp=>?_
 conv=>whnf
 refine Ai (Ah d i h 5 hi Aw) hH hp rfl At rfl rfl (fun r hr=>go A0 false ?_)
 conv=>whnf
 refine Ai (A56 d r.1 r.2.1 hr.1) hH hp rfl At rfl rfl (fun s hs=>go A0 false ?_)
 conv=>whnf
 refine Ai (Ah d s.1 s.2.1 12 hs.1 Aw) hH hp rfl At rfl rfl (fun r2 hr2=>go A0 false ?_)
 conv=>whnf
 refine Ai (Ah d r2.1 r2.2.1 40 hr2.1 Aw) hH hp rfl At rfl rfl (fun r3 hr3=>go A0 false ?_)
 conv=>whnf
 have k1:=hr.2.2.2 Aw
 have k2:=hr.2.1
 have k3:=hr2.2.2.2 Aw
 have k4:=hr2.2.1
 have k5:=hr3.2.2.2 Aw
 have k6:=hr3.2.1
 exact Bm A0 (r3.1,r3.2.1,⟨r.2.2,s.2.2,r2.2.2,r3.2.2⟩) ⟨hr3.1,hs.2.1,F6 (by show _≤r.2.2;omega) (by show r.2.2≤_;omega),hs.2.2,F6 (by show _≤r2.2.2;omega) (by show r2.2.2≤_;omega),F6 (by show _≤r3.2.2;omega) (by show r3.2.2≤_;omega)⟩ rfl rfl rfl rfl At
theorem Y3 (d:Dy)(i h:Int)(g:Ao)(hi:0≤i∧i≤d.n)(hg:g.nodes.length≤1000):Cr Tryz.prog HT 152 d.pins (d.cur i h) [.agg g.c] (fun r:Int×Int×A9=>(0≤r.1∧r.1≤d.n)∧(0≤r.2.2.stamp.epoch∧r.2.2.stamp.epoch≤3)∧r.2.2.ok) (fun r=>d.cur r.1 r.2.1) (fun r=>[.agg r.2.2.c]):=by
 refine Df A0 false Tryz.func152 rfl Aw fun B b hH hp=>?_
 conv=>whnf
 refine Ai (Oz d i h hi) hH hp rfl At rfl rfl (fun r hr=>go A0 false ?_)
 conv=>whnf
 refine ⟨fun c0=>?_,fun c0=>?_⟩<;>conv=>whnf
 ·refine Ai (Ah d r.1 r.2.1 g.nodes.length hr.1 Ab) hH hp rfl At rfl rfl (fun r2 hr2=>go A0 false ?_)
  conv=>whnf
  have k2:=hr2.2.1
  have k3:=hr2.2.2.2
  have ho2:Et .i64 r2.2.2:=F6 Ab (by have:=k3 (of_decide_eq_true c0);omega)
  refine Ai (Pu d r2.1 r2.2.1 4 hr2.1 Aw) hH hp rfl At rfl rfl (fun r3 hr3=>go A0 false ?_)
  conv=>whnf
  refine ⟨fun c1=>?_,fun c1=>?_⟩<;>conv=>whnf
  ·refine Ai (Ah d r3.1 r3.2.1 2 hr3 Aw) hH hp rfl At rfl rfl (fun r4 hr4=>go A0 false ?_)
   conv=>whnf
   have h4:=hr4.2.2.2 Aw
   have h5:=hr4.2.1
   (repeat refine Am ?_)
   exact Bm A0 (r4.1,r4.2.1,⟨r2.2.2,⟨r.2.2.stamp.epoch,5+r4.2.2⟩,r.2.2.key,r.2.2.val⟩) ⟨hr4.1,hr.2.1,ho2,⟨hr.2.2.2.1.1,F6 (by show _≤5+r4.2.2;omega) (by show 5+r4.2.2≤_;omega)⟩,hr.2.2.2.2⟩ rfl rfl rfl rfl At
  exact Bm A0 (r3.1,r3.2.1,⟨r2.2.2,r.2.2.stamp,r.2.2.key,r.2.2.val⟩) ⟨hr3,hr.2.1,ho2,hr.2.2.2⟩ rfl rfl rfl rfl At
 refine Ai (Pu d r.1 r.2.1 4 hr.1 Aw) hH hp rfl At rfl rfl (fun r3 hr3=>go A0 false ?_)
 conv=>whnf
 refine ⟨fun c1=>?_,fun c1=>?_⟩<;>conv=>whnf
 ·refine Ai (Ah d r3.1 r3.2.1 2 hr3 Aw) hH hp rfl At rfl rfl (fun r4 hr4=>go A0 false ?_)
  conv=>whnf
  have h4:=hr4.2.2.2 Aw
  have h5:=hr4.2.1
  (repeat refine Am ?_)
  exact Bm A0 (r4.1,r4.2.1,⟨r.2.2.op,⟨r.2.2.stamp.epoch,5+r4.2.2⟩,r.2.2.key,r.2.2.val⟩) ⟨hr4.1,hr.2.1,hr.2.2.1,⟨hr.2.2.2.1.1,F6 (by show _≤5+r4.2.2;omega) (by show 5+r4.2.2≤_;omega)⟩,hr.2.2.2.2⟩ rfl rfl rfl rfl At
 exact Bm A0 (r3.1,r3.2.1,r.2.2) ⟨hr3,hr.2⟩ rfl rfl rfl rfl At
theorem B43 {xs:List A9}(h:xs.length≤5)(ho:∀y∈xs,y.ok):WD 0 (H3 xs):=by
 refine ⟨?_,rfl,rfl,fun n hn=>?_,B22 ho⟩
 ·simp only [Ac.w,H3,List.length_nil,List.length_replicate];omega
 have:n=0:=List.eq_of_mem_replicate hn
 omega
theorem Zj {k:Nat}{x y:Ac}(h:WD k x)(hw:y.w≤x.w+3)(hs:y.sums=x.sums)(hb:y.black.length=x.black.length)(ho:T7 y):WD (k+1) y:=
 ⟨by have:=h.w;omega,by rw [hs];exact h.s4,by rw [hb];exact h.b4,fun n hn=>by rw [hs] at hn;have:=h.s n hn;omega,ho⟩
theorem B55 {k m:Nat}{x:Ac}(h:WD k x)(hk:k≤m):WD m x:=⟨by have:=h.w;omega,h.s4,h.b4,fun n hn=>by have:=h.s n hn;omega,h.o⟩
theorem B3q {k:Nat}{x:Ac}{g:Ao}(h:WD k x):WD (k+1) (Dd g x).1:=by
 have hw:=Si (g:=g) (w:=x)
 refine Zj h Ab ?_ ?_ (B0a h.o)<;>unfold Dd<;>split<;>rfl
theorem B3r {k:Nat}{x:Ac}{g:Ao}(h:WD k x):WD (k+1) (Fc g x).1:=by
 have hw:=A16 (g:=g) (w:=x)
 refine Zj h Ab ?_ ?_ (B0b h.o)<;>unfold Fc<;>split<;>first|rfl|(unfold I7;rfl)
theorem B45 {k:Nat}{x:Ac}(h:WD k x):WD (k+1) (Hf x).1:=by
 refine Zj h ?_ ?_ ?_ (B23 h.o)<;>unfold Hf<;>split<;>first|rfl|(simp only [Ac.w,E7,List.length_drop];omega)|omega
theorem B44 {k:Nat}{x:Ac}{r:A9}(h:WD k x)(he:0≤r.stamp.epoch∧r.stamp.epoch≤3)(ho:r.ok)(hk8:k≤8):WD (k+1) (Ea x r):=by
 have hw:=Ux (w:=x) (r:=r)
 rw [Qe h.s4 h.b4 he] at *
 refine ⟨by have:=h.w;omega,?_,?_,fun n hn=>?_,A99 (B3z (q:=x.black.set r.stamp.epoch.toNat true) (B31 (q:=x.queue++[r]) h.o (Hy h.o.q ho))) (Po h.o.n ?_)⟩
 ·simp only [I0,F4,kept,List.length_set];exact h.s4
 ·simp only [I0,F4,kept,List.length_set];exact h.b4
 ·have hn:n∈x.sums.set r.stamp.epoch.toNat (x.sums.getD r.stamp.epoch.toNat default+ -1):=hn
  rcases List.mem_or_eq_of_mem_set hn with hn|rfl
  ·have:=h.s n hn;omega
  have hk:r.stamp.epoch.toNat<x.sums.length:=by have:=h.s4;omega
  have:=h.s _ (B9 (d:=default) hk)
  omega
 have hk:r.stamp.epoch.toNat<x.sums.length:=by have:=h.s4;omega
 have:=h.s _ (B9 (d:=default) hk)
 exact F6 (by show _≤x.sums.getD _ _+_;omega) (by show x.sums.getD _ _+_≤_;omega)
structure JWk where
 k:Nat
 i:Int
 h:Int
 x:Ac
set_option maxHeartbeats 4000000 in
theorem A2l (d:Dy)(i h:Int)(g:Ao)(hi:0≤i∧i≤d.n)(hg:g.w≤1000):Cr Tryz.prog HT 121 d.pins (d.cur i h) [.agg g.c] (fun r:Int×Int×Ac=>(0≤r.1∧r.1≤d.n)∧WD 8 r.2.2) (fun r=>d.cur r.1 r.2.1) (fun r=>[.agg r.2.2.c]):=by
 have hgl:g.nodes.length≤g.w:=by show g.nodes.length≤g.nodes.length+(g.nodes.map An.w).sum;omega
 refine Df A0 false Tryz.func121 rfl Aw fun B b hH hp=>?_
 conv=>whnf
 refine Ai (Wv d i h hi) hH hp rfl At rfl rfl (fun r hr=>go A0 false ?_)
 conv=>whnf
 have hrl:=hr.2.1
 refine Cx (Og r.2.2 Ab) rfl (A8 ?_)
 refine Bv A0 false [8,9] (fun j:JWk=>[(6,.c (vi j.k))]) (fun j=>[⟨12,[.own 4,.own 5,.own 6,.own 7,.own 8,.own 9,.own 10,.own 11]⟩,⟨0,[.c (.val d.v),.c (vi j.i),.c (vi j.h)]⟩,⟨2,[.c (.val (.slice none 0 0)),.c (.val (.slice none 0 0)),.c (.val (.slice none 0 0)),.c (.val (.slice none 0 0)),.c (.val (.slice none 0 0)),.c (.val (.slice none 0 0)),.c (.val (.slice none 0 0)),.c (.val (.slice none 0 0))]⟩,⟨1,[.c (Br g.nodes),.c (vi g.workers),.c (vi g.cap)]⟩]) (fun j=>[⟨4,Aa j.x.queue⟩,⟨5,Aa j.x.staged⟩,⟨6,Aa j.x.inputs⟩,⟨7,Bg j.x.cells⟩,⟨8,Ap j.x.sums⟩,⟨9,Eg j.x.black⟩,⟨10,Eg j.x.caps⟩,⟨11,Il j.x.dones⟩]) (fun j=>(0≤j.i∧j.i≤d.n)∧j.k≤7∧WD j.k j.x) (fun j=>8-j.k) (⟨0,r.1,r.2.1,H3 r.2.2⟩) (⟨hr.1,Nat.zero_le _,B43 hrl (B2f hr.2)⟩) ⟨F3,trivial⟩ Cf ⟨F2,F2,F2,F2,F2,F2,F2,F2,trivial⟩ Cj A7 (fun j hj=>?_)
 conv=>whnf
 obtain ⟨hi2,hk2,hx⟩:=hj
 have hxw:=hx.w
 refine Ai (Ah d j.i j.h 8 hi2 Aw) hH hp rfl At rfl rfl (fun s hs=>go A0 false ?_)
 conv=>whnf
 refine Es (fun hlt=>?_) fun hlt=>?_<;>conv=>whnf
 ·have hlt2:s.2.2<8:=hs.2.2.2 Aw
  refine Ai (Ah d s.1 s.2.1 5 hs.1 Aw) hH hp rfl At rfl rfl (fun t ht=>go A0 false ?_)
  conv=>whnf
  refine ⟨fun c0=>?_,fun c0=>?_⟩<;>conv=>whnf
  ·refine Cx (Wd g j.x Ab Ab) rfl (A8 ?_)
   (repeat refine Am ?_)
   refine B6 [(4,13),(5,14),(6,15),(7,16),(8,17),(9,18),(10,19),(11,20)] (⟨j.k+1,t.1,t.2.1,(Dd g j.x).1⟩) (⟨ht.1,by show j.k+1≤7;omega,B3q hx⟩) (by show 8-(j.k+1)<_;omega) ⟨rfl,trivial⟩ ⟨rfl,rfl,rfl,rfl,rfl,rfl,rfl,rfl,trivial⟩ Cf A7 Cj A7
  refine ⟨fun c1=>?_,fun c1=>?_⟩<;>conv=>whnf
  ·refine Fk rfl ?_
   refine Aj A0 false 1 rfl rfl rfl A7 rfl (A4 B1) ?_
   refine A3 [0,2] A7 ⟨?_,?_,trivial⟩
   focus
    refine A8 ?_
    refine A5 (A3 [2] A7 ⟨A8 ?_,trivial⟩)
    refine A5 (A3 [3] A7 ⟨A8 ?_,trivial⟩)
    refine Ai (Y3 d t.1 t.2.1 g ht.1 Ab) hH hp rfl At rfl rfl (fun r9 hr9=>go A0 false ?_)
    conv=>whnf
    refine A5 (A3 [4] A7 ⟨A8 ?_,trivial⟩)
    refine Cx (Ma j.x r9.2.2 Ab (fun n hn=>by have:=hx.s n hn;omega) hx.s4 hx.b4 hr9.2.1) rfl (A8 ?_)
    refine A5 (A3 [5] A7 ⟨A8 ?_,trivial⟩)
    refine A5 (Aq A7 (A8 ?_))
   rotate_left 1
   focus
    refine A8 ?_
    refine A5 ?_
    refine A3 [0,3] A7 ⟨?_,?_,trivial⟩
    focus
     refine A8 ?_
     refine A5 (A3 [3] A7 ⟨A8 ?_,trivial⟩)
     refine Ai (Y3 d t.1 t.2.1 g ht.1 Ab) hH hp rfl At rfl rfl (fun r9 hr9=>go A0 false ?_)
     conv=>whnf
     refine A5 (A3 [4] A7 ⟨A8 ?_,trivial⟩)
     refine Cx (Ma j.x r9.2.2 Ab (fun n hn=>by have:=hx.s n hn;omega) hx.s4 hx.b4 hr9.2.1) rfl (A8 ?_)
     refine A5 (A3 [5] A7 ⟨A8 ?_,trivial⟩)
     refine A5 (Aq A7 (A8 ?_))
    rotate_left 1
    focus
     refine A8 ?_
     refine Ai (Y3 d t.1 t.2.1 g ht.1 Ab) hH hp rfl At rfl rfl (fun r9 hr9=>go A0 false ?_)
     conv=>whnf
     refine A5 (A3 [0] A7 ⟨A8 ?_,trivial⟩)
     refine A5 (A3 [4] A7 ⟨A8 ?_,trivial⟩)
     refine Cx (Ma j.x r9.2.2 Ab (fun n hn=>by have:=hx.s n hn;omega) hx.s4 hx.b4 hr9.2.1) rfl (A8 ?_)
     refine A5 (A3 [5] A7 ⟨A8 ?_,trivial⟩)
     refine A5 (Aq A7 (A8 ?_))
   all_goals
    (repeat refine Am ?_)
    refine B6 [(4,13),(5,14),(6,15),(7,16),(8,17),(9,18),(10,19),(11,20)] (⟨j.k+1,r9.1,r9.2.1,Ea j.x r9.2.2⟩) (⟨hr9.1,by show j.k+1≤7;omega,B44 hx hr9.2.1 hr9.2.2 Ab⟩) (by show 8-(j.k+1)<_;omega) ⟨rfl,trivial⟩ ⟨rfl,rfl,rfl,rfl,rfl,rfl,rfl,rfl,trivial⟩ Cf A7 Cj A7
  refine ⟨fun c2=>?_,fun c2=>?_⟩<;>conv=>whnf
  ·refine Cx (Z7 j.x Ab) rfl (A8 ?_)
   (repeat refine Am ?_)
   refine B6 [(4,13),(5,14),(6,15),(7,16),(8,17),(9,18),(10,19),(11,20)] (⟨j.k+1,t.1,t.2.1,(Hf j.x).1⟩) (⟨ht.1,by show j.k+1≤7;omega,B45 hx⟩) (by show 8-(j.k+1)<_;omega) ⟨rfl,trivial⟩ ⟨rfl,rfl,rfl,rfl,rfl,rfl,rfl,rfl,trivial⟩ Cf A7 Cj A7
  refine Cx (A3p g j.x Ab Ab) rfl (A8 ?_)
  (repeat refine Am ?_)
  refine B6 [(4,13),(5,14),(6,15),(7,16),(8,17),(9,18),(10,19),(11,20)] (⟨j.k+1,t.1,t.2.1,(Fc g j.x).1⟩) (⟨ht.1,by show j.k+1≤7;omega,B3r hx⟩) (by show 8-(j.k+1)<_;omega) ⟨rfl,trivial⟩ ⟨rfl,rfl,rfl,rfl,rfl,rfl,rfl,rfl,trivial⟩ Cf A7 Cj A7
 exact Bm A0 (s.1,s.2.1,j.x) ⟨hs.1,B55 hx Ab⟩ rfl rfl rfl rfl At
theorem Fl (xs:List Int)(k:Nat)(h:∀x∈xs,Et .i64 x):Et .i64 (xs.getD k 0):=U0 (p:=fun w=>Et .i64 w) xs k 0 h ⟨by decide,by decide⟩
theorem Dk {n:Int}(h: -9223372036854775808≤n)(h':n≤9223372036854775807):Et .i64 n:=⟨h,h'⟩
theorem A0g (d:Dy)(i h:Int)(hi:0≤i∧i≤d.n):Cr Tryz.prog HT 155 d.pins (d.cur i h) [] (fun r:Int×Int×Bs=>(0≤r.1∧r.1≤d.n)∧r.2.2.ok) (fun r=>d.cur r.1 r.2.1) (fun r=>[.agg r.2.2.c]):=by
 refine Df A0 false Tryz.func155 rfl Aw fun B b hH hp=>?_
 conv=>whnf
 refine Ai (Ah d i h 4 hi Aw) hH hp rfl At rfl rfl (fun r hr=>go A0 false ?_)
 conv=>whnf
 refine Ai (Ah d r.1 r.2.1 5 hr.1 Aw) hH hp rfl At rfl rfl (fun r2 hr2=>go A0 false ?_)
 conv=>whnf
 exact Bm A0 (r2.1,r2.2.1,⟨r.2.2,r2.2.2⟩) ⟨hr2.1,Dk (by show _≤r.2.2;omega) (by show r.2.2≤_;omega),Dk (by show _≤r2.2.2;omega) (by show r2.2.2≤_;omega)⟩ rfl rfl rfl rfl At
theorem A0e (d:Dy)(i h:Int)(hi:0≤i∧i≤d.n):Cr Tryz.prog HT 125 d.pins (d.cur i h) [] (fun r:Int×Int×Bs=>(0≤r.1∧r.1≤d.n)∧r.2.2.ok) (fun r=>d.cur r.1 r.2.1) (fun r=>[.agg r.2.2.c]):=by
 refine Df A0 false Tryz.func125 rfl Aw fun B b hH hp=>?_
 conv=>whnf
 refine Ai (A0g d i h hi) hH hp rfl At rfl rfl (fun r hr=>go A0 false ?_)
 conv=>whnf
 refine Ai (Ah d r.1 r.2.1 10 hr.1 Aw) hH hp rfl At rfl rfl (fun r2 hr2=>go A0 false ?_)
 conv=>whnf
 refine ⟨fun c0=>?_,fun c0=>?_⟩<;>conv=>whnf
 ·refine Em 3 (Ap [-1,3,4,9223372036854775807]) rfl (Ba rfl Cf) ?_
  refine Ai (D4 d r2.1 r2.2.1 [-1,3,4,9223372036854775807] hr2.1 Aw) hH hp rfl At rfl rfl (fun r3 hr3=>go A0 false ?_)
  conv=>whnf
  exact Bm A0 (r3.1,r3.2.1,⟨[-1,3,4,9223372036854775807].getD r3.2.2 0,r.2.2.turn⟩) ⟨hr3.1,Fl _ _ (by intro x hx;simp only [List.mem_cons,List.not_mem_nil,or_false] at hx;show _∧_;omega),hr.2.2⟩ rfl rfl rfl rfl At
 refine ⟨fun c1=>?_,fun c1=>?_⟩<;>conv=>whnf
 ·refine Em 3 (Ap [-1,5,6,7,-9223372036854775808]) rfl (Ba rfl Cf) ?_
  refine Ai (D4 d r2.1 r2.2.1 [-1,5,6,7,-9223372036854775808] hr2.1 Aw) hH hp rfl At rfl rfl (fun r3 hr3=>go A0 false ?_)
  conv=>whnf
  exact Bm A0 (r3.1,r3.2.1,⟨r.2.2.epoch,[-1,5,6,7,-9223372036854775808].getD r3.2.2 0⟩) ⟨hr3.1,hr.2.1,Fl _ _ (by intro x hx;simp only [List.mem_cons,List.not_mem_nil,or_false] at hx;show _∧_;omega)⟩ rfl rfl rfl rfl At
 exact Bm A0 (r2.1,r2.2.1,r.2.2) ⟨hr2.1,hr.2⟩ rfl rfl rfl rfl At
theorem A55 (d:Dy)(i h:Int)(hi:0≤i∧i≤d.n):Cr Tryz.prog HT 122 d.pins (d.cur i h) [] (fun r:Int×Int×A9=>(0≤r.1∧r.1≤d.n)∧r.2.2.ok) (fun r=>d.cur r.1 r.2.1) (fun r=>[.agg r.2.2.c]):=by
 refine Df A0 false Tryz.func122 rfl Aw fun B b hH hp=>?_
 conv=>whnf
 refine Ai (Ah d i h 5 hi Aw) hH hp rfl At rfl rfl (fun r hr=>go A0 false ?_)
 conv=>whnf
 refine Ai (A0g d r.1 r.2.1 hr.1) hH hp rfl At rfl rfl (fun s hs=>go A0 false ?_)
 conv=>whnf
 refine Ai (Ah d s.1 s.2.1 12 hs.1 Aw) hH hp rfl At rfl rfl (fun r2 hr2=>go A0 false ?_)
 conv=>whnf
 refine Ai (Ah d r2.1 r2.2.1 40 hr2.1 Aw) hH hp rfl At rfl rfl (fun r3 hr3=>go A0 false ?_)
 conv=>whnf
 exact Bm A0 (r3.1,r3.2.1,⟨r.2.2,s.2.2,r2.2.2,r3.2.2⟩) ⟨hr3.1,Dk (by show _≤r.2.2;omega) (by show r.2.2≤_;omega),hs.2,Dk (by show _≤r2.2.2;omega) (by show r2.2.2≤_;omega),Dk (by show _≤r3.2.2;omega) (by show r3.2.2≤_;omega)⟩ rfl rfl rfl rfl At
theorem Jj (d:Dy)(i h:Int)(hi:0≤i∧i≤d.n):Cr Tryz.prog HT 91 d.pins (d.cur i h) [] (fun r:Int×Int×A9=>(0≤r.1∧r.1≤d.n)∧r.2.2.ok) (fun r=>d.cur r.1 r.2.1) (fun r=>[.agg r.2.2.c]):=by
 refine Df A0 false Tryz.func91 rfl Aw fun B b hH hp=>?_
 conv=>whnf
 refine Ai (A55 d i h hi) hH hp rfl At rfl rfl (fun r hr=>go A0 false ?_)
 conv=>whnf
 refine Ai (Ah d r.1 r.2.1 12 hr.1 Aw) hH hp rfl At rfl rfl (fun r2 hr2=>go A0 false ?_)
 conv=>whnf
 refine ⟨fun c0=>?_,fun c0=>?_⟩<;>conv=>whnf
 ·refine Em 3 (Ap [-1,7,8]) rfl (Ba rfl Cf) ?_
  refine Ai (D4 d r2.1 r2.2.1 [-1,7,8] hr2.1 Aw) hH hp rfl At rfl rfl (fun r3 hr3=>go A0 false ?_)
  conv=>whnf
  exact Bm A0 (r3.1,r3.2.1,⟨[-1,7,8].getD r3.2.2 0,r.2.2.stamp,r.2.2.key,r.2.2.val⟩) ⟨hr3.1,Fl _ _ (by intro x hx;simp only [List.mem_cons,List.not_mem_nil,or_false] at hx;show _∧_;omega),hr.2.2⟩ rfl rfl rfl rfl At
 refine ⟨fun c1=>?_,fun c1=>?_⟩<;>conv=>whnf
 ·refine Ai (A0e d r2.1 r2.2.1 hr2.1) hH hp rfl At rfl rfl (fun r3 hr3=>go A0 false ?_)
  conv=>whnf
  exact Bm A0 (r3.1,r3.2.1,⟨r.2.2.op,r3.2.2,r.2.2.key,r.2.2.val⟩) ⟨hr3.1,hr.2.1,hr3.2,hr.2.2.2⟩ rfl rfl rfl rfl At
 refine ⟨fun c2=>?_,fun c2=>?_⟩<;>conv=>whnf
 ·refine Em 3 (Ap [-1,99,100,-9223372036854775808]) rfl (Ba rfl Cf) ?_
  refine Ai (D4 d r2.1 r2.2.1 [-1,99,100,-9223372036854775808] hr2.1 Aw) hH hp rfl At rfl rfl (fun r3 hr3=>go A0 false ?_)
  conv=>whnf
  exact Bm A0 (r3.1,r3.2.1,⟨r.2.2.op,r.2.2.stamp,[-1,99,100,-9223372036854775808].getD r3.2.2 0,r.2.2.val⟩) ⟨hr3.1,hr.2.1,hr.2.2.1,Fl _ _ (by intro x hx;simp only [List.mem_cons,List.not_mem_nil,or_false] at hx;show _∧_;omega),hr.2.2.2.2⟩ rfl rfl rfl rfl At
 refine ⟨fun c3=>?_,fun c3=>?_⟩<;>conv=>whnf
 ·refine Em 3 (Ap [-1,999,1000,9223372036854775807]) rfl (Ba rfl Cf) ?_
  refine Ai (D4 d r2.1 r2.2.1 [-1,999,1000,9223372036854775807] hr2.1 Aw) hH hp rfl At rfl rfl (fun r3 hr3=>go A0 false ?_)
  conv=>whnf
  exact Bm A0 (r3.1,r3.2.1,⟨r.2.2.op,r.2.2.stamp,r.2.2.key,[-1,999,1000,9223372036854775807].getD r3.2.2 0⟩) ⟨hr3.1,hr.2.1,hr.2.2.1,hr.2.2.2.1,Fl _ _ (by intro x hx;simp only [List.mem_cons,List.not_mem_nil,or_false] at hx;show _∧_;omega)⟩ rfl rfl rfl rfl At
 exact Bm A0 (r2.1,r2.2.1,r.2.2) ⟨hr2.1,hr.2⟩ rfl rfl rfl rfl At
end Go.Proofs.YtdendlkeiaccpaaGreat
