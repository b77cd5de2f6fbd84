/- Part 20 of the proof that each of the laws FnStalls returns true for every input. No conditions. -/
import Derived.Test.YtonodkjaoalfjaaGreatP14
import Derived.Test.YtonodkjaoalfjaaGreatP15
import Derived.Test.YtonodkjaoalfjaaGreatP17
import Derived.Test.YtonodkjaoalfjaaGreatP19

set_option linter.unusedSimpArgs false
set_option linter.unusedVariables false
set_option maxRecDepth 100000
namespace Go.Proofs.YtonodkjaoalfjaaGreat
open Go.Sx
theorem C4e (d:I9)(i h:Int)(hi:0≤i∧i≤d.n):Iv Tryz.prog HT 186 d.pins (d.cur i h) [] (fun r:Int×Int×F5=>(0≤r.1∧r.1≤d.n)∧0≤r.2.2.epoch∧r.2.2.epoch≤3) (fun r=>d.cur r.1 r.2.1) (fun r=>[.agg r.2.2.c]):=by
 refine Ol A0 false Tryz.func186 rfl Bu fun B b hH hp=>?_
 conv=>whnf
 refine Fg (E5 d i h 4 hi Bu) hH hp rfl Ca rfl rfl (fun r hr=>go A0 false ?_)
 conv=>whnf
 refine Fg (E5 d r.1 r.2.1 5 hr.1 Bu) hH hp rfl Ca rfl rfl (fun r2 hr2=>go A0 false ?_)
 conv=>whnf
 have h4:=hr.2.2.2 Bu
 exact Kk A0 (r2.1,r2.2.1,⟨r.2.2,r2.2.2⟩) ⟨hr2.1,hr.2.1,by show r.2.2≤3;omega⟩ rfl rfl rfl rfl Ca
theorem C0k (d:I9)(i h:Int)(hi:0≤i∧i≤d.n):Iv Tryz.prog HT 156 d.pins (d.cur i h) [] (fun r:Int×Int×A5=>(0≤r.1∧r.1≤d.n)∧0≤r.2.2.stamp.epoch∧r.2.2.stamp.epoch≤3) (fun r=>d.cur r.1 r.2.1) (fun r=>[.agg r.2.2.c]):=by
 refine Ol A0 false Tryz.func156 rfl Bu fun B b hH hp=>?_
 conv=>whnf
 refine Fg (E5 d i h 5 hi Bu) hH hp rfl Ca rfl rfl (fun r hr=>go A0 false ?_)
 conv=>whnf
 refine Fg (C4e d r.1 r.2.1 hr.1) hH hp rfl Ca rfl rfl (fun s hs=>go A0 false ?_)
 conv=>whnf
 refine Fg (E5 d s.1 s.2.1 12 hs.1 Bu) hH hp rfl Ca rfl rfl (fun r2 hr2=>go A0 false ?_)
 conv=>whnf
 refine Fg (E5 d r2.1 r2.2.1 40 hr2.1 Bu) hH hp rfl Ca rfl rfl (fun r3 hr3=>go A0 false ?_)
 conv=>whnf
 exact Kk A0 (r3.1,r3.2.1,⟨r.2.2,s.2.2,r2.2.2,r3.2.2⟩) ⟨hr3.1,hs.2⟩ rfl rfl rfl rfl Ca
theorem C2y (d:I9)(i h:Int)(g:Ad)(hi:0≤i∧i≤d.n)(hg:g.nodes.length≤1000):Iv Tryz.prog HT 183 d.pins (d.cur i h) [.agg g.c] (fun r:Int×Int×A5=>(0≤r.1∧r.1≤d.n)∧0≤r.2.2.stamp.epoch∧r.2.2.stamp.epoch≤3) (fun r=>d.cur r.1 r.2.1) (fun r=>[.agg r.2.2.c]):=by
 refine Ol A0 false Tryz.func183 rfl Bu fun B b hH hp=>?_
 conv=>whnf
 refine Fg (C0k d i h hi) hH hp rfl Ca rfl rfl (fun r hr=>go A0 false ?_)
 conv=>whnf
 refine ⟨fun c0=>?_,fun c0=>?_⟩<;>conv=>whnf
 ·refine Fg (E5 d r.1 r.2.1 g.nodes.length hr.1 Ac) hH hp rfl Ca rfl rfl (fun r2 hr2=>go A0 false ?_)
  conv=>whnf
  refine Fg (B54 d r2.1 r2.2.1 4 hr2.1 Bu) hH hp rfl Ca rfl rfl (fun r3 hr3=>go A0 false ?_)
  conv=>whnf
  refine ⟨fun c1=>?_,fun c1=>?_⟩<;>conv=>whnf
  ·refine Fg (E5 d r3.1 r3.2.1 2 hr3 Bu) hH hp rfl Ca rfl rfl (fun r4 hr4=>go A0 false ?_)
   conv=>whnf
   have h4:=hr4.2.2.2 Bu
   have h5:=hr4.2.1
   (repeat refine Ar ?_)
   exact Kk A0 (r4.1,r4.2.1,⟨r2.2.2,⟨r.2.2.stamp.epoch,5+r4.2.2⟩,r.2.2.key,r.2.2.val⟩) ⟨hr4.1,hr.2⟩ rfl rfl rfl rfl Ca
  ·exact Kk A0 (r3.1,r3.2.1,⟨r2.2.2,r.2.2.stamp,r.2.2.key,r.2.2.val⟩) ⟨hr3,hr.2⟩ rfl rfl rfl rfl Ca
 ·refine Fg (B54 d r.1 r.2.1 4 hr.1 Bu) hH hp rfl Ca rfl rfl (fun r3 hr3=>go A0 false ?_)
  conv=>whnf
  refine ⟨fun c1=>?_,fun c1=>?_⟩<;>conv=>whnf
  ·refine Fg (E5 d r3.1 r3.2.1 2 hr3 Bu) hH hp rfl Ca rfl rfl (fun r4 hr4=>go A0 false ?_)
   conv=>whnf
   have h4:=hr4.2.2.2 Bu
   have h5:=hr4.2.1
   (repeat refine Ar ?_)
   exact Kk A0 (r4.1,r4.2.1,⟨r.2.2.op,⟨r.2.2.stamp.epoch,5+r4.2.2⟩,r.2.2.key,r.2.2.val⟩) ⟨hr4.1,hr.2⟩ rfl rfl rfl rfl Ca
  ·exact Kk A0 (r3.1,r3.2.1,r.2.2) ⟨hr3,hr.2⟩ rfl rfl rfl rfl Ca
theorem C5z {xs:List A5}(h:xs.length≤5):WD 0 (Mr xs):=by
 refine ⟨?_,rfl,rfl,fun n hn=>?_⟩
 ·simp only [Ab.w,Mr,List.length_nil,List.length_replicate];omega
 ·have:n=0:=List.eq_of_mem_replicate hn
  omega
theorem C28 {k:Nat}{x y:Ab}(h:WD k x)(hw:y.w≤x.w+3)(hs:y.sums=x.sums)(hb:y.black.length=x.black.length):WD (k+1) y:=
 ⟨by have:=h.w;omega,by rw [hs];exact h.s4,by rw [hb];exact h.b4,fun n hn=>by rw [hs] at hn;have:=h.s n hn;omega⟩
theorem C57 {k m:Nat}{x:Ab}(h:WD k x)(hk:k≤m):WD m x:=⟨by have:=h.w;omega,h.s4,h.b4,fun n hn=>by have:=h.s n hn;omega⟩
theorem C5n {k:Nat}{x:Ab}{g:Ad}(h:WD k x):WD (k+1) (Dg g x).1:=by
 have hw:=A5i (g:=g) (w:=x)
 refine C28 h Ac ?_ ?_<;>unfold Dg<;>split<;>rfl
theorem C5o {k:Nat}{x:Ab}{g:Ad}(h:WD k x):WD (k+1) (Fk g x).1:=by
 have hw:=B5s (g:=g) (w:=x)
 refine C28 h Ac ?_ ?_<;>unfold Fk<;>split<;>first|rfl|(unfold Fx;rfl)
theorem C51 {k:Nat}{x:Ab}(h:WD k x):WD (k+1) (Pk x).1:=by
 refine C28 h ?_ ?_ ?_<;>unfold Pk<;>split<;>first|rfl|(simp only [Ab.w,Bt,List.length_drop];omega)|omega
theorem C50 {k:Nat}{x:Ab}{r:A5}(h:WD k x)(he:0≤r.stamp.epoch∧r.stamp.epoch≤3):WD (k+1) (Cj x r):=by
 have hw:=A69 (w:=x) (r:=r)
 rw [C1p h.s4 h.b4 he] at *
 refine ⟨by have:=h.w;omega,?_,?_,fun n hn=>?_⟩
 ·simp only [N2,Ib,kept,List.length_set];exact h.s4
 ·simp only [N2,Ib,kept,List.length_set];exact h.b4
 ·have hn:n∈x.sums.set r.stamp.epoch.toNat (x.sums.getD r.stamp.epoch.toNat default+ -1):=hn
  rcases List.mem_or_eq_of_mem_set hn with hn|rfl
  ·have:=h.s n hn;omega
  ·have hk:r.stamp.epoch.toNat<x.sums.length:=by have:=h.s4;omega
   have:=h.s _ (Aq (d:=default) hk)
   omega
structure JWk where
 k:Nat
 i:Int
 h:Int
 x:Ab
set_option maxHeartbeats 4000000 in
theorem C3n (d:I9)(i h:Int)(g:Ad)(hi:0≤i∧i≤d.n)(hg:g.w≤1000):Iv Tryz.prog HT 155 d.pins (d.cur i h) [.agg g.c] (fun r:Int×Int×Ab=>(0≤r.1∧r.1≤d.n)∧WD 8 r.2.2) (fun r=>d.cur r.1 r.2.1) (fun r=>[.agg r.2.2.c]):=by
 have hgl:g.nodes.length≤g.w:=by show g.nodes.length≤g.nodes.length+(g.nodes.map Cb.w).sum;omega
 refine Ol A0 false Tryz.func155 rfl Bu fun B b hH hp=>?_
 conv=>whnf
 refine Fg (A90 d i h hi) hH hp rfl Ca rfl rfl (fun r hr=>go A0 false ?_)
 conv=>whnf
 have hrl:=hr.2.1
 refine B4 (C1i r.2.2 Ac) rfl (Al ?_)
 refine Bw A0 false [8,9] (fun j:JWk=>[(6,.c (vi j.k))]) (fun j=>[⟨12,[.own 4,.own 5,.own 6,.own 7,.own 8,.own 9,.own 10,.own 11]⟩,⟨0,[.c (.val d.v),.c (vi j.i),.c (vi j.h)]⟩,⟨2,[.c (.val (.slice none 0 0)),.c (.val (.slice none 0 0)),.c (.val (.slice none 0 0)),.c (.val (.slice none 0 0)),.c (.val (.slice none 0 0)),.c (.val (.slice none 0 0)),.c (.val (.slice none 0 0)),.c (.val (.slice none 0 0))]⟩,⟨1,[.c (Bp g.nodes),.c (vi g.workers),.c (vi g.cap)]⟩]) (fun j=>[⟨4,Ax j.x.queue⟩,⟨5,Ax j.x.staged⟩,⟨6,Ax j.x.inputs⟩,⟨7,Ai j.x.cells⟩,⟨8,F1 j.x.sums⟩,⟨9,Gm j.x.black⟩,⟨10,Gm j.x.caps⟩,⟨11,Jn j.x.dones⟩]) (fun j=>(0≤j.i∧j.i≤d.n)∧j.k≤7∧WD j.k j.x) (fun j=>8-j.k) (⟨0,r.1,r.2.1,Mr r.2.2⟩) (⟨hr.1,Nat.zero_le _,C5z hrl⟩) ⟨by first|rfl|simp [Dl,ren2,ren1,ren0],trivial⟩ F3 ⟨by first|rfl|exact (congrArg (fun l=>Du _ _ l) (List.append_nil _)).symm|(show (_:A8)=_;simp)|simp,by first|rfl|exact (congrArg (fun l=>Du _ _ l) (List.append_nil _)).symm|(show (_:A8)=_;simp)|simp,by first|rfl|exact (congrArg (fun l=>Du _ _ l) (List.append_nil _)).symm|(show (_:A8)=_;simp)|simp,by first|rfl|exact (congrArg (fun l=>Du _ _ l) (List.append_nil _)).symm|(show (_:A8)=_;simp)|simp,by first|rfl|exact (congrArg (fun l=>Du _ _ l) (List.append_nil _)).symm|(show (_:A8)=_;simp)|simp,by first|rfl|exact (congrArg (fun l=>Du _ _ l) (List.append_nil _)).symm|(show (_:A8)=_;simp)|simp,by first|rfl|exact (congrArg (fun l=>Du _ _ l) (List.append_nil _)).symm|(show (_:A8)=_;simp)|simp,by first|rfl|exact (congrArg (fun l=>Du _ _ l) (List.append_nil _)).symm|(show (_:A8)=_;simp)|simp,trivial⟩ Dh Aa (fun j hj=>?_)
 conv=>whnf
 obtain ⟨hi2,hk2,hx⟩:=hj
 have hxw:=hx.w
 refine Fg (E5 d j.i j.h 8 hi2 Bu) hH hp rfl Ca rfl rfl (fun s hs=>go A0 false ?_)
 conv=>whnf
 refine G5 (fun hlt=>?_) fun hlt=>?_<;>conv=>whnf
 ·have hlt2:s.2.2<8:=hs.2.2.2 Bu
  refine Fg (E5 d s.1 s.2.1 5 hs.1 Bu) hH hp rfl Ca rfl rfl (fun t ht=>go A0 false ?_)
  conv=>whnf
  refine ⟨fun c0=>?_,fun c0=>?_⟩<;>conv=>whnf
  ·refine B4 (C2s g j.x Ac Ac) rfl (Al ?_)
   (repeat refine Ar ?_)
   refine B5 [(4,13),(5,14),(6,15),(7,16),(8,17),(9,18),(10,19),(11,20)] (⟨j.k+1,t.1,t.2.1,(Dg g j.x).1⟩) (⟨ht.1,by show j.k+1≤7;omega,C5n hx⟩) (by show 8-(j.k+1)<_;omega) ⟨rfl,trivial⟩ ⟨rfl,rfl,rfl,rfl,rfl,rfl,rfl,rfl,trivial⟩ F3 Aa Dh Aa
  ·refine ⟨fun c1=>?_,fun c1=>?_⟩<;>conv=>whnf
   ·refine A8a rfl ?_
    refine M7 A0 false 1 rfl rfl rfl Aa rfl (Af D0) ?_
    refine Aj [0,2] Aa ⟨?_,?_,trivial⟩
    focus
     refine go A0 false ?_
     conv=>whnf
     refine Ak ?_
     refine Aj [2] Aa ⟨?_,trivial⟩
     refine go A0 false ?_
     conv=>whnf
     refine Ak ?_
     refine Aj [3] Aa ⟨?_,trivial⟩
     refine go A0 false ?_
     conv=>whnf
     refine Fg (C2y d t.1 t.2.1 g ht.1 Ac) hH hp rfl Ca rfl rfl (fun r9 hr9=>go A0 false ?_)
     conv=>whnf
     refine Ak ?_
     refine Aj [4] Aa ⟨?_,trivial⟩
     refine go A0 false ?_
     conv=>whnf
     refine B4 (C01 j.x r9.2.2 Ac (fun n hn=>by have:=hx.s n hn;omega) hx.s4 hx.b4 hr9.2) rfl (Al ?_)
     refine Ak ?_
     refine Aj [5] Aa ⟨?_,trivial⟩
     refine go A0 false ?_
     conv=>whnf
     refine Ak ?_
     refine Ed Aa (Al ?_)
    rotate_left 1
    focus
     refine go A0 false ?_
     conv=>whnf
     refine Ak ?_
     refine Aj [0,3] Aa ⟨?_,?_,trivial⟩
     focus
      refine go A0 false ?_
      conv=>whnf
      refine Ak ?_
      refine Aj [3] Aa ⟨?_,trivial⟩
      refine go A0 false ?_
      conv=>whnf
      refine Fg (C2y d t.1 t.2.1 g ht.1 Ac) hH hp rfl Ca rfl rfl (fun r9 hr9=>go A0 false ?_)
      conv=>whnf
      refine Ak ?_
      refine Aj [4] Aa ⟨?_,trivial⟩
      refine go A0 false ?_
      conv=>whnf
      refine B4 (C01 j.x r9.2.2 Ac (fun n hn=>by have:=hx.s n hn;omega) hx.s4 hx.b4 hr9.2) rfl (Al ?_)
      refine Ak ?_
      refine Aj [5] Aa ⟨?_,trivial⟩
      refine go A0 false ?_
      conv=>whnf
      refine Ak ?_
      refine Ed Aa (Al ?_)
     rotate_left 1
     focus
      refine go A0 false ?_
      conv=>whnf
      refine Fg (C2y d t.1 t.2.1 g ht.1 Ac) hH hp rfl Ca rfl rfl (fun r9 hr9=>go A0 false ?_)
      conv=>whnf
      refine Ak ?_
      refine Aj [0] Aa ⟨?_,trivial⟩
      refine go A0 false ?_
      conv=>whnf
      refine Ak ?_
      refine Aj [4] Aa ⟨?_,trivial⟩
      refine go A0 false ?_
      conv=>whnf
      refine B4 (C01 j.x r9.2.2 Ac (fun n hn=>by have:=hx.s n hn;omega) hx.s4 hx.b4 hr9.2) rfl (Al ?_)
      refine Ak ?_
      refine Aj [5] Aa ⟨?_,trivial⟩
      refine go A0 false ?_
      conv=>whnf
      refine Ak ?_
      refine Ed Aa (Al ?_)
    all_goals
     (repeat refine Ar ?_)
     refine B5 [(4,13),(5,14),(6,15),(7,16),(8,17),(9,18),(10,19),(11,20)] (⟨j.k+1,r9.1,r9.2.1,Cj j.x r9.2.2⟩) (⟨hr9.1,by show j.k+1≤7;omega,C50 hx hr9.2⟩) (by show 8-(j.k+1)<_;omega) ⟨rfl,trivial⟩ ⟨rfl,rfl,rfl,rfl,rfl,rfl,rfl,rfl,trivial⟩ F3 Aa Dh Aa
   ·refine ⟨fun c2=>?_,fun c2=>?_⟩<;>conv=>whnf
    ·refine B4 (C25 j.x Ac) rfl (Al ?_)
     (repeat refine Ar ?_)
     refine B5 [(4,13),(5,14),(6,15),(7,16),(8,17),(9,18),(10,19),(11,20)] (⟨j.k+1,t.1,t.2.1,(Pk j.x).1⟩) (⟨ht.1,by show j.k+1≤7;omega,C51 hx⟩) (by show 8-(j.k+1)<_;omega) ⟨rfl,trivial⟩ ⟨rfl,rfl,rfl,rfl,rfl,rfl,rfl,rfl,trivial⟩ F3 Aa Dh Aa
    ·refine B4 (C3x g j.x Ac Ac) rfl (Al ?_)
     (repeat refine Ar ?_)
     refine B5 [(4,13),(5,14),(6,15),(7,16),(8,17),(9,18),(10,19),(11,20)] (⟨j.k+1,t.1,t.2.1,(Fk g j.x).1⟩) (⟨ht.1,by show j.k+1≤7;omega,C5o hx⟩) (by show 8-(j.k+1)<_;omega) ⟨rfl,trivial⟩ ⟨rfl,rfl,rfl,rfl,rfl,rfl,rfl,rfl,trivial⟩ F3 Aa Dh Aa
 ·exact Kk A0 (s.1,s.2.1,j.x) ⟨hs.1,C57 hx Ac⟩ rfl rfl rfl rfl Ca
theorem B5r (xs:List Int)(k:Nat)(h:∀x∈xs,K9 .i64 x):K9 .i64 (xs.getD k 0):=A3f (p:=fun w=>K9 .i64 w) xs k 0 h ⟨by decide,by decide⟩
theorem A5q {n:Int}(h: -9223372036854775808≤n)(h':n≤9223372036854775807):K9 .i64 n:=⟨h,h'⟩
theorem C3f (d:I9)(i h:Int)(hi:0≤i∧i≤d.n):Iv Tryz.prog HT 186 d.pins (d.cur i h) [] (fun r:Int×Int×F5=>(0≤r.1∧r.1≤d.n)∧r.2.2.ok) (fun r=>d.cur r.1 r.2.1) (fun r=>[.agg r.2.2.c]):=by
 refine Ol A0 false Tryz.func186 rfl Bu fun B b hH hp=>?_
 conv=>whnf
 refine Fg (E5 d i h 4 hi Bu) hH hp rfl Ca rfl rfl (fun r hr=>go A0 false ?_)
 conv=>whnf
 refine Fg (E5 d r.1 r.2.1 5 hr.1 Bu) hH hp rfl Ca rfl rfl (fun r2 hr2=>go A0 false ?_)
 conv=>whnf
 exact Kk A0 (r2.1,r2.2.1,⟨r.2.2,r2.2.2⟩) ⟨hr2.1,A5q (by show _≤r.2.2;omega) (by show r.2.2≤_;omega),A5q (by show _≤r2.2.2;omega) (by show r2.2.2≤_;omega)⟩ rfl rfl rfl rfl Ca
theorem C3e (d:I9)(i h:Int)(hi:0≤i∧i≤d.n):Iv Tryz.prog HT 164 d.pins (d.cur i h) [] (fun r:Int×Int×F5=>(0≤r.1∧r.1≤d.n)∧r.2.2.ok) (fun r=>d.cur r.1 r.2.1) (fun r=>[.agg r.2.2.c]):=by
 refine Ol A0 false Tryz.func164 rfl Bu fun B b hH hp=>?_
 conv=>whnf
 refine Fg (C3f d i h hi) hH hp rfl Ca rfl rfl (fun r hr=>go A0 false ?_)
 conv=>whnf
 refine Fg (E5 d r.1 r.2.1 10 hr.1 Bu) hH hp rfl Ca rfl rfl (fun r2 hr2=>go A0 false ?_)
 conv=>whnf
 refine ⟨fun c0=>?_,fun c0=>?_⟩<;>conv=>whnf
 ·refine O2 3 (F1 [-1,3,4,9223372036854775807]) rfl (Db rfl F3) ?_
  refine Fg (A57 d r2.1 r2.2.1 [-1,3,4,9223372036854775807] hr2.1 Bu) hH hp rfl Ca rfl rfl (fun r3 hr3=>go A0 false ?_)
  conv=>whnf
  exact Kk A0 (r3.1,r3.2.1,⟨[-1,3,4,9223372036854775807].getD r3.2.2 0,r.2.2.turn⟩) ⟨hr3.1,B5r _ _ (by intro x hx;simp only [List.mem_cons,List.not_mem_nil,or_false] at hx;show _∧_;omega),hr.2.2⟩ rfl rfl rfl rfl Ca
 ·refine ⟨fun c1=>?_,fun c1=>?_⟩<;>conv=>whnf
  ·refine O2 3 (F1 [-1,5,6,7,-9223372036854775808]) rfl (Db rfl F3) ?_
   refine Fg (A57 d r2.1 r2.2.1 [-1,5,6,7,-9223372036854775808] hr2.1 Bu) hH hp rfl Ca rfl rfl (fun r3 hr3=>go A0 false ?_)
   conv=>whnf
   exact Kk A0 (r3.1,r3.2.1,⟨r.2.2.epoch,[-1,5,6,7,-9223372036854775808].getD r3.2.2 0⟩) ⟨hr3.1,hr.2.1,B5r _ _ (by intro x hx;simp only [List.mem_cons,List.not_mem_nil,or_false] at hx;show _∧_;omega)⟩ rfl rfl rfl rfl Ca
  ·exact Kk A0 (r2.1,r2.2.1,r.2.2) ⟨hr2.1,hr.2⟩ rfl rfl rfl rfl Ca
theorem C4d (d:I9)(i h:Int)(hi:0≤i∧i≤d.n):Iv Tryz.prog HT 156 d.pins (d.cur i h) [] (fun r:Int×Int×A5=>(0≤r.1∧r.1≤d.n)∧r.2.2.ok) (fun r=>d.cur r.1 r.2.1) (fun r=>[.agg r.2.2.c]):=by
 refine Ol A0 false Tryz.func156 rfl Bu fun B b hH hp=>?_
 conv=>whnf
 refine Fg (E5 d i h 5 hi Bu) hH hp rfl Ca rfl rfl (fun r hr=>go A0 false ?_)
 conv=>whnf
 refine Fg (C3f d r.1 r.2.1 hr.1) hH hp rfl Ca rfl rfl (fun s hs=>go A0 false ?_)
 conv=>whnf
 refine Fg (E5 d s.1 s.2.1 12 hs.1 Bu) hH hp rfl Ca rfl rfl (fun r2 hr2=>go A0 false ?_)
 conv=>whnf
 refine Fg (E5 d r2.1 r2.2.1 40 hr2.1 Bu) hH hp rfl Ca rfl rfl (fun r3 hr3=>go A0 false ?_)
 conv=>whnf
 exact Kk A0 (r3.1,r3.2.1,⟨r.2.2,s.2.2,r2.2.2,r3.2.2⟩) ⟨hr3.1,A5q (by show _≤r.2.2;omega) (by show r.2.2≤_;omega),hs.2,A5q (by show _≤r2.2.2;omega) (by show r2.2.2≤_;omega),A5q (by show _≤r3.2.2;omega) (by show r3.2.2≤_;omega)⟩ rfl rfl rfl rfl Ca
theorem B9t (d:I9)(i h:Int)(hi:0≤i∧i≤d.n):Iv Tryz.prog HT 137 d.pins (d.cur i h) [] (fun r:Int×Int×A5=>(0≤r.1∧r.1≤d.n)∧r.2.2.ok) (fun r=>d.cur r.1 r.2.1) (fun r=>[.agg r.2.2.c]):=by
 refine Ol A0 false Tryz.func137 rfl Bu fun B b hH hp=>?_
 conv=>whnf
 refine Fg (C4d d i h hi) hH hp rfl Ca rfl rfl (fun r hr=>go A0 false ?_)
 conv=>whnf
 refine Fg (E5 d r.1 r.2.1 12 hr.1 Bu) hH hp rfl Ca rfl rfl (fun r2 hr2=>go A0 false ?_)
 conv=>whnf
 refine ⟨fun c0=>?_,fun c0=>?_⟩<;>conv=>whnf
 ·refine O2 3 (F1 [-1,7,8]) rfl (Db rfl F3) ?_
  refine Fg (A57 d r2.1 r2.2.1 [-1,7,8] hr2.1 Bu) hH hp rfl Ca rfl rfl (fun r3 hr3=>go A0 false ?_)
  conv=>whnf
  exact Kk A0 (r3.1,r3.2.1,⟨[-1,7,8].getD r3.2.2 0,r.2.2.stamp,r.2.2.key,r.2.2.val⟩) ⟨hr3.1,B5r _ _ (by intro x hx;simp only [List.mem_cons,List.not_mem_nil,or_false] at hx;show _∧_;omega),hr.2.2⟩ rfl rfl rfl rfl Ca
 ·refine ⟨fun c1=>?_,fun c1=>?_⟩<;>conv=>whnf
  ·refine Fg (C3e d r2.1 r2.2.1 hr2.1) hH hp rfl Ca rfl rfl (fun r3 hr3=>go A0 false ?_)
   conv=>whnf
   exact Kk A0 (r3.1,r3.2.1,⟨r.2.2.op,r3.2.2,r.2.2.key,r.2.2.val⟩) ⟨hr3.1,hr.2.1,hr3.2,hr.2.2.2⟩ rfl rfl rfl rfl Ca
  ·refine ⟨fun c2=>?_,fun c2=>?_⟩<;>conv=>whnf
   ·refine O2 3 (F1 [-1,99,100,-9223372036854775808]) rfl (Db rfl F3) ?_
    refine Fg (A57 d r2.1 r2.2.1 [-1,99,100,-9223372036854775808] hr2.1 Bu) hH hp rfl Ca rfl rfl (fun r3 hr3=>go A0 false ?_)
    conv=>whnf
    exact Kk A0 (r3.1,r3.2.1,⟨r.2.2.op,r.2.2.stamp,[-1,99,100,-9223372036854775808].getD r3.2.2 0,r.2.2.val⟩) ⟨hr3.1,hr.2.1,hr.2.2.1,B5r _ _ (by intro x hx;simp only [List.mem_cons,List.not_mem_nil,or_false] at hx;show _∧_;omega),hr.2.2.2.2⟩ rfl rfl rfl rfl Ca
   ·refine ⟨fun c3=>?_,fun c3=>?_⟩<;>conv=>whnf
    ·refine O2 3 (F1 [-1,999,1000,9223372036854775807]) rfl (Db rfl F3) ?_
     refine Fg (A57 d r2.1 r2.2.1 [-1,999,1000,9223372036854775807] hr2.1 Bu) hH hp rfl Ca rfl rfl (fun r3 hr3=>go A0 false ?_)
     conv=>whnf
     exact Kk A0 (r3.1,r3.2.1,⟨r.2.2.op,r.2.2.stamp,r.2.2.key,[-1,999,1000,9223372036854775807].getD r3.2.2 0⟩) ⟨hr3.1,hr.2.1,hr.2.2.1,hr.2.2.2.1,B5r _ _ (by intro x hx;simp only [List.mem_cons,List.not_mem_nil,or_false] at hx;show _∧_;omega)⟩ rfl rfl rfl rfl Ca
    ·exact Kk A0 (r2.1,r2.2.1,r.2.2) ⟨hr2.1,hr.2⟩ rfl rfl rfl rfl Ca
end Go.Proofs.YtonodkjaoalfjaaGreat
