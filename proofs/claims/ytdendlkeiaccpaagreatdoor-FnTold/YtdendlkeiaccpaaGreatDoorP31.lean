/- Part 31 of the proof that each of the laws FnTold returns true for every input. No conditions. -/
import Derived.Test.YtdendlkeiaccpaaGreatDoorP23

set_option linter.unusedSimpArgs false
set_option linter.unusedVariables false
set_option maxRecDepth 100000
namespace Go.Proofs.YtdendlkeiaccpaaGreatDoor
open Go.Sx
def Jg (m:Nat) (x:Aq):Prop:=x.ok∧x.outs.length≤m
def Oz (xs:List Int):Prop:=∀n∈xs,-1≤n∧n≤100
theorem Ja {k a b:Int}{xs:List Int}{m:Nat}(hk:Ee .i64 k)(ha:Ee .i64 a)(hb:Ee .i64 b)(hs:Oz xs)(hl:xs.length≤m)(hm:m≤100):Jg m ⟨k,a,b,xs⟩:=
 ⟨⟨hk,ha,hb,by show xs.length≤maxLen;unfold maxLen;omega,fun n hn=>by have:=hs n hn;exact Dp Ab Ab⟩,hl⟩
theorem Md {xs:List Int}{n:Int}(h:Oz xs)(h0: -1≤n)(h1:n≤100):Oz (xs++[n]):=fun x hx=>by
 rcases List.mem_append.1 hx with hx|hx
 ·exact h x hx
 rw [List.mem_singleton.1 hx];exact ⟨h0,h1⟩
structure JNd where
 k:Nat
 i:Int
 h:Int
 xs:List Int
set_option maxHeartbeats 2000000 in
theorem B2x (d:Dx)(i h:Int)(hi:0≤i∧i≤d.n):Cw Tryz.prog HT 192 d.pins (d.cur i h) [] (fun r:Int×Int×Aq=>(0≤r.1∧r.1≤d.n)∧Jg 2 r.2.2) (fun r=>d.cur r.1 r.2.1) (fun r=>[.agg r.2.2.c]):=by
 refine Dn A0 false Tryz.func192 rfl Aw fun B b hH hp=>?_
 conv=>whnf
 refine Aj (Ai d i h 8 hi Aw) hH hp rfl Ay rfl rfl (fun r hr=>go A0 false ?_)
 conv=>whnf
 have hk:=hr.2.2.2 Aw
 have hk0:=hr.2.1
 (repeat refine An ?_)
 refine ⟨fun c2=>have c2:=eq_of_beq c2;?_,fun c2=>have c2:=beq_eq_false_iff_ne.1 c2;?_⟩<;>conv=>whnf
 ·refine Ev 3 (At [0,1,3,10,999]) rfl (Bd rfl Cf) ?_
  refine Aj (Cn d r.1 r.2.1 [0,1,3,10,999] hr.1 Aw) hH hp rfl Ay rfl rfl (fun r2 hr2=>go A0 false ?_)
  conv=>whnf
  refine ⟨fun c8=>have c8:=bne_iff_ne.1 c8;?_,fun c8=>have c8:=bne_eq_false_iff_eq.1 c8;?_⟩<;>conv=>whnf
  ·refine A1v 2 3 1 (fun i=>(fun n=>[vi n]) (([]:List Int).getD i default)) rfl rfl ?_
   refine C0 A0 false [] (fun j:JNd=>[(4,.c (vi j.k))]) (fun j=>[⟨2,[.c (vi (1+r.2.2)),.c (vi ([0,1,3,10,999].getD r2.2.2 0)),.c (vi 0),.own 4]⟩,⟨1,[.c (vi 0),.c (vi 0),.c (vi 0),.c (.val (.slice none 0 0))]⟩,⟨0,[.c (.val d.v),.c (vi j.i),.c (vi j.h)]⟩]) (fun j=>[⟨4,At j.xs⟩]) (fun j=>(0≤j.i∧j.i≤d.n)∧j.k≤2∧j.xs.length=j.k∧Oz j.xs) (fun j=>3-j.k) (⟨0,r2.1,r2.2.1,[]⟩) (⟨hr2.1,Nat.zero_le _,rfl,fun _ h=>by cases h⟩) ⟨G9,trivial⟩ Cf ⟨Eu,trivial⟩ Cr A7 (fun j hj=>?_)
   conv=>whnf
   obtain ⟨hi2,hk2,hx,hsm⟩:=hj
   refine Aj (Ai d j.i j.h 3 hi2 Aw) hH hp rfl Ay rfl rfl (fun s hs=>go A0 false ?_)
   conv=>whnf
   refine Fi (fun hlt=>?_) fun hlt=>?_<;>conv=>whnf
   ·have hlt2:s.2.2<3:=hs.2.2.2 Aw
    refine Fq rfl ?_
    refine Am A0 false 0 rfl rfl rfl A7 rfl (A4 B2) ?_
    refine Am A0 false 2 rfl rfl rfl A7 rfl (A4 B2) ?_
    refine Am A0 false 3 rfl rfl rfl A7 rfl (A4 B2) ?_
    refine Am A0 false 4 rfl rfl rfl A7 rfl (A4 B2) ?_
    refine Am A0 false 5 rfl rfl rfl A7 rfl (A4 B2) ?_
    refine A3 [1,6] A7 ⟨?_,?_,trivial⟩
    focus
     refine A8 ?_
     refine A6 (A3 [6] A7 ⟨A8 ?_,trivial⟩)
     refine Aj (Ai d s.1 s.2.1 2 hs.1 Aw) hH hp rfl Ay rfl rfl (fun r9 hr9=>go A0 false ?_)
     conv=>whnf
     refine A6 ?_
     refine Am A0 false 7 rfl rfl rfl A7 rfl (A4 B2) ?_
     refine A3 [8] A7 ⟨A8 ?_,trivial⟩
     refine A6 (A3 [9] A7 ⟨A8 ?_,trivial⟩)
     refine B1 A0 rfl rfl rfl rfl rfl rfl rfl rfl rfl rfl rfl (At (j.xs++[1+(j.k:Int) * 2+r9.2.2])) (Aa rfl) Bg Ab (A8 ?_)
     refine A6 ?_
     refine Am A0 false 10 rfl rfl rfl A7 rfl (A4 B2) ?_
     refine A3 [11] A7 ⟨A8 ?_,trivial⟩
     refine A6 (Au A7 (A8 ?_))
    rotate_left 1
    focus
     refine A8 ?_
     refine Aj (Ai d s.1 s.2.1 2 hs.1 Aw) hH hp rfl Ay rfl rfl (fun r9 hr9=>go A0 false ?_)
     conv=>whnf
     refine A6 ?_
     refine Am A0 false 7 rfl rfl rfl A7 rfl (A4 B2) ?_
     refine A3 [1,8] A7 ⟨?_,?_,trivial⟩
     focus
      refine A8 ?_
      refine A6 (A3 [8] A7 ⟨A8 ?_,trivial⟩)
      refine A6 (A3 [9] A7 ⟨A8 ?_,trivial⟩)
      refine B1 A0 rfl rfl rfl rfl rfl rfl rfl rfl rfl rfl rfl (At (j.xs++[1+(j.k:Int) * 2+r9.2.2])) (Aa rfl) Bg Ab (A8 ?_)
      refine A6 ?_
      refine Am A0 false 10 rfl rfl rfl A7 rfl (A4 B2) ?_
      refine A3 [11] A7 ⟨A8 ?_,trivial⟩
      refine A6 (Au A7 (A8 ?_))
     rotate_left 1
     focus
      refine A8 ?_
      refine A6 (A3 [1] A7 ⟨A8 ?_,trivial⟩)
      refine A6 (A3 [9] A7 ⟨A8 ?_,trivial⟩)
      refine B1 A0 rfl rfl rfl rfl rfl rfl rfl rfl rfl rfl rfl (At (j.xs++[1+(j.k:Int) * 2+r9.2.2])) (Aa rfl) Bg Ab (A8 ?_)
      refine A6 ?_
      refine Am A0 false 10 rfl rfl rfl A7 rfl (A4 B2) ?_
      refine A3 [11] A7 ⟨A8 ?_,trivial⟩
      refine A6 (Au A7 (A8 ?_))
    all_goals
     have hn9:=hr9.2.2.2 Aw
     have hn8:=hr9.2.1
     (repeat refine An ?_)
     refine B9 [(4,6)] (⟨j.k+1,r9.1,r9.2.1,j.xs++[1+(j.k:Int) * 2+r9.2.2]⟩) (⟨hr9.1,by show j.k+1≤2;omega,by simp [hx],Md hsm Ab Ab⟩) (by show 3-(j.k+1)<_;omega) ⟨rfl,trivial⟩ ⟨rfl,trivial⟩ Cf A7 Cr A7
   exact Bl A0 (s.1,s.2.1,⟨1+r.2.2,([0,1,3,10,999].getD r2.2.2 0),0,j.xs⟩) ⟨hs.1,Ja (Dp Ab Ab) (Fs _ _ (by intro x hx;simp only [List.mem_cons,List.not_mem_nil,or_false] at hx;show _∧_;omega)) (Dp Aw Aw) hsm Ab Aw⟩ rfl rfl rfl rfl Ay
  repeat refine Bj ?_
  exact Bl A0 (r2.1,r2.2.1,⟨1+r.2.2,([0,1,3,10,999].getD r2.2.2 0),0,[]⟩) ⟨hr2.1,Ja (Dp Ab Ab) (Fs _ _ (by intro x hx;simp only [List.mem_cons,List.not_mem_nil,or_false] at hx;show _∧_;omega)) (Dp Aw Aw) (fun _ h=>by cases h) Aw Aw⟩ rfl rfl rfl rfl Ay
 repeat refine Bj ?_
 refine ⟨fun c3=>have c3:=eq_of_beq c3;?_,fun c3=>have c3:=beq_eq_false_iff_ne.1 c3;?_⟩<;>conv=>whnf
 ·repeat refine Bj ?_
  refine Aj (Ai d r.1 r.2.1 4 hr.1 Aw) hH hp rfl Ay rfl rfl (fun r2 hr2=>go A0 false ?_)
  conv=>whnf
  have hk2:=hr2.2.2.2 Aw
  have hk3:=hr2.2.1
  (repeat refine An ?_)
  refine Aj (Ai d r2.1 r2.2.1 (1+r2.2.2) hr2.1 Ab) hH hp rfl Ay rfl rfl (fun r3 hr3=>go A0 false ?_)
  conv=>whnf
  have hk4:=hr3.2.2.2 Ab
  have hk5:=hr3.2.1
  refine ⟨fun c8=>have c8:=bne_iff_ne.1 c8;?_,fun c8=>have c8:=bne_eq_false_iff_eq.1 c8;?_⟩<;>conv=>whnf
  ·refine A1v 2 3 1 (fun i=>(fun n=>[vi n]) (([]:List Int).getD i default)) rfl rfl ?_
   refine C0 A0 false [] (fun j:JNd=>[(4,.c (vi j.k))]) (fun j=>[⟨2,[.c (vi (1+r.2.2)),.c (vi (1+r2.2.2)),.c (vi r3.2.2),.own 3]⟩,⟨1,[.c (vi 0),.c (vi 0),.c (vi 0),.c (.val (.slice none 0 0))]⟩,⟨0,[.c (.val d.v),.c (vi j.i),.c (vi j.h)]⟩]) (fun j=>[⟨3,At j.xs⟩]) (fun j=>(0≤j.i∧j.i≤d.n)∧j.k≤2∧j.xs.length=j.k∧Oz j.xs) (fun j=>3-j.k) (⟨0,r3.1,r3.2.1,[]⟩) (⟨hr3.1,Nat.zero_le _,rfl,fun _ h=>by cases h⟩) ⟨G9,trivial⟩ Cf ⟨Eu,trivial⟩ Cr A7 (fun j hj=>?_)
   conv=>whnf
   obtain ⟨hi2,hk2,hx,hsm⟩:=hj
   refine Aj (Ai d j.i j.h 3 hi2 Aw) hH hp rfl Ay rfl rfl (fun s hs=>go A0 false ?_)
   conv=>whnf
   refine Fi (fun hlt=>?_) fun hlt=>?_<;>conv=>whnf
   ·have hlt2:s.2.2<3:=hs.2.2.2 Aw
    refine Fq rfl ?_
    refine Am A0 false 0 rfl rfl rfl A7 rfl (A4 B2) ?_
    refine Am A0 false 2 rfl rfl rfl A7 rfl (A4 B2) ?_
    refine Am A0 false 3 rfl rfl rfl A7 rfl (A4 B2) ?_
    refine Am A0 false 4 rfl rfl rfl A7 rfl (A4 B2) ?_
    refine Am A0 false 5 rfl rfl rfl A7 rfl (A4 B2) ?_
    refine A3 [1,6] A7 ⟨?_,?_,trivial⟩
    focus
     refine A8 ?_
     refine A6 (A3 [6] A7 ⟨A8 ?_,trivial⟩)
     refine Aj (Ai d s.1 s.2.1 2 hs.1 Aw) hH hp rfl Ay rfl rfl (fun r9 hr9=>go A0 false ?_)
     conv=>whnf
     refine A6 ?_
     refine Am A0 false 7 rfl rfl rfl A7 rfl (A4 B2) ?_
     refine A3 [8] A7 ⟨A8 ?_,trivial⟩
     refine A6 (A3 [9] A7 ⟨A8 ?_,trivial⟩)
     refine B1 A0 rfl rfl rfl rfl rfl rfl rfl rfl rfl rfl rfl (At (j.xs++[1+(j.k:Int) * 2+r9.2.2])) (Aa rfl) Bg Ab (A8 ?_)
     refine A6 ?_
     refine Am A0 false 10 rfl rfl rfl A7 rfl (A4 B2) ?_
     refine A3 [11] A7 ⟨A8 ?_,trivial⟩
     refine A6 (Au A7 (A8 ?_))
    rotate_left 1
    focus
     refine A8 ?_
     refine Aj (Ai d s.1 s.2.1 2 hs.1 Aw) hH hp rfl Ay rfl rfl (fun r9 hr9=>go A0 false ?_)
     conv=>whnf
     refine A6 ?_
     refine Am A0 false 7 rfl rfl rfl A7 rfl (A4 B2) ?_
     refine A3 [1,8] A7 ⟨?_,?_,trivial⟩
     focus
      refine A8 ?_
      refine A6 (A3 [8] A7 ⟨A8 ?_,trivial⟩)
      refine A6 (A3 [9] A7 ⟨A8 ?_,trivial⟩)
      refine B1 A0 rfl rfl rfl rfl rfl rfl rfl rfl rfl rfl rfl (At (j.xs++[1+(j.k:Int) * 2+r9.2.2])) (Aa rfl) Bg Ab (A8 ?_)
      refine A6 ?_
      refine Am A0 false 10 rfl rfl rfl A7 rfl (A4 B2) ?_
      refine A3 [11] A7 ⟨A8 ?_,trivial⟩
      refine A6 (Au A7 (A8 ?_))
     rotate_left 1
     focus
      refine A8 ?_
      refine A6 (A3 [1] A7 ⟨A8 ?_,trivial⟩)
      refine A6 (A3 [9] A7 ⟨A8 ?_,trivial⟩)
      refine B1 A0 rfl rfl rfl rfl rfl rfl rfl rfl rfl rfl rfl (At (j.xs++[1+(j.k:Int) * 2+r9.2.2])) (Aa rfl) Bg Ab (A8 ?_)
      refine A6 ?_
      refine Am A0 false 10 rfl rfl rfl A7 rfl (A4 B2) ?_
      refine A3 [11] A7 ⟨A8 ?_,trivial⟩
      refine A6 (Au A7 (A8 ?_))
    all_goals
     have hn9:=hr9.2.2.2 Aw
     have hn8:=hr9.2.1
     (repeat refine An ?_)
     refine B9 [(3,5)] (⟨j.k+1,r9.1,r9.2.1,j.xs++[1+(j.k:Int) * 2+r9.2.2]⟩) (⟨hr9.1,by show j.k+1≤2;omega,by simp [hx],Md hsm Ab Ab⟩) (by show 3-(j.k+1)<_;omega) ⟨rfl,trivial⟩ ⟨rfl,trivial⟩ Cf A7 Cr A7
   exact Bl A0 (s.1,s.2.1,⟨1+r.2.2,(1+r2.2.2),r3.2.2,j.xs⟩) ⟨hs.1,Ja (Dp Ab Ab) (Dp Ab Ab) (Dp Ab Ab) hsm Ab Aw⟩ rfl rfl rfl rfl Ay
  repeat refine Bj ?_
  exact Bl A0 (r3.1,r3.2.1,⟨1+r.2.2,(1+r2.2.2),r3.2.2,[]⟩) ⟨hr3.1,Ja (Dp Ab Ab) (Dp Ab Ab) (Dp Ab Ab) (fun _ h=>by cases h) Aw Aw⟩ rfl rfl rfl rfl Ay
 repeat refine Bj ?_
 refine ⟨fun c4=>have c4:=eq_of_beq c4;?_,fun c4=>have c4:=beq_eq_false_iff_ne.1 c4;?_⟩<;>conv=>whnf
 ·repeat refine Bj ?_
  refine Ev 3 (At [0,1,2,3,50,99]) rfl (Bd rfl Cf) ?_
  refine Aj (Cn d r.1 r.2.1 [0,1,2,3,50,99] hr.1 Aw) hH hp rfl Ay rfl rfl (fun r2 hr2=>go A0 false ?_)
  conv=>whnf
  refine ⟨fun c8=>have c8:=bne_iff_ne.1 c8;?_,fun c8=>have c8:=bne_eq_false_iff_eq.1 c8;?_⟩<;>conv=>whnf
  ·refine A1v 2 3 1 (fun i=>(fun n=>[vi n]) (([]:List Int).getD i default)) rfl rfl ?_
   refine C0 A0 false [] (fun j:JNd=>[(4,.c (vi j.k))]) (fun j=>[⟨2,[.c (vi (1+r.2.2)),.c (vi ([0,1,2,3,50,99].getD r2.2.2 0)),.c (vi 0),.own 4]⟩,⟨1,[.c (vi 0),.c (vi 0),.c (vi 0),.c (.val (.slice none 0 0))]⟩,⟨0,[.c (.val d.v),.c (vi j.i),.c (vi j.h)]⟩]) (fun j=>[⟨4,At j.xs⟩]) (fun j=>(0≤j.i∧j.i≤d.n)∧j.k≤2∧j.xs.length=j.k∧Oz j.xs) (fun j=>3-j.k) (⟨0,r2.1,r2.2.1,[]⟩) (⟨hr2.1,Nat.zero_le _,rfl,fun _ h=>by cases h⟩) ⟨G9,trivial⟩ Cf ⟨Eu,trivial⟩ Cr A7 (fun j hj=>?_)
   conv=>whnf
   obtain ⟨hi2,hk2,hx,hsm⟩:=hj
   refine Aj (Ai d j.i j.h 3 hi2 Aw) hH hp rfl Ay rfl rfl (fun s hs=>go A0 false ?_)
   conv=>whnf
   refine Fi (fun hlt=>?_) fun hlt=>?_<;>conv=>whnf
   ·have hlt2:s.2.2<3:=hs.2.2.2 Aw
    refine Fq rfl ?_
    refine Am A0 false 0 rfl rfl rfl A7 rfl (A4 B2) ?_
    refine Am A0 false 2 rfl rfl rfl A7 rfl (A4 B2) ?_
    refine Am A0 false 3 rfl rfl rfl A7 rfl (A4 B2) ?_
    refine Am A0 false 4 rfl rfl rfl A7 rfl (A4 B2) ?_
    refine Am A0 false 5 rfl rfl rfl A7 rfl (A4 B2) ?_
    refine A3 [1,6] A7 ⟨?_,?_,trivial⟩
    focus
     refine A8 ?_
     refine A6 (A3 [6] A7 ⟨A8 ?_,trivial⟩)
     refine Aj (Ai d s.1 s.2.1 2 hs.1 Aw) hH hp rfl Ay rfl rfl (fun r9 hr9=>go A0 false ?_)
     conv=>whnf
     refine A6 ?_
     refine Am A0 false 7 rfl rfl rfl A7 rfl (A4 B2) ?_
     refine A3 [8] A7 ⟨A8 ?_,trivial⟩
     refine A6 (A3 [9] A7 ⟨A8 ?_,trivial⟩)
     refine B1 A0 rfl rfl rfl rfl rfl rfl rfl rfl rfl rfl rfl (At (j.xs++[1+(j.k:Int) * 2+r9.2.2])) (Aa rfl) Bg Ab (A8 ?_)
     refine A6 ?_
     refine Am A0 false 10 rfl rfl rfl A7 rfl (A4 B2) ?_
     refine A3 [11] A7 ⟨A8 ?_,trivial⟩
     refine A6 (Au A7 (A8 ?_))
    rotate_left 1
    focus
     refine A8 ?_
     refine Aj (Ai d s.1 s.2.1 2 hs.1 Aw) hH hp rfl Ay rfl rfl (fun r9 hr9=>go A0 false ?_)
     conv=>whnf
     refine A6 ?_
     refine Am A0 false 7 rfl rfl rfl A7 rfl (A4 B2) ?_
     refine A3 [1,8] A7 ⟨?_,?_,trivial⟩
     focus
      refine A8 ?_
      refine A6 (A3 [8] A7 ⟨A8 ?_,trivial⟩)
      refine A6 (A3 [9] A7 ⟨A8 ?_,trivial⟩)
      refine B1 A0 rfl rfl rfl rfl rfl rfl rfl rfl rfl rfl rfl (At (j.xs++[1+(j.k:Int) * 2+r9.2.2])) (Aa rfl) Bg Ab (A8 ?_)
      refine A6 ?_
      refine Am A0 false 10 rfl rfl rfl A7 rfl (A4 B2) ?_
      refine A3 [11] A7 ⟨A8 ?_,trivial⟩
      refine A6 (Au A7 (A8 ?_))
     rotate_left 1
     focus
      refine A8 ?_
      refine A6 (A3 [1] A7 ⟨A8 ?_,trivial⟩)
      refine A6 (A3 [9] A7 ⟨A8 ?_,trivial⟩)
      refine B1 A0 rfl rfl rfl rfl rfl rfl rfl rfl rfl rfl rfl (At (j.xs++[1+(j.k:Int) * 2+r9.2.2])) (Aa rfl) Bg Ab (A8 ?_)
      refine A6 ?_
      refine Am A0 false 10 rfl rfl rfl A7 rfl (A4 B2) ?_
      refine A3 [11] A7 ⟨A8 ?_,trivial⟩
      refine A6 (Au A7 (A8 ?_))
    all_goals
     have hn9:=hr9.2.2.2 Aw
     have hn8:=hr9.2.1
     (repeat refine An ?_)
     refine B9 [(4,6)] (⟨j.k+1,r9.1,r9.2.1,j.xs++[1+(j.k:Int) * 2+r9.2.2]⟩) (⟨hr9.1,by show j.k+1≤2;omega,by simp [hx],Md hsm Ab Ab⟩) (by show 3-(j.k+1)<_;omega) ⟨rfl,trivial⟩ ⟨rfl,trivial⟩ Cf A7 Cr A7
   exact Bl A0 (s.1,s.2.1,⟨1+r.2.2,([0,1,2,3,50,99].getD r2.2.2 0),0,j.xs⟩) ⟨hs.1,Ja (Dp Ab Ab) (Fs _ _ (by intro x hx;simp only [List.mem_cons,List.not_mem_nil,or_false] at hx;show _∧_;omega)) (Dp Aw Aw) hsm Ab Aw⟩ rfl rfl rfl rfl Ay
  repeat refine Bj ?_
  exact Bl A0 (r2.1,r2.2.1,⟨1+r.2.2,([0,1,2,3,50,99].getD r2.2.2 0),0,[]⟩) ⟨hr2.1,Ja (Dp Ab Ab) (Fs _ _ (by intro x hx;simp only [List.mem_cons,List.not_mem_nil,or_false] at hx;show _∧_;omega)) (Dp Aw Aw) (fun _ h=>by cases h) Aw Aw⟩ rfl rfl rfl rfl Ay
 repeat refine Bj ?_
 refine ⟨fun c8=>have c8:=bne_iff_ne.1 c8;?_,fun c8=>have c8:=bne_eq_false_iff_eq.1 c8;?_⟩<;>conv=>whnf
 ·refine A1v 2 3 1 (fun i=>(fun n=>[vi n]) (([]:List Int).getD i default)) rfl rfl ?_
  refine C0 A0 false [] (fun j:JNd=>[(4,.c (vi j.k))]) (fun j=>[⟨2,[.c (vi (1+r.2.2)),.c (vi 0),.c (vi 0),.own 3]⟩,⟨1,[.c (vi 0),.c (vi 0),.c (vi 0),.c (.val (.slice none 0 0))]⟩,⟨0,[.c (.val d.v),.c (vi j.i),.c (vi j.h)]⟩]) (fun j=>[⟨3,At j.xs⟩]) (fun j=>(0≤j.i∧j.i≤d.n)∧j.k≤2∧j.xs.length=j.k∧Oz j.xs) (fun j=>3-j.k) (⟨0,r.1,r.2.1,[]⟩) (⟨hr.1,Nat.zero_le _,rfl,fun _ h=>by cases h⟩) ⟨G9,trivial⟩ Cf ⟨Eu,trivial⟩ Cr A7 (fun j hj=>?_)
  conv=>whnf
  obtain ⟨hi2,hk2,hx,hsm⟩:=hj
  refine Aj (Ai d j.i j.h 3 hi2 Aw) hH hp rfl Ay rfl rfl (fun s hs=>go A0 false ?_)
  conv=>whnf
  refine Fi (fun hlt=>?_) fun hlt=>?_<;>conv=>whnf
  ·have hlt2:s.2.2<3:=hs.2.2.2 Aw
   refine Fq rfl ?_
   refine Am A0 false 0 rfl rfl rfl A7 rfl (A4 B2) ?_
   refine Am A0 false 2 rfl rfl rfl A7 rfl (A4 B2) ?_
   refine Am A0 false 3 rfl rfl rfl A7 rfl (A4 B2) ?_
   refine Am A0 false 4 rfl rfl rfl A7 rfl (A4 B2) ?_
   refine Am A0 false 5 rfl rfl rfl A7 rfl (A4 B2) ?_
   refine A3 [1,6] A7 ⟨?_,?_,trivial⟩
   focus
    refine A8 ?_
    refine A6 (A3 [6] A7 ⟨A8 ?_,trivial⟩)
    refine Aj (Ai d s.1 s.2.1 2 hs.1 Aw) hH hp rfl Ay rfl rfl (fun r9 hr9=>go A0 false ?_)
    conv=>whnf
    refine A6 ?_
    refine Am A0 false 7 rfl rfl rfl A7 rfl (A4 B2) ?_
    refine A3 [8] A7 ⟨A8 ?_,trivial⟩
    refine A6 (A3 [9] A7 ⟨A8 ?_,trivial⟩)
    refine B1 A0 rfl rfl rfl rfl rfl rfl rfl rfl rfl rfl rfl (At (j.xs++[1+(j.k:Int) * 2+r9.2.2])) (Aa rfl) Bg Ab (A8 ?_)
    refine A6 ?_
    refine Am A0 false 10 rfl rfl rfl A7 rfl (A4 B2) ?_
    refine A3 [11] A7 ⟨A8 ?_,trivial⟩
    refine A6 (Au A7 (A8 ?_))
   rotate_left 1
   focus
    refine A8 ?_
    refine Aj (Ai d s.1 s.2.1 2 hs.1 Aw) hH hp rfl Ay rfl rfl (fun r9 hr9=>go A0 false ?_)
    conv=>whnf
    refine A6 ?_
    refine Am A0 false 7 rfl rfl rfl A7 rfl (A4 B2) ?_
    refine A3 [1,8] A7 ⟨?_,?_,trivial⟩
    focus
     refine A8 ?_
     refine A6 (A3 [8] A7 ⟨A8 ?_,trivial⟩)
     refine A6 (A3 [9] A7 ⟨A8 ?_,trivial⟩)
     refine B1 A0 rfl rfl rfl rfl rfl rfl rfl rfl rfl rfl rfl (At (j.xs++[1+(j.k:Int) * 2+r9.2.2])) (Aa rfl) Bg Ab (A8 ?_)
     refine A6 ?_
     refine Am A0 false 10 rfl rfl rfl A7 rfl (A4 B2) ?_
     refine A3 [11] A7 ⟨A8 ?_,trivial⟩
     refine A6 (Au A7 (A8 ?_))
    rotate_left 1
    focus
     refine A8 ?_
     refine A6 (A3 [1] A7 ⟨A8 ?_,trivial⟩)
     refine A6 (A3 [9] A7 ⟨A8 ?_,trivial⟩)
     refine B1 A0 rfl rfl rfl rfl rfl rfl rfl rfl rfl rfl rfl (At (j.xs++[1+(j.k:Int) * 2+r9.2.2])) (Aa rfl) Bg Ab (A8 ?_)
     refine A6 ?_
     refine Am A0 false 10 rfl rfl rfl A7 rfl (A4 B2) ?_
     refine A3 [11] A7 ⟨A8 ?_,trivial⟩
     refine A6 (Au A7 (A8 ?_))
   all_goals
    have hn9:=hr9.2.2.2 Aw
    have hn8:=hr9.2.1
    (repeat refine An ?_)
    refine B9 [(3,5)] (⟨j.k+1,r9.1,r9.2.1,j.xs++[1+(j.k:Int) * 2+r9.2.2]⟩) (⟨hr9.1,by show j.k+1≤2;omega,by simp [hx],Md hsm Ab Ab⟩) (by show 3-(j.k+1)<_;omega) ⟨rfl,trivial⟩ ⟨rfl,trivial⟩ Cf A7 Cr A7
  exact Bl A0 (s.1,s.2.1,⟨1+r.2.2,0,0,j.xs⟩) ⟨hs.1,Ja (Dp Ab Ab) (Dp Aw Aw) (Dp Aw Aw) hsm Ab Aw⟩ rfl rfl rfl rfl Ay
 repeat refine Bj ?_
 exact Bl A0 (r.1,r.2.1,⟨1+r.2.2,0,0,[]⟩) ⟨hr.1,Ja (Dp Ab Ab) (Dp Aw Aw) (Dp Aw Aw) (fun _ h=>by cases h) Aw Aw⟩ rfl rfl rfl rfl Ay
theorem Jg.to {m m':Nat}{x:Aq}(h:Jg m x)(hm:m≤m'):Jg m' x:=⟨h.1,Nat.le_trans h.2 hm⟩
theorem B3u {m m':Nat}{x:Aq}{k:Int}(h:Jg m x)(hm:m≤m')(hk:Ee .i64 k):Jg m' ⟨k,x.a,x.b,x.outs⟩:=⟨⟨hk,h.1.2⟩,Nat.le_trans h.2 hm⟩
theorem B3s {m m':Nat}{x:Aq}{k:Int}(h:Jg m x)(hm:m≤m')(hk:Ee .i64 k):Jg m' ⟨x.kind,k,x.b,x.outs⟩:=⟨⟨h.1.1,hk,h.1.2.2⟩,Nat.le_trans h.2 hm⟩
theorem B3t {m m':Nat}{x:Aq}{k:Int}(h:Jg m x)(hm:m≤m')(hk:Ee .i64 k):Jg m' ⟨x.kind,x.a,k,x.outs⟩:=⟨⟨h.1.1,h.1.2.1,hk,h.1.2.2.2⟩,Nat.le_trans h.2 hm⟩
theorem A5o {m:Nat}{x:Aq}{k:Int}(h:Jg m x)(hm:m≤1000)(hk:Ee .i64 k):Jg (m+1) ⟨x.kind,x.a,x.b,x.outs++[k]⟩:=by
 have hl:=h.2
 refine ⟨⟨h.1.1,h.1.2.1,h.1.2.2.1,?_,fun n hn=>?_⟩,?_⟩
 ·show (x.outs++[k]).length≤maxLen
  rw [List.length_append,List.length_singleton,maxLen];omega
 ·rcases List.mem_append.1 hn with hn|hn
  ·exact h.1.2.2.2.2 n hn
  rw [List.mem_singleton.1 hn];exact hk
 show (x.outs++[k]).length≤m+1
 rw [List.length_append,List.length_singleton];omega
set_option maxHeartbeats 2000000 in
theorem Ty (d:Dx)(i h:Int)(hi:0≤i∧i≤d.n):Cw Tryz.prog HT 161 d.pins (d.cur i h) [] (fun r:Int×Int×Aq=>(0≤r.1∧r.1≤d.n)∧Jg 3 r.2.2) (fun r=>d.cur r.1 r.2.1) (fun r=>[.agg r.2.2.c]):=by
 refine Dn A0 false Tryz.func161 rfl Aw fun B b hH hp=>?_
 conv=>whnf
 refine Aj (B2x d i h hi) hH hp rfl Ay rfl rfl (fun r hr=>go A0 false ?_)
 conv=>whnf
 have hl:=hr.2.2
 refine Aj (Ai d r.1 r.2.1 12 hr.1 Aw) hH hp rfl Ay rfl rfl (fun r2 hr2=>go A0 false ?_)
 conv=>whnf
 refine ⟨fun c0=>?_,fun c0=>?_⟩<;>conv=>whnf
 ·repeat refine Bj ?_
  refine Aj (Ai d r2.1 r2.2.1 11 hr2.1 Aw) hH hp rfl Ay rfl rfl (fun r3 hr3=>go A0 false ?_)
  conv=>whnf
  have h3:=hr3.2.2.2 Aw
  have h4:=hr3.2.1
  (repeat refine An ?_)
  exact Bl A0 (r3.1,r3.2.1,⟨r3.2.2-1,r.2.2.a,r.2.2.b,r.2.2.outs⟩) ⟨hr3.1,B3u hr.2 Aw (Dp Ab Ab)⟩ rfl rfl rfl rfl Ay
 repeat refine Bj ?_
 refine ⟨fun c1=>?_,fun c1=>?_⟩<;>conv=>whnf
 ·repeat refine Bj ?_
  refine Ev 4 (At [-1,0,1000,100,11]) rfl (Bd rfl Cf) ?_
  refine Aj (Cn d r2.1 r2.2.1 [-1,0,1000,100,11] hr2.1 Aw) hH hp rfl Ay rfl rfl (fun r3 hr3=>go A0 false ?_)
  conv=>whnf
  exact Bl A0 (r3.1,r3.2.1,⟨r.2.2.kind,[-1,0,1000,100,11].getD r3.2.2 0,r.2.2.b,r.2.2.outs⟩) ⟨hr3.1,B3s hr.2 Aw (Fs _ _ (by intro x hx;simp only [List.mem_cons,List.not_mem_nil,or_false] at hx;show _∧_;omega))⟩ rfl rfl rfl rfl Ay
 repeat refine Bj ?_
 refine ⟨fun c2=>?_,fun c2=>?_⟩<;>conv=>whnf
 ·repeat refine Bj ?_
  refine Ev 4 (At [-1,1,3]) rfl (Bd rfl Cf) ?_
  refine Aj (Cn d r2.1 r2.2.1 [-1,1,3] hr2.1 Aw) hH hp rfl Ay rfl rfl (fun r3 hr3=>go A0 false ?_)
  conv=>whnf
  exact Bl A0 (r3.1,r3.2.1,⟨r.2.2.kind,r.2.2.a,[-1,1,3].getD r3.2.2 0,r.2.2.outs⟩) ⟨hr3.1,B3t hr.2 Aw (Fs _ _ (by intro x hx;simp only [List.mem_cons,List.not_mem_nil,or_false] at hx;show _∧_;omega))⟩ rfl rfl rfl rfl Ay
 repeat refine Bj ?_
 refine ⟨fun c3=>?_,fun c3=>?_⟩<;>conv=>whnf
 ·repeat refine Bj ?_
  refine Fq rfl ?_
  refine Am A0 false 0 rfl rfl rfl A7 rfl (A4 B2) ?_
  refine Am A0 false 2 rfl rfl rfl A7 rfl (A4 B2) ?_
  refine A3 [1,3] A7 ⟨?_,?_,trivial⟩
  focus
   refine A8 ?_
   refine A6 (A3 [3] A7 ⟨A8 ?_,trivial⟩)
   refine A6 (A3 [4] A7 ⟨A8 ?_,trivial⟩)
   refine Ev 4 (At [1,7,8,-1]) rfl (Bd rfl Cf) ?_
   refine Aj (Cn d r2.1 r2.2.1 [1,7,8,-1] hr2.1 Aw) hH hp rfl Ay rfl rfl (fun r3 hr3=>go A0 false ?_)
   conv=>whnf
   refine A6 (A3 [5] A7 ⟨A8 ?_,trivial⟩)
   refine A6 (A3 [6] A7 ⟨A8 ?_,trivial⟩)
   refine B1 A0 rfl rfl rfl rfl rfl rfl rfl rfl rfl rfl rfl (At (r.2.2.outs++[[1,7,8,-1].getD r3.2.2 0])) (Aa rfl) Bg Ab (A8 ?_)
   refine A6 ?_
   refine Am A0 false 7 rfl rfl rfl A7 rfl (A4 B2) ?_
   refine A3 [8] A7 ⟨A8 ?_,trivial⟩
   refine A6 (Au A7 (A8 ?_))
  rotate_left 1
  focus
   refine A8 ?_
   refine A6 ?_
   refine A3 [1,4] A7 ⟨?_,?_,trivial⟩
   focus
    refine A8 ?_
    refine A6 (A3 [4] A7 ⟨A8 ?_,trivial⟩)
    refine Ev 4 (At [1,7,8,-1]) rfl (Bd rfl Cf) ?_
    refine Aj (Cn d r2.1 r2.2.1 [1,7,8,-1] hr2.1 Aw) hH hp rfl Ay rfl rfl (fun r3 hr3=>go A0 false ?_)
    conv=>whnf
    refine A6 (A3 [5] A7 ⟨A8 ?_,trivial⟩)
    refine A6 (A3 [6] A7 ⟨A8 ?_,trivial⟩)
    refine B1 A0 rfl rfl rfl rfl rfl rfl rfl rfl rfl rfl rfl (At (r.2.2.outs++[[1,7,8,-1].getD r3.2.2 0])) (Aa rfl) Bg Ab (A8 ?_)
    refine A6 ?_
    refine Am A0 false 7 rfl rfl rfl A7 rfl (A4 B2) ?_
    refine A3 [8] A7 ⟨A8 ?_,trivial⟩
    refine A6 (Au A7 (A8 ?_))
   rotate_left 1
   focus
    refine A8 ?_
    refine Ev 4 (At [1,7,8,-1]) rfl (Bd rfl Cf) ?_
    refine Aj (Cn d r2.1 r2.2.1 [1,7,8,-1] hr2.1 Aw) hH hp rfl Ay rfl rfl (fun r3 hr3=>go A0 false ?_)
    conv=>whnf
    refine A6 ?_
    refine A3 [1,5] A7 ⟨?_,?_,trivial⟩
    focus
     refine A8 ?_
     refine A6 (A3 [5] A7 ⟨A8 ?_,trivial⟩)
     refine A6 (A3 [6] A7 ⟨A8 ?_,trivial⟩)
     refine B1 A0 rfl rfl rfl rfl rfl rfl rfl rfl rfl rfl rfl (At (r.2.2.outs++[[1,7,8,-1].getD r3.2.2 0])) (Aa rfl) Bg Ab (A8 ?_)
     refine A6 ?_
     refine Am A0 false 7 rfl rfl rfl A7 rfl (A4 B2) ?_
     refine A3 [8] A7 ⟨A8 ?_,trivial⟩
     refine A6 (Au A7 (A8 ?_))
    rotate_left 1
    focus
     refine A8 ?_
     refine A6 (A3 [1] A7 ⟨A8 ?_,trivial⟩)
     refine A6 (A3 [6] A7 ⟨A8 ?_,trivial⟩)
     refine B1 A0 rfl rfl rfl rfl rfl rfl rfl rfl rfl rfl rfl (At (r.2.2.outs++[[1,7,8,-1].getD r3.2.2 0])) (Aa rfl) Bg Ab (A8 ?_)
     refine A6 ?_
     refine Am A0 false 7 rfl rfl rfl A7 rfl (A4 B2) ?_
     refine A3 [8] A7 ⟨A8 ?_,trivial⟩
     refine A6 (Au A7 (A8 ?_))
  all_goals exact Bl A0 (r3.1,r3.2.1,⟨r.2.2.kind,r.2.2.a,r.2.2.b,r.2.2.outs++[[1,7,8,-1].getD r3.2.2 0]⟩) ⟨hr3.1,A5o hr.2 Aw (Fs _ _ (by intro x hx;simp only [List.mem_cons,List.not_mem_nil,or_false] at hx;show _∧_;omega))⟩ rfl rfl rfl rfl Ay
 repeat refine Bj ?_
 exact Bl A0 (r2.1,r2.2.1,r.2.2) ⟨hr2.1,hr.2.to Aw⟩ rfl rfl rfl rfl Ay
end Go.Proofs.YtdendlkeiaccpaaGreatDoor
