/- Part 32 of the proof that each of the laws FnTotals returns true for every input. No conditions. -/
import Derived.Test.YtdendlkeiaccpaaGreatP24

set_option linter.unusedSimpArgs false
set_option linter.unusedVariables false
set_option maxRecDepth 100000
namespace Go.Proofs.YtdendlkeiaccpaaGreat
open Go.Sx
def Jc (m:Nat) (x:An):Prop:=x.ok∧x.outs.length≤m
def Om (xs:List Int):Prop:=∀n∈xs,-1≤n∧n≤100
theorem J2 {k a b:Int}{xs:List Int}{m:Nat}(hk:Et .i64 k)(ha:Et .i64 a)(hb:Et .i64 b)(hs:Om xs)(hl:xs.length≤m)(hm:m≤100):Jc m ⟨k,a,b,xs⟩:=
 ⟨⟨hk,ha,hb,by show xs.length≤maxLen;unfold maxLen;omega,fun n hn=>by have:=hs n hn;exact Dk Ab Ab⟩,hl⟩
theorem M8 {xs:List Int}{n:Int}(h:Om xs)(h0: -1≤n)(h1:n≤100):Om (xs++[n]):=fun x hx=>by
 rcases List.mem_append.1 hx with hx|hx
 ·exact h x hx
 rw [List.mem_singleton.1 hx];exact ⟨h0,h1⟩
structure JNd where
 k:Nat
 i:Int
 h:Int
 xs:List Int
set_option maxHeartbeats 2000000 in
theorem B15 (d:Dy)(i h:Int)(hi:0≤i∧i≤d.n):Cr Tryz.prog HT 124 d.pins (d.cur i h) [] (fun r:Int×Int×An=>(0≤r.1∧r.1≤d.n)∧Jc 2 r.2.2) (fun r=>d.cur r.1 r.2.1) (fun r=>[.agg r.2.2.c]):=by
 refine Df A0 false Tryz.func124 rfl Aw fun B b hH hp=>?_
 conv=>whnf
 refine Ai (Ah d i h 8 hi Aw) hH hp rfl At rfl rfl (fun r hr=>go A0 false ?_)
 conv=>whnf
 have hk:=hr.2.2.2 Aw
 have hk0:=hr.2.1
 (repeat refine Am ?_)
 refine ⟨fun c2=>have c2:=eq_of_beq c2;?_,fun c2=>have c2:=beq_eq_false_iff_ne.1 c2;?_⟩<;>conv=>whnf
 ·refine Em 3 (Ap [0,1,3,10,999]) rfl (Ba rfl Cf) ?_
  refine Ai (D4 d r.1 r.2.1 [0,1,3,10,999] hr.1 Aw) hH hp rfl At rfl rfl (fun r2 hr2=>go A0 false ?_)
  conv=>whnf
  refine ⟨fun c8=>have c8:=bne_iff_ne.1 c8;?_,fun c8=>have c8:=bne_eq_false_iff_eq.1 c8;?_⟩<;>conv=>whnf
  ·refine A00 2 3 1 (fun i=>(fun n=>[vi n]) (([]:List Int).getD i default)) rfl rfl ?_
   refine Bv A0 false [] (fun j:JNd=>[(4,.c (vi j.k))]) (fun j=>[⟨2,[.c (vi (1+r.2.2)),.c (vi ([0,1,3,10,999].getD r2.2.2 0)),.c (vi 0),.own 4]⟩,⟨1,[.c (vi 0),.c (vi 0),.c (vi 0),.c (.val (.slice none 0 0))]⟩,⟨0,[.c (.val d.v),.c (vi j.i),.c (vi j.h)]⟩]) (fun j=>[⟨4,Ap j.xs⟩]) (fun j=>(0≤j.i∧j.i≤d.n)∧j.k≤2∧j.xs.length=j.k∧Om j.xs) (fun j=>3-j.k) (⟨0,r2.1,r2.2.1,[]⟩) (⟨hr2.1,Nat.zero_le _,rfl,fun _ h=>by cases h⟩) ⟨F3,trivial⟩ Cf ⟨F2,trivial⟩ Cj A7 (fun j hj=>?_)
   conv=>whnf
   obtain ⟨hi2,hk2,hx,hsm⟩:=hj
   refine Ai (Ah d j.i j.h 3 hi2 Aw) hH hp rfl At rfl rfl (fun s hs=>go A0 false ?_)
   conv=>whnf
   refine Es (fun hlt=>?_) fun hlt=>?_<;>conv=>whnf
   ·have hlt2:s.2.2<3:=hs.2.2.2 Aw
    refine Fk rfl ?_
    refine Aj A0 false 0 rfl rfl rfl A7 rfl (A4 B1) ?_
    refine Aj A0 false 2 rfl rfl rfl A7 rfl (A4 B1) ?_
    refine Aj A0 false 3 rfl rfl rfl A7 rfl (A4 B1) ?_
    refine Aj A0 false 4 rfl rfl rfl A7 rfl (A4 B1) ?_
    refine Aj A0 false 5 rfl rfl rfl A7 rfl (A4 B1) ?_
    refine A3 [1,6] A7 ⟨?_,?_,trivial⟩
    focus
     refine A8 ?_
     refine A5 (A3 [6] A7 ⟨A8 ?_,trivial⟩)
     refine Ai (Ah d s.1 s.2.1 2 hs.1 Aw) hH hp rfl At rfl rfl (fun r9 hr9=>go A0 false ?_)
     conv=>whnf
     refine A5 ?_
     refine Aj A0 false 7 rfl rfl rfl A7 rfl (A4 B1) ?_
     refine A3 [8] A7 ⟨A8 ?_,trivial⟩
     refine A5 (A3 [9] A7 ⟨A8 ?_,trivial⟩)
     refine Av A0 rfl rfl rfl rfl rfl rfl rfl rfl rfl rfl rfl (Ap (j.xs++[1+(j.k:Int) * 2+r9.2.2])) (Ad rfl) Bj Ab (A8 ?_)
     refine A5 ?_
     refine Aj A0 false 10 rfl rfl rfl A7 rfl (A4 B1) ?_
     refine A3 [11] A7 ⟨A8 ?_,trivial⟩
     refine A5 (Aq A7 (A8 ?_))
    rotate_left 1
    focus
     refine A8 ?_
     refine Ai (Ah d s.1 s.2.1 2 hs.1 Aw) hH hp rfl At rfl rfl (fun r9 hr9=>go A0 false ?_)
     conv=>whnf
     refine A5 ?_
     refine Aj A0 false 7 rfl rfl rfl A7 rfl (A4 B1) ?_
     refine A3 [1,8] A7 ⟨?_,?_,trivial⟩
     focus
      refine A8 ?_
      refine A5 (A3 [8] A7 ⟨A8 ?_,trivial⟩)
      refine A5 (A3 [9] A7 ⟨A8 ?_,trivial⟩)
      refine Av A0 rfl rfl rfl rfl rfl rfl rfl rfl rfl rfl rfl (Ap (j.xs++[1+(j.k:Int) * 2+r9.2.2])) (Ad rfl) Bj Ab (A8 ?_)
      refine A5 ?_
      refine Aj A0 false 10 rfl rfl rfl A7 rfl (A4 B1) ?_
      refine A3 [11] A7 ⟨A8 ?_,trivial⟩
      refine A5 (Aq A7 (A8 ?_))
     rotate_left 1
     focus
      refine A8 ?_
      refine A5 (A3 [1] A7 ⟨A8 ?_,trivial⟩)
      refine A5 (A3 [9] A7 ⟨A8 ?_,trivial⟩)
      refine Av A0 rfl rfl rfl rfl rfl rfl rfl rfl rfl rfl rfl (Ap (j.xs++[1+(j.k:Int) * 2+r9.2.2])) (Ad rfl) Bj Ab (A8 ?_)
      refine A5 ?_
      refine Aj A0 false 10 rfl rfl rfl A7 rfl (A4 B1) ?_
      refine A3 [11] A7 ⟨A8 ?_,trivial⟩
      refine A5 (Aq A7 (A8 ?_))
    all_goals
     have hn9:=hr9.2.2.2 Aw
     have hn8:=hr9.2.1
     (repeat refine Am ?_)
     refine B6 [(4,6)] (⟨j.k+1,r9.1,r9.2.1,j.xs++[1+(j.k:Int) * 2+r9.2.2]⟩) (⟨hr9.1,by show j.k+1≤2;omega,by simp [hx],M8 hsm Ab Ab⟩) (by show 3-(j.k+1)<_;omega) ⟨rfl,trivial⟩ ⟨rfl,trivial⟩ Cf A7 Cj A7
   exact Bm A0 (s.1,s.2.1,⟨1+r.2.2,([0,1,3,10,999].getD r2.2.2 0),0,j.xs⟩) ⟨hs.1,J2 (Dk Ab Ab) (Fl _ _ (by intro x hx;simp only [List.mem_cons,List.not_mem_nil,or_false] at hx;show _∧_;omega)) (Dk Aw Aw) hsm Ab Aw⟩ rfl rfl rfl rfl At
  repeat refine B7 ?_
  exact Bm A0 (r2.1,r2.2.1,⟨1+r.2.2,([0,1,3,10,999].getD r2.2.2 0),0,[]⟩) ⟨hr2.1,J2 (Dk Ab Ab) (Fl _ _ (by intro x hx;simp only [List.mem_cons,List.not_mem_nil,or_false] at hx;show _∧_;omega)) (Dk Aw Aw) (fun _ h=>by cases h) Aw Aw⟩ rfl rfl rfl rfl At
 repeat refine B7 ?_
 refine ⟨fun c3=>have c3:=eq_of_beq c3;?_,fun c3=>have c3:=beq_eq_false_iff_ne.1 c3;?_⟩<;>conv=>whnf
 ·repeat refine B7 ?_
  refine Ai (Ah d r.1 r.2.1 4 hr.1 Aw) hH hp rfl At rfl rfl (fun r2 hr2=>go A0 false ?_)
  conv=>whnf
  have hk2:=hr2.2.2.2 Aw
  have hk3:=hr2.2.1
  (repeat refine Am ?_)
  refine Ai (Ah d r2.1 r2.2.1 (1+r2.2.2) hr2.1 Ab) hH hp rfl At rfl rfl (fun r3 hr3=>go A0 false ?_)
  conv=>whnf
  have hk4:=hr3.2.2.2 Ab
  have hk5:=hr3.2.1
  refine ⟨fun c8=>have c8:=bne_iff_ne.1 c8;?_,fun c8=>have c8:=bne_eq_false_iff_eq.1 c8;?_⟩<;>conv=>whnf
  ·refine A00 2 3 1 (fun i=>(fun n=>[vi n]) (([]:List Int).getD i default)) rfl rfl ?_
   refine Bv A0 false [] (fun j:JNd=>[(4,.c (vi j.k))]) (fun j=>[⟨2,[.c (vi (1+r.2.2)),.c (vi (1+r2.2.2)),.c (vi r3.2.2),.own 3]⟩,⟨1,[.c (vi 0),.c (vi 0),.c (vi 0),.c (.val (.slice none 0 0))]⟩,⟨0,[.c (.val d.v),.c (vi j.i),.c (vi j.h)]⟩]) (fun j=>[⟨3,Ap j.xs⟩]) (fun j=>(0≤j.i∧j.i≤d.n)∧j.k≤2∧j.xs.length=j.k∧Om j.xs) (fun j=>3-j.k) (⟨0,r3.1,r3.2.1,[]⟩) (⟨hr3.1,Nat.zero_le _,rfl,fun _ h=>by cases h⟩) ⟨F3,trivial⟩ Cf ⟨F2,trivial⟩ Cj A7 (fun j hj=>?_)
   conv=>whnf
   obtain ⟨hi2,hk2,hx,hsm⟩:=hj
   refine Ai (Ah d j.i j.h 3 hi2 Aw) hH hp rfl At rfl rfl (fun s hs=>go A0 false ?_)
   conv=>whnf
   refine Es (fun hlt=>?_) fun hlt=>?_<;>conv=>whnf
   ·have hlt2:s.2.2<3:=hs.2.2.2 Aw
    refine Fk rfl ?_
    refine Aj A0 false 0 rfl rfl rfl A7 rfl (A4 B1) ?_
    refine Aj A0 false 2 rfl rfl rfl A7 rfl (A4 B1) ?_
    refine Aj A0 false 3 rfl rfl rfl A7 rfl (A4 B1) ?_
    refine Aj A0 false 4 rfl rfl rfl A7 rfl (A4 B1) ?_
    refine Aj A0 false 5 rfl rfl rfl A7 rfl (A4 B1) ?_
    refine A3 [1,6] A7 ⟨?_,?_,trivial⟩
    focus
     refine A8 ?_
     refine A5 (A3 [6] A7 ⟨A8 ?_,trivial⟩)
     refine Ai (Ah d s.1 s.2.1 2 hs.1 Aw) hH hp rfl At rfl rfl (fun r9 hr9=>go A0 false ?_)
     conv=>whnf
     refine A5 ?_
     refine Aj A0 false 7 rfl rfl rfl A7 rfl (A4 B1) ?_
     refine A3 [8] A7 ⟨A8 ?_,trivial⟩
     refine A5 (A3 [9] A7 ⟨A8 ?_,trivial⟩)
     refine Av A0 rfl rfl rfl rfl rfl rfl rfl rfl rfl rfl rfl (Ap (j.xs++[1+(j.k:Int) * 2+r9.2.2])) (Ad rfl) Bj Ab (A8 ?_)
     refine A5 ?_
     refine Aj A0 false 10 rfl rfl rfl A7 rfl (A4 B1) ?_
     refine A3 [11] A7 ⟨A8 ?_,trivial⟩
     refine A5 (Aq A7 (A8 ?_))
    rotate_left 1
    focus
     refine A8 ?_
     refine Ai (Ah d s.1 s.2.1 2 hs.1 Aw) hH hp rfl At rfl rfl (fun r9 hr9=>go A0 false ?_)
     conv=>whnf
     refine A5 ?_
     refine Aj A0 false 7 rfl rfl rfl A7 rfl (A4 B1) ?_
     refine A3 [1,8] A7 ⟨?_,?_,trivial⟩
     focus
      refine A8 ?_
      refine A5 (A3 [8] A7 ⟨A8 ?_,trivial⟩)
      refine A5 (A3 [9] A7 ⟨A8 ?_,trivial⟩)
      refine Av A0 rfl rfl rfl rfl rfl rfl rfl rfl rfl rfl rfl (Ap (j.xs++[1+(j.k:Int) * 2+r9.2.2])) (Ad rfl) Bj Ab (A8 ?_)
      refine A5 ?_
      refine Aj A0 false 10 rfl rfl rfl A7 rfl (A4 B1) ?_
      refine A3 [11] A7 ⟨A8 ?_,trivial⟩
      refine A5 (Aq A7 (A8 ?_))
     rotate_left 1
     focus
      refine A8 ?_
      refine A5 (A3 [1] A7 ⟨A8 ?_,trivial⟩)
      refine A5 (A3 [9] A7 ⟨A8 ?_,trivial⟩)
      refine Av A0 rfl rfl rfl rfl rfl rfl rfl rfl rfl rfl rfl (Ap (j.xs++[1+(j.k:Int) * 2+r9.2.2])) (Ad rfl) Bj Ab (A8 ?_)
      refine A5 ?_
      refine Aj A0 false 10 rfl rfl rfl A7 rfl (A4 B1) ?_
      refine A3 [11] A7 ⟨A8 ?_,trivial⟩
      refine A5 (Aq A7 (A8 ?_))
    all_goals
     have hn9:=hr9.2.2.2 Aw
     have hn8:=hr9.2.1
     (repeat refine Am ?_)
     refine B6 [(3,5)] (⟨j.k+1,r9.1,r9.2.1,j.xs++[1+(j.k:Int) * 2+r9.2.2]⟩) (⟨hr9.1,by show j.k+1≤2;omega,by simp [hx],M8 hsm Ab Ab⟩) (by show 3-(j.k+1)<_;omega) ⟨rfl,trivial⟩ ⟨rfl,trivial⟩ Cf A7 Cj A7
   exact Bm A0 (s.1,s.2.1,⟨1+r.2.2,(1+r2.2.2),r3.2.2,j.xs⟩) ⟨hs.1,J2 (Dk Ab Ab) (Dk Ab Ab) (Dk Ab Ab) hsm Ab Aw⟩ rfl rfl rfl rfl At
  repeat refine B7 ?_
  exact Bm A0 (r3.1,r3.2.1,⟨1+r.2.2,(1+r2.2.2),r3.2.2,[]⟩) ⟨hr3.1,J2 (Dk Ab Ab) (Dk Ab Ab) (Dk Ab Ab) (fun _ h=>by cases h) Aw Aw⟩ rfl rfl rfl rfl At
 repeat refine B7 ?_
 refine ⟨fun c4=>have c4:=eq_of_beq c4;?_,fun c4=>have c4:=beq_eq_false_iff_ne.1 c4;?_⟩<;>conv=>whnf
 ·repeat refine B7 ?_
  refine Em 3 (Ap [0,1,2,3,50,99]) rfl (Ba rfl Cf) ?_
  refine Ai (D4 d r.1 r.2.1 [0,1,2,3,50,99] hr.1 Aw) hH hp rfl At rfl rfl (fun r2 hr2=>go A0 false ?_)
  conv=>whnf
  refine ⟨fun c8=>have c8:=bne_iff_ne.1 c8;?_,fun c8=>have c8:=bne_eq_false_iff_eq.1 c8;?_⟩<;>conv=>whnf
  ·refine A00 2 3 1 (fun i=>(fun n=>[vi n]) (([]:List Int).getD i default)) rfl rfl ?_
   refine Bv A0 false [] (fun j:JNd=>[(4,.c (vi j.k))]) (fun j=>[⟨2,[.c (vi (1+r.2.2)),.c (vi ([0,1,2,3,50,99].getD r2.2.2 0)),.c (vi 0),.own 4]⟩,⟨1,[.c (vi 0),.c (vi 0),.c (vi 0),.c (.val (.slice none 0 0))]⟩,⟨0,[.c (.val d.v),.c (vi j.i),.c (vi j.h)]⟩]) (fun j=>[⟨4,Ap j.xs⟩]) (fun j=>(0≤j.i∧j.i≤d.n)∧j.k≤2∧j.xs.length=j.k∧Om j.xs) (fun j=>3-j.k) (⟨0,r2.1,r2.2.1,[]⟩) (⟨hr2.1,Nat.zero_le _,rfl,fun _ h=>by cases h⟩) ⟨F3,trivial⟩ Cf ⟨F2,trivial⟩ Cj A7 (fun j hj=>?_)
   conv=>whnf
   obtain ⟨hi2,hk2,hx,hsm⟩:=hj
   refine Ai (Ah d j.i j.h 3 hi2 Aw) hH hp rfl At rfl rfl (fun s hs=>go A0 false ?_)
   conv=>whnf
   refine Es (fun hlt=>?_) fun hlt=>?_<;>conv=>whnf
   ·have hlt2:s.2.2<3:=hs.2.2.2 Aw
    refine Fk rfl ?_
    refine Aj A0 false 0 rfl rfl rfl A7 rfl (A4 B1) ?_
    refine Aj A0 false 2 rfl rfl rfl A7 rfl (A4 B1) ?_
    refine Aj A0 false 3 rfl rfl rfl A7 rfl (A4 B1) ?_
    refine Aj A0 false 4 rfl rfl rfl A7 rfl (A4 B1) ?_
    refine Aj A0 false 5 rfl rfl rfl A7 rfl (A4 B1) ?_
    refine A3 [1,6] A7 ⟨?_,?_,trivial⟩
    focus
     refine A8 ?_
     refine A5 (A3 [6] A7 ⟨A8 ?_,trivial⟩)
     refine Ai (Ah d s.1 s.2.1 2 hs.1 Aw) hH hp rfl At rfl rfl (fun r9 hr9=>go A0 false ?_)
     conv=>whnf
     refine A5 ?_
     refine Aj A0 false 7 rfl rfl rfl A7 rfl (A4 B1) ?_
     refine A3 [8] A7 ⟨A8 ?_,trivial⟩
     refine A5 (A3 [9] A7 ⟨A8 ?_,trivial⟩)
     refine Av A0 rfl rfl rfl rfl rfl rfl rfl rfl rfl rfl rfl (Ap (j.xs++[1+(j.k:Int) * 2+r9.2.2])) (Ad rfl) Bj Ab (A8 ?_)
     refine A5 ?_
     refine Aj A0 false 10 rfl rfl rfl A7 rfl (A4 B1) ?_
     refine A3 [11] A7 ⟨A8 ?_,trivial⟩
     refine A5 (Aq A7 (A8 ?_))
    rotate_left 1
    focus
     refine A8 ?_
     refine Ai (Ah d s.1 s.2.1 2 hs.1 Aw) hH hp rfl At rfl rfl (fun r9 hr9=>go A0 false ?_)
     conv=>whnf
     refine A5 ?_
     refine Aj A0 false 7 rfl rfl rfl A7 rfl (A4 B1) ?_
     refine A3 [1,8] A7 ⟨?_,?_,trivial⟩
     focus
      refine A8 ?_
      refine A5 (A3 [8] A7 ⟨A8 ?_,trivial⟩)
      refine A5 (A3 [9] A7 ⟨A8 ?_,trivial⟩)
      refine Av A0 rfl rfl rfl rfl rfl rfl rfl rfl rfl rfl rfl (Ap (j.xs++[1+(j.k:Int) * 2+r9.2.2])) (Ad rfl) Bj Ab (A8 ?_)
      refine A5 ?_
      refine Aj A0 false 10 rfl rfl rfl A7 rfl (A4 B1) ?_
      refine A3 [11] A7 ⟨A8 ?_,trivial⟩
      refine A5 (Aq A7 (A8 ?_))
     rotate_left 1
     focus
      refine A8 ?_
      refine A5 (A3 [1] A7 ⟨A8 ?_,trivial⟩)
      refine A5 (A3 [9] A7 ⟨A8 ?_,trivial⟩)
      refine Av A0 rfl rfl rfl rfl rfl rfl rfl rfl rfl rfl rfl (Ap (j.xs++[1+(j.k:Int) * 2+r9.2.2])) (Ad rfl) Bj Ab (A8 ?_)
      refine A5 ?_
      refine Aj A0 false 10 rfl rfl rfl A7 rfl (A4 B1) ?_
      refine A3 [11] A7 ⟨A8 ?_,trivial⟩
      refine A5 (Aq A7 (A8 ?_))
    all_goals
     have hn9:=hr9.2.2.2 Aw
     have hn8:=hr9.2.1
     (repeat refine Am ?_)
     refine B6 [(4,6)] (⟨j.k+1,r9.1,r9.2.1,j.xs++[1+(j.k:Int) * 2+r9.2.2]⟩) (⟨hr9.1,by show j.k+1≤2;omega,by simp [hx],M8 hsm Ab Ab⟩) (by show 3-(j.k+1)<_;omega) ⟨rfl,trivial⟩ ⟨rfl,trivial⟩ Cf A7 Cj A7
   exact Bm A0 (s.1,s.2.1,⟨1+r.2.2,([0,1,2,3,50,99].getD r2.2.2 0),0,j.xs⟩) ⟨hs.1,J2 (Dk Ab Ab) (Fl _ _ (by intro x hx;simp only [List.mem_cons,List.not_mem_nil,or_false] at hx;show _∧_;omega)) (Dk Aw Aw) hsm Ab Aw⟩ rfl rfl rfl rfl At
  repeat refine B7 ?_
  exact Bm A0 (r2.1,r2.2.1,⟨1+r.2.2,([0,1,2,3,50,99].getD r2.2.2 0),0,[]⟩) ⟨hr2.1,J2 (Dk Ab Ab) (Fl _ _ (by intro x hx;simp only [List.mem_cons,List.not_mem_nil,or_false] at hx;show _∧_;omega)) (Dk Aw Aw) (fun _ h=>by cases h) Aw Aw⟩ rfl rfl rfl rfl At
 repeat refine B7 ?_
 refine ⟨fun c8=>have c8:=bne_iff_ne.1 c8;?_,fun c8=>have c8:=bne_eq_false_iff_eq.1 c8;?_⟩<;>conv=>whnf
 ·refine A00 2 3 1 (fun i=>(fun n=>[vi n]) (([]:List Int).getD i default)) rfl rfl ?_
  refine Bv A0 false [] (fun j:JNd=>[(4,.c (vi j.k))]) (fun j=>[⟨2,[.c (vi (1+r.2.2)),.c (vi 0),.c (vi 0),.own 3]⟩,⟨1,[.c (vi 0),.c (vi 0),.c (vi 0),.c (.val (.slice none 0 0))]⟩,⟨0,[.c (.val d.v),.c (vi j.i),.c (vi j.h)]⟩]) (fun j=>[⟨3,Ap j.xs⟩]) (fun j=>(0≤j.i∧j.i≤d.n)∧j.k≤2∧j.xs.length=j.k∧Om j.xs) (fun j=>3-j.k) (⟨0,r.1,r.2.1,[]⟩) (⟨hr.1,Nat.zero_le _,rfl,fun _ h=>by cases h⟩) ⟨F3,trivial⟩ Cf ⟨F2,trivial⟩ Cj A7 (fun j hj=>?_)
  conv=>whnf
  obtain ⟨hi2,hk2,hx,hsm⟩:=hj
  refine Ai (Ah d j.i j.h 3 hi2 Aw) hH hp rfl At rfl rfl (fun s hs=>go A0 false ?_)
  conv=>whnf
  refine Es (fun hlt=>?_) fun hlt=>?_<;>conv=>whnf
  ·have hlt2:s.2.2<3:=hs.2.2.2 Aw
   refine Fk rfl ?_
   refine Aj A0 false 0 rfl rfl rfl A7 rfl (A4 B1) ?_
   refine Aj A0 false 2 rfl rfl rfl A7 rfl (A4 B1) ?_
   refine Aj A0 false 3 rfl rfl rfl A7 rfl (A4 B1) ?_
   refine Aj A0 false 4 rfl rfl rfl A7 rfl (A4 B1) ?_
   refine Aj A0 false 5 rfl rfl rfl A7 rfl (A4 B1) ?_
   refine A3 [1,6] A7 ⟨?_,?_,trivial⟩
   focus
    refine A8 ?_
    refine A5 (A3 [6] A7 ⟨A8 ?_,trivial⟩)
    refine Ai (Ah d s.1 s.2.1 2 hs.1 Aw) hH hp rfl At rfl rfl (fun r9 hr9=>go A0 false ?_)
    conv=>whnf
    refine A5 ?_
    refine Aj A0 false 7 rfl rfl rfl A7 rfl (A4 B1) ?_
    refine A3 [8] A7 ⟨A8 ?_,trivial⟩
    refine A5 (A3 [9] A7 ⟨A8 ?_,trivial⟩)
    refine Av A0 rfl rfl rfl rfl rfl rfl rfl rfl rfl rfl rfl (Ap (j.xs++[1+(j.k:Int) * 2+r9.2.2])) (Ad rfl) Bj Ab (A8 ?_)
    refine A5 ?_
    refine Aj A0 false 10 rfl rfl rfl A7 rfl (A4 B1) ?_
    refine A3 [11] A7 ⟨A8 ?_,trivial⟩
    refine A5 (Aq A7 (A8 ?_))
   rotate_left 1
   focus
    refine A8 ?_
    refine Ai (Ah d s.1 s.2.1 2 hs.1 Aw) hH hp rfl At rfl rfl (fun r9 hr9=>go A0 false ?_)
    conv=>whnf
    refine A5 ?_
    refine Aj A0 false 7 rfl rfl rfl A7 rfl (A4 B1) ?_
    refine A3 [1,8] A7 ⟨?_,?_,trivial⟩
    focus
     refine A8 ?_
     refine A5 (A3 [8] A7 ⟨A8 ?_,trivial⟩)
     refine A5 (A3 [9] A7 ⟨A8 ?_,trivial⟩)
     refine Av A0 rfl rfl rfl rfl rfl rfl rfl rfl rfl rfl rfl (Ap (j.xs++[1+(j.k:Int) * 2+r9.2.2])) (Ad rfl) Bj Ab (A8 ?_)
     refine A5 ?_
     refine Aj A0 false 10 rfl rfl rfl A7 rfl (A4 B1) ?_
     refine A3 [11] A7 ⟨A8 ?_,trivial⟩
     refine A5 (Aq A7 (A8 ?_))
    rotate_left 1
    focus
     refine A8 ?_
     refine A5 (A3 [1] A7 ⟨A8 ?_,trivial⟩)
     refine A5 (A3 [9] A7 ⟨A8 ?_,trivial⟩)
     refine Av A0 rfl rfl rfl rfl rfl rfl rfl rfl rfl rfl rfl (Ap (j.xs++[1+(j.k:Int) * 2+r9.2.2])) (Ad rfl) Bj Ab (A8 ?_)
     refine A5 ?_
     refine Aj A0 false 10 rfl rfl rfl A7 rfl (A4 B1) ?_
     refine A3 [11] A7 ⟨A8 ?_,trivial⟩
     refine A5 (Aq A7 (A8 ?_))
   all_goals
    have hn9:=hr9.2.2.2 Aw
    have hn8:=hr9.2.1
    (repeat refine Am ?_)
    refine B6 [(3,5)] (⟨j.k+1,r9.1,r9.2.1,j.xs++[1+(j.k:Int) * 2+r9.2.2]⟩) (⟨hr9.1,by show j.k+1≤2;omega,by simp [hx],M8 hsm Ab Ab⟩) (by show 3-(j.k+1)<_;omega) ⟨rfl,trivial⟩ ⟨rfl,trivial⟩ Cf A7 Cj A7
  exact Bm A0 (s.1,s.2.1,⟨1+r.2.2,0,0,j.xs⟩) ⟨hs.1,J2 (Dk Ab Ab) (Dk Aw Aw) (Dk Aw Aw) hsm Ab Aw⟩ rfl rfl rfl rfl At
 repeat refine B7 ?_
 exact Bm A0 (r.1,r.2.1,⟨1+r.2.2,0,0,[]⟩) ⟨hr.1,J2 (Dk Ab Ab) (Dk Aw Aw) (Dk Aw Aw) (fun _ h=>by cases h) Aw Aw⟩ rfl rfl rfl rfl At
theorem Jc.to {m m':Nat}{x:An}(h:Jc m x)(hm:m≤m'):Jc m' x:=⟨h.1,Nat.le_trans h.2 hm⟩
theorem B2x {m m':Nat}{x:An}{k:Int}(h:Jc m x)(hm:m≤m')(hk:Et .i64 k):Jc m' ⟨k,x.a,x.b,x.outs⟩:=⟨⟨hk,h.1.2⟩,Nat.le_trans h.2 hm⟩
theorem B2v {m m':Nat}{x:An}{k:Int}(h:Jc m x)(hm:m≤m')(hk:Et .i64 k):Jc m' ⟨x.kind,k,x.b,x.outs⟩:=⟨⟨h.1.1,hk,h.1.2.2⟩,Nat.le_trans h.2 hm⟩
theorem B2w {m m':Nat}{x:An}{k:Int}(h:Jc m x)(hm:m≤m')(hk:Et .i64 k):Jc m' ⟨x.kind,x.a,k,x.outs⟩:=⟨⟨h.1.1,h.1.2.1,hk,h.1.2.2.2⟩,Nat.le_trans h.2 hm⟩
theorem A4z {m:Nat}{x:An}{k:Int}(h:Jc m x)(hm:m≤1000)(hk:Et .i64 k):Jc (m+1) ⟨x.kind,x.a,x.b,x.outs++[k]⟩:=by
 have hl:=h.2
 refine ⟨⟨h.1.1,h.1.2.1,h.1.2.2.1,?_,fun n hn=>?_⟩,?_⟩
 ·show (x.outs++[k]).length≤maxLen
  rw [List.length_append,List.length_singleton,maxLen];omega
 ·rcases List.mem_append.1 hn with hn|hn
  ·exact h.1.2.2.2.2 n hn
  rw [List.mem_singleton.1 hn];exact hk
 show (x.outs++[k]).length≤m+1
 rw [List.length_append,List.length_singleton];omega
set_option maxHeartbeats 2000000 in
theorem Tm (d:Dy)(i h:Int)(hi:0≤i∧i≤d.n):Cr Tryz.prog HT 90 d.pins (d.cur i h) [] (fun r:Int×Int×An=>(0≤r.1∧r.1≤d.n)∧Jc 3 r.2.2) (fun r=>d.cur r.1 r.2.1) (fun r=>[.agg r.2.2.c]):=by
 refine Df A0 false Tryz.func90 rfl Aw fun B b hH hp=>?_
 conv=>whnf
 refine Ai (B15 d i h hi) hH hp rfl At rfl rfl (fun r hr=>go A0 false ?_)
 conv=>whnf
 have hl:=hr.2.2
 refine Ai (Ah d r.1 r.2.1 12 hr.1 Aw) hH hp rfl At rfl rfl (fun r2 hr2=>go A0 false ?_)
 conv=>whnf
 refine ⟨fun c0=>?_,fun c0=>?_⟩<;>conv=>whnf
 ·repeat refine B7 ?_
  refine Ai (Ah d r2.1 r2.2.1 11 hr2.1 Aw) hH hp rfl At rfl rfl (fun r3 hr3=>go A0 false ?_)
  conv=>whnf
  have h3:=hr3.2.2.2 Aw
  have h4:=hr3.2.1
  (repeat refine Am ?_)
  exact Bm A0 (r3.1,r3.2.1,⟨r3.2.2-1,r.2.2.a,r.2.2.b,r.2.2.outs⟩) ⟨hr3.1,B2x hr.2 Aw (Dk Ab Ab)⟩ rfl rfl rfl rfl At
 repeat refine B7 ?_
 refine ⟨fun c1=>?_,fun c1=>?_⟩<;>conv=>whnf
 ·repeat refine B7 ?_
  refine Em 4 (Ap [-1,0,1000,100,11]) rfl (Ba rfl Cf) ?_
  refine Ai (D4 d r2.1 r2.2.1 [-1,0,1000,100,11] hr2.1 Aw) hH hp rfl At rfl rfl (fun r3 hr3=>go A0 false ?_)
  conv=>whnf
  exact Bm A0 (r3.1,r3.2.1,⟨r.2.2.kind,[-1,0,1000,100,11].getD r3.2.2 0,r.2.2.b,r.2.2.outs⟩) ⟨hr3.1,B2v hr.2 Aw (Fl _ _ (by intro x hx;simp only [List.mem_cons,List.not_mem_nil,or_false] at hx;show _∧_;omega))⟩ rfl rfl rfl rfl At
 repeat refine B7 ?_
 refine ⟨fun c2=>?_,fun c2=>?_⟩<;>conv=>whnf
 ·repeat refine B7 ?_
  refine Em 4 (Ap [-1,1,3]) rfl (Ba rfl Cf) ?_
  refine Ai (D4 d r2.1 r2.2.1 [-1,1,3] hr2.1 Aw) hH hp rfl At rfl rfl (fun r3 hr3=>go A0 false ?_)
  conv=>whnf
  exact Bm A0 (r3.1,r3.2.1,⟨r.2.2.kind,r.2.2.a,[-1,1,3].getD r3.2.2 0,r.2.2.outs⟩) ⟨hr3.1,B2w hr.2 Aw (Fl _ _ (by intro x hx;simp only [List.mem_cons,List.not_mem_nil,or_false] at hx;show _∧_;omega))⟩ rfl rfl rfl rfl At
 repeat refine B7 ?_
 refine ⟨fun c3=>?_,fun c3=>?_⟩<;>conv=>whnf
 ·repeat refine B7 ?_
  refine Fk rfl ?_
  refine Aj A0 false 0 rfl rfl rfl A7 rfl (A4 B1) ?_
  refine Aj A0 false 2 rfl rfl rfl A7 rfl (A4 B1) ?_
  refine A3 [1,3] A7 ⟨?_,?_,trivial⟩
  focus
   refine A8 ?_
   refine A5 (A3 [3] A7 ⟨A8 ?_,trivial⟩)
   refine A5 (A3 [4] A7 ⟨A8 ?_,trivial⟩)
   refine Em 4 (Ap [1,7,8,-1]) rfl (Ba rfl Cf) ?_
   refine Ai (D4 d r2.1 r2.2.1 [1,7,8,-1] hr2.1 Aw) hH hp rfl At rfl rfl (fun r3 hr3=>go A0 false ?_)
   conv=>whnf
   refine A5 (A3 [5] A7 ⟨A8 ?_,trivial⟩)
   refine A5 (A3 [6] A7 ⟨A8 ?_,trivial⟩)
   refine Av A0 rfl rfl rfl rfl rfl rfl rfl rfl rfl rfl rfl (Ap (r.2.2.outs++[[1,7,8,-1].getD r3.2.2 0])) (Ad rfl) Bj Ab (A8 ?_)
   refine A5 ?_
   refine Aj A0 false 7 rfl rfl rfl A7 rfl (A4 B1) ?_
   refine A3 [8] A7 ⟨A8 ?_,trivial⟩
   refine A5 (Aq A7 (A8 ?_))
  rotate_left 1
  focus
   refine A8 ?_
   refine A5 ?_
   refine A3 [1,4] A7 ⟨?_,?_,trivial⟩
   focus
    refine A8 ?_
    refine A5 (A3 [4] A7 ⟨A8 ?_,trivial⟩)
    refine Em 4 (Ap [1,7,8,-1]) rfl (Ba rfl Cf) ?_
    refine Ai (D4 d r2.1 r2.2.1 [1,7,8,-1] hr2.1 Aw) hH hp rfl At rfl rfl (fun r3 hr3=>go A0 false ?_)
    conv=>whnf
    refine A5 (A3 [5] A7 ⟨A8 ?_,trivial⟩)
    refine A5 (A3 [6] A7 ⟨A8 ?_,trivial⟩)
    refine Av A0 rfl rfl rfl rfl rfl rfl rfl rfl rfl rfl rfl (Ap (r.2.2.outs++[[1,7,8,-1].getD r3.2.2 0])) (Ad rfl) Bj Ab (A8 ?_)
    refine A5 ?_
    refine Aj A0 false 7 rfl rfl rfl A7 rfl (A4 B1) ?_
    refine A3 [8] A7 ⟨A8 ?_,trivial⟩
    refine A5 (Aq A7 (A8 ?_))
   rotate_left 1
   focus
    refine A8 ?_
    refine Em 4 (Ap [1,7,8,-1]) rfl (Ba rfl Cf) ?_
    refine Ai (D4 d r2.1 r2.2.1 [1,7,8,-1] hr2.1 Aw) hH hp rfl At rfl rfl (fun r3 hr3=>go A0 false ?_)
    conv=>whnf
    refine A5 ?_
    refine A3 [1,5] A7 ⟨?_,?_,trivial⟩
    focus
     refine A8 ?_
     refine A5 (A3 [5] A7 ⟨A8 ?_,trivial⟩)
     refine A5 (A3 [6] A7 ⟨A8 ?_,trivial⟩)
     refine Av A0 rfl rfl rfl rfl rfl rfl rfl rfl rfl rfl rfl (Ap (r.2.2.outs++[[1,7,8,-1].getD r3.2.2 0])) (Ad rfl) Bj Ab (A8 ?_)
     refine A5 ?_
     refine Aj A0 false 7 rfl rfl rfl A7 rfl (A4 B1) ?_
     refine A3 [8] A7 ⟨A8 ?_,trivial⟩
     refine A5 (Aq A7 (A8 ?_))
    rotate_left 1
    focus
     refine A8 ?_
     refine A5 (A3 [1] A7 ⟨A8 ?_,trivial⟩)
     refine A5 (A3 [6] A7 ⟨A8 ?_,trivial⟩)
     refine Av A0 rfl rfl rfl rfl rfl rfl rfl rfl rfl rfl rfl (Ap (r.2.2.outs++[[1,7,8,-1].getD r3.2.2 0])) (Ad rfl) Bj Ab (A8 ?_)
     refine A5 ?_
     refine Aj A0 false 7 rfl rfl rfl A7 rfl (A4 B1) ?_
     refine A3 [8] A7 ⟨A8 ?_,trivial⟩
     refine A5 (Aq A7 (A8 ?_))
  all_goals exact Bm A0 (r3.1,r3.2.1,⟨r.2.2.kind,r.2.2.a,r.2.2.b,r.2.2.outs++[[1,7,8,-1].getD r3.2.2 0]⟩) ⟨hr3.1,A4z hr.2 Aw (Fl _ _ (by intro x hx;simp only [List.mem_cons,List.not_mem_nil,or_false] at hx;show _∧_;omega))⟩ rfl rfl rfl rfl At
 repeat refine B7 ?_
 exact Bm A0 (r2.1,r2.2.1,r.2.2) ⟨hr2.1,hr.2.to Aw⟩ rfl rfl rfl rfl At
end Go.Proofs.YtdendlkeiaccpaaGreat
