/- Part 31 of the proof that each of the laws FnStalls returns true for every input. No conditions. -/
import Derived.Test.YtonodkjaoalfjaaGreatP20

set_option linter.unusedSimpArgs false
set_option linter.unusedVariables false
set_option maxRecDepth 100000
namespace Go.Proofs.YtonodkjaoalfjaaGreat
open Go.Sx
def B84 (m:Nat) (x:Cb):Prop:=x.ok∧x.outs.length≤m
def C1j (xs:List Int):Prop:=∀n∈xs,-1≤n∧n≤100
theorem B7r {k a b:Int}{xs:List Int}{m:Nat}(hk:K9 .i64 k)(ha:K9 .i64 a)(hb:K9 .i64 b)(hs:C1j xs)(hl:xs.length≤m)(hm:m≤100):B84 m ⟨k,a,b,xs⟩:=
 ⟨⟨hk,ha,hb,by show xs.length≤maxLen;unfold maxLen;omega,fun n hn=>by have:=hs n hn;exact A5q Ac Ac⟩,hl⟩
theorem C0z {xs:List Int}{n:Int}(h:C1j xs)(h0: -1≤n)(h1:n≤100):C1j (xs++[n]):=fun x hx=>by
 rcases List.mem_append.1 hx with hx|hx
 ·exact h x hx
 ·rw [List.mem_singleton.1 hx];exact ⟨h0,h1⟩
structure JNd where
 k:Nat
 i:Int
 h:Int
 xs:List Int
set_option maxHeartbeats 2000000 in
theorem C5c (d:I9)(i h:Int)(hi:0≤i∧i≤d.n):Iv Tryz.prog HT 189 d.pins (d.cur i h) [] (fun r:Int×Int×Cb=>(0≤r.1∧r.1≤d.n)∧B84 2 r.2.2) (fun r=>d.cur r.1 r.2.1) (fun r=>[.agg r.2.2.c]):=by
 refine Ol A0 false Tryz.func189 rfl Bu fun B b hH hp=>?_
 conv=>whnf
 refine Fg (E5 d i h 8 hi Bu) hH hp rfl Ca rfl rfl (fun r hr=>go A0 false ?_)
 conv=>whnf
 have hk:=hr.2.2.2 Bu
 have hk0:=hr.2.1
 (repeat refine Ar ?_)
 refine ⟨fun c2=>have c2:=eq_of_beq c2;?_,fun c2=>have c2:=beq_eq_false_iff_ne.1 c2;?_⟩<;>conv=>whnf
 ·refine O2 3 (F1 [0,1,3,10,999]) rfl (Db rfl F3) ?_
  refine Fg (A57 d r.1 r.2.1 [0,1,3,10,999] hr.1 Bu) hH hp rfl Ca rfl rfl (fun r2 hr2=>go A0 false ?_)
  conv=>whnf
  refine ⟨fun c8=>have c8:=bne_iff_ne.1 c8;?_,fun c8=>have c8:=bne_eq_false_iff_eq.1 c8;?_⟩<;>conv=>whnf
  ·refine B4g 2 3 1 (fun i=>(fun n=>[vi n]) (([]:List Int).getD i default)) rfl rfl ?_
   refine Bw A0 false [] (fun j:JNd=>[(4,.c (vi j.k))]) (fun j=>[⟨2,[.c (vi (1+r.2.2)),.c (vi ([0,1,3,10,999].getD r2.2.2 0)),.c (vi 0),.own 4]⟩,⟨1,[.c (vi 0),.c (vi 0),.c (vi 0),.c (.val (.slice none 0 0))]⟩,⟨0,[.c (.val d.v),.c (vi j.i),.c (vi j.h)]⟩]) (fun j=>[⟨4,F1 j.xs⟩]) (fun j=>(0≤j.i∧j.i≤d.n)∧j.k≤2∧j.xs.length=j.k∧C1j j.xs) (fun j=>3-j.k) (⟨0,r2.1,r2.2.1,[]⟩) (⟨hr2.1,Nat.zero_le _,rfl,fun _ h=>by cases h⟩) ⟨by first|rfl|simp [Dl,ren2,ren1,ren0],trivial⟩ F3 ⟨by first|rfl|exact (congrArg (fun l=>Du _ _ l) (List.append_nil _)).symm|(show (_:A8)=_;simp)|simp,trivial⟩ Dh Aa (fun j hj=>?_)
   conv=>whnf
   obtain ⟨hi2,hk2,hx,hsm⟩:=hj
   refine Fg (E5 d j.i j.h 3 hi2 Bu) hH hp rfl Ca rfl rfl (fun s hs=>go A0 false ?_)
   conv=>whnf
   refine G5 (fun hlt=>?_) fun hlt=>?_<;>conv=>whnf
   ·have hlt2:s.2.2<3:=hs.2.2.2 Bu
    refine A8a rfl ?_
    refine M7 A0 false 0 rfl rfl rfl Aa rfl (Af D0) ?_
    refine M7 A0 false 2 rfl rfl rfl Aa rfl (Af D0) ?_
    refine M7 A0 false 3 rfl rfl rfl Aa rfl (Af D0) ?_
    refine M7 A0 false 4 rfl rfl rfl Aa rfl (Af D0) ?_
    refine M7 A0 false 5 rfl rfl rfl Aa rfl (Af D0) ?_
    refine Aj [1,6] Aa ⟨?_,?_,trivial⟩
    focus
     refine go A0 false ?_
     conv=>whnf
     refine Ak ?_
     refine Aj [6] Aa ⟨?_,trivial⟩
     refine go A0 false ?_
     conv=>whnf
     refine Fg (E5 d s.1 s.2.1 2 hs.1 Bu) hH hp rfl Ca rfl rfl (fun r9 hr9=>go A0 false ?_)
     conv=>whnf
     refine Ak ?_
     refine M7 A0 false 7 rfl rfl rfl Aa rfl (Af D0) ?_
     refine Aj [8] Aa ⟨?_,trivial⟩
     refine go A0 false ?_
     conv=>whnf
     refine Ak ?_
     refine Aj [9] Aa ⟨?_,trivial⟩
     refine go A0 false ?_
     conv=>whnf
     refine Dp A0 rfl rfl rfl rfl rfl rfl rfl rfl rfl rfl rfl (F1 (j.xs++[1+(j.k:Int) * 2+r9.2.2])) (Bf rfl) M1 Ac (Al ?_)
     refine Ak ?_
     refine M7 A0 false 10 rfl rfl rfl Aa rfl (Af D0) ?_
     refine Aj [11] Aa ⟨?_,trivial⟩
     refine go A0 false ?_
     conv=>whnf
     refine Ak ?_
     refine Ed Aa (Al ?_)
    rotate_left 1
    focus
     refine go A0 false ?_
     conv=>whnf
     refine Fg (E5 d s.1 s.2.1 2 hs.1 Bu) hH hp rfl Ca rfl rfl (fun r9 hr9=>go A0 false ?_)
     conv=>whnf
     refine Ak ?_
     refine M7 A0 false 7 rfl rfl rfl Aa rfl (Af D0) ?_
     refine Aj [1,8] Aa ⟨?_,?_,trivial⟩
     focus
      refine go A0 false ?_
      conv=>whnf
      refine Ak ?_
      refine Aj [8] Aa ⟨?_,trivial⟩
      refine go A0 false ?_
      conv=>whnf
      refine Ak ?_
      refine Aj [9] Aa ⟨?_,trivial⟩
      refine go A0 false ?_
      conv=>whnf
      refine Dp A0 rfl rfl rfl rfl rfl rfl rfl rfl rfl rfl rfl (F1 (j.xs++[1+(j.k:Int) * 2+r9.2.2])) (Bf rfl) M1 Ac (Al ?_)
      refine Ak ?_
      refine M7 A0 false 10 rfl rfl rfl Aa rfl (Af D0) ?_
      refine Aj [11] Aa ⟨?_,trivial⟩
      refine go A0 false ?_
      conv=>whnf
      refine Ak ?_
      refine Ed Aa (Al ?_)
     rotate_left 1
     focus
      refine go A0 false ?_
      conv=>whnf
      refine Ak ?_
      refine Aj [1] Aa ⟨?_,trivial⟩
      refine go A0 false ?_
      conv=>whnf
      refine Ak ?_
      refine Aj [9] Aa ⟨?_,trivial⟩
      refine go A0 false ?_
      conv=>whnf
      refine Dp A0 rfl rfl rfl rfl rfl rfl rfl rfl rfl rfl rfl (F1 (j.xs++[1+(j.k:Int) * 2+r9.2.2])) (Bf rfl) M1 Ac (Al ?_)
      refine Ak ?_
      refine M7 A0 false 10 rfl rfl rfl Aa rfl (Af D0) ?_
      refine Aj [11] Aa ⟨?_,trivial⟩
      refine go A0 false ?_
      conv=>whnf
      refine Ak ?_
      refine Ed Aa (Al ?_)
    all_goals
     have hn9:=hr9.2.2.2 Bu
     have hn8:=hr9.2.1
     (repeat refine Ar ?_)
     refine B5 [(4,6)] (⟨j.k+1,r9.1,r9.2.1,j.xs++[1+(j.k:Int) * 2+r9.2.2]⟩) (⟨hr9.1,by show j.k+1≤2;omega,by simp [hx],C0z hsm Ac Ac⟩) (by show 3-(j.k+1)<_;omega) ⟨rfl,trivial⟩ ⟨rfl,trivial⟩ F3 Aa Dh Aa
   ·exact Kk A0 (s.1,s.2.1,⟨1+r.2.2,([0,1,3,10,999].getD r2.2.2 0),0,j.xs⟩) ⟨hs.1,B7r (A5q Ac Ac) (B5r _ _ (by intro x hx;simp only [List.mem_cons,List.not_mem_nil,or_false] at hx;show _∧_;omega)) (A5q Bu Bu) hsm Ac Bu⟩ rfl rfl rfl rfl Ca
  ·repeat refine Bi ?_
   exact Kk A0 (r2.1,r2.2.1,⟨1+r.2.2,([0,1,3,10,999].getD r2.2.2 0),0,[]⟩) ⟨hr2.1,B7r (A5q Ac Ac) (B5r _ _ (by intro x hx;simp only [List.mem_cons,List.not_mem_nil,or_false] at hx;show _∧_;omega)) (A5q Bu Bu) (fun _ h=>by cases h) Bu Bu⟩ rfl rfl rfl rfl Ca
 ·repeat refine Bi ?_
  refine ⟨fun c3=>have c3:=eq_of_beq c3;?_,fun c3=>have c3:=beq_eq_false_iff_ne.1 c3;?_⟩<;>conv=>whnf
  ·repeat refine Bi ?_
   refine Fg (E5 d r.1 r.2.1 4 hr.1 Bu) hH hp rfl Ca rfl rfl (fun r2 hr2=>go A0 false ?_)
   conv=>whnf
   have hk2:=hr2.2.2.2 Bu
   have hk3:=hr2.2.1
   (repeat refine Ar ?_)
   refine Fg (E5 d r2.1 r2.2.1 (1+r2.2.2) hr2.1 Ac) hH hp rfl Ca rfl rfl (fun r3 hr3=>go A0 false ?_)
   conv=>whnf
   have hk4:=hr3.2.2.2 Ac
   have hk5:=hr3.2.1
   refine ⟨fun c8=>have c8:=bne_iff_ne.1 c8;?_,fun c8=>have c8:=bne_eq_false_iff_eq.1 c8;?_⟩<;>conv=>whnf
   ·refine B4g 2 3 1 (fun i=>(fun n=>[vi n]) (([]:List Int).getD i default)) rfl rfl ?_
    refine Bw A0 false [] (fun j:JNd=>[(4,.c (vi j.k))]) (fun j=>[⟨2,[.c (vi (1+r.2.2)),.c (vi (1+r2.2.2)),.c (vi r3.2.2),.own 3]⟩,⟨1,[.c (vi 0),.c (vi 0),.c (vi 0),.c (.val (.slice none 0 0))]⟩,⟨0,[.c (.val d.v),.c (vi j.i),.c (vi j.h)]⟩]) (fun j=>[⟨3,F1 j.xs⟩]) (fun j=>(0≤j.i∧j.i≤d.n)∧j.k≤2∧j.xs.length=j.k∧C1j j.xs) (fun j=>3-j.k) (⟨0,r3.1,r3.2.1,[]⟩) (⟨hr3.1,Nat.zero_le _,rfl,fun _ h=>by cases h⟩) ⟨by first|rfl|simp [Dl,ren2,ren1,ren0],trivial⟩ F3 ⟨by first|rfl|exact (congrArg (fun l=>Du _ _ l) (List.append_nil _)).symm|(show (_:A8)=_;simp)|simp,trivial⟩ Dh Aa (fun j hj=>?_)
    conv=>whnf
    obtain ⟨hi2,hk2,hx,hsm⟩:=hj
    refine Fg (E5 d j.i j.h 3 hi2 Bu) hH hp rfl Ca rfl rfl (fun s hs=>go A0 false ?_)
    conv=>whnf
    refine G5 (fun hlt=>?_) fun hlt=>?_<;>conv=>whnf
    ·have hlt2:s.2.2<3:=hs.2.2.2 Bu
     refine A8a rfl ?_
     refine M7 A0 false 0 rfl rfl rfl Aa rfl (Af D0) ?_
     refine M7 A0 false 2 rfl rfl rfl Aa rfl (Af D0) ?_
     refine M7 A0 false 3 rfl rfl rfl Aa rfl (Af D0) ?_
     refine M7 A0 false 4 rfl rfl rfl Aa rfl (Af D0) ?_
     refine M7 A0 false 5 rfl rfl rfl Aa rfl (Af D0) ?_
     refine Aj [1,6] Aa ⟨?_,?_,trivial⟩
     focus
      refine go A0 false ?_
      conv=>whnf
      refine Ak ?_
      refine Aj [6] Aa ⟨?_,trivial⟩
      refine go A0 false ?_
      conv=>whnf
      refine Fg (E5 d s.1 s.2.1 2 hs.1 Bu) hH hp rfl Ca rfl rfl (fun r9 hr9=>go A0 false ?_)
      conv=>whnf
      refine Ak ?_
      refine M7 A0 false 7 rfl rfl rfl Aa rfl (Af D0) ?_
      refine Aj [8] Aa ⟨?_,trivial⟩
      refine go A0 false ?_
      conv=>whnf
      refine Ak ?_
      refine Aj [9] Aa ⟨?_,trivial⟩
      refine go A0 false ?_
      conv=>whnf
      refine Dp A0 rfl rfl rfl rfl rfl rfl rfl rfl rfl rfl rfl (F1 (j.xs++[1+(j.k:Int) * 2+r9.2.2])) (Bf rfl) M1 Ac (Al ?_)
      refine Ak ?_
      refine M7 A0 false 10 rfl rfl rfl Aa rfl (Af D0) ?_
      refine Aj [11] Aa ⟨?_,trivial⟩
      refine go A0 false ?_
      conv=>whnf
      refine Ak ?_
      refine Ed Aa (Al ?_)
     rotate_left 1
     focus
      refine go A0 false ?_
      conv=>whnf
      refine Fg (E5 d s.1 s.2.1 2 hs.1 Bu) hH hp rfl Ca rfl rfl (fun r9 hr9=>go A0 false ?_)
      conv=>whnf
      refine Ak ?_
      refine M7 A0 false 7 rfl rfl rfl Aa rfl (Af D0) ?_
      refine Aj [1,8] Aa ⟨?_,?_,trivial⟩
      focus
       refine go A0 false ?_
       conv=>whnf
       refine Ak ?_
       refine Aj [8] Aa ⟨?_,trivial⟩
       refine go A0 false ?_
       conv=>whnf
       refine Ak ?_
       refine Aj [9] Aa ⟨?_,trivial⟩
       refine go A0 false ?_
       conv=>whnf
       refine Dp A0 rfl rfl rfl rfl rfl rfl rfl rfl rfl rfl rfl (F1 (j.xs++[1+(j.k:Int) * 2+r9.2.2])) (Bf rfl) M1 Ac (Al ?_)
       refine Ak ?_
       refine M7 A0 false 10 rfl rfl rfl Aa rfl (Af D0) ?_
       refine Aj [11] Aa ⟨?_,trivial⟩
       refine go A0 false ?_
       conv=>whnf
       refine Ak ?_
       refine Ed Aa (Al ?_)
      rotate_left 1
      focus
       refine go A0 false ?_
       conv=>whnf
       refine Ak ?_
       refine Aj [1] Aa ⟨?_,trivial⟩
       refine go A0 false ?_
       conv=>whnf
       refine Ak ?_
       refine Aj [9] Aa ⟨?_,trivial⟩
       refine go A0 false ?_
       conv=>whnf
       refine Dp A0 rfl rfl rfl rfl rfl rfl rfl rfl rfl rfl rfl (F1 (j.xs++[1+(j.k:Int) * 2+r9.2.2])) (Bf rfl) M1 Ac (Al ?_)
       refine Ak ?_
       refine M7 A0 false 10 rfl rfl rfl Aa rfl (Af D0) ?_
       refine Aj [11] Aa ⟨?_,trivial⟩
       refine go A0 false ?_
       conv=>whnf
       refine Ak ?_
       refine Ed Aa (Al ?_)
     all_goals
      have hn9:=hr9.2.2.2 Bu
      have hn8:=hr9.2.1
      (repeat refine Ar ?_)
      refine B5 [(3,5)] (⟨j.k+1,r9.1,r9.2.1,j.xs++[1+(j.k:Int) * 2+r9.2.2]⟩) (⟨hr9.1,by show j.k+1≤2;omega,by simp [hx],C0z hsm Ac Ac⟩) (by show 3-(j.k+1)<_;omega) ⟨rfl,trivial⟩ ⟨rfl,trivial⟩ F3 Aa Dh Aa
    ·exact Kk A0 (s.1,s.2.1,⟨1+r.2.2,(1+r2.2.2),r3.2.2,j.xs⟩) ⟨hs.1,B7r (A5q Ac Ac) (A5q Ac Ac) (A5q Ac Ac) hsm Ac Bu⟩ rfl rfl rfl rfl Ca
   ·repeat refine Bi ?_
    exact Kk A0 (r3.1,r3.2.1,⟨1+r.2.2,(1+r2.2.2),r3.2.2,[]⟩) ⟨hr3.1,B7r (A5q Ac Ac) (A5q Ac Ac) (A5q Ac Ac) (fun _ h=>by cases h) Bu Bu⟩ rfl rfl rfl rfl Ca
  ·repeat refine Bi ?_
   refine ⟨fun c4=>have c4:=eq_of_beq c4;?_,fun c4=>have c4:=beq_eq_false_iff_ne.1 c4;?_⟩<;>conv=>whnf
   ·repeat refine Bi ?_
    refine O2 3 (F1 [0,1,2,3,50,99]) rfl (Db rfl F3) ?_
    refine Fg (A57 d r.1 r.2.1 [0,1,2,3,50,99] hr.1 Bu) hH hp rfl Ca rfl rfl (fun r2 hr2=>go A0 false ?_)
    conv=>whnf
    refine ⟨fun c8=>have c8:=bne_iff_ne.1 c8;?_,fun c8=>have c8:=bne_eq_false_iff_eq.1 c8;?_⟩<;>conv=>whnf
    ·refine B4g 2 3 1 (fun i=>(fun n=>[vi n]) (([]:List Int).getD i default)) rfl rfl ?_
     refine Bw A0 false [] (fun j:JNd=>[(4,.c (vi j.k))]) (fun j=>[⟨2,[.c (vi (1+r.2.2)),.c (vi ([0,1,2,3,50,99].getD r2.2.2 0)),.c (vi 0),.own 4]⟩,⟨1,[.c (vi 0),.c (vi 0),.c (vi 0),.c (.val (.slice none 0 0))]⟩,⟨0,[.c (.val d.v),.c (vi j.i),.c (vi j.h)]⟩]) (fun j=>[⟨4,F1 j.xs⟩]) (fun j=>(0≤j.i∧j.i≤d.n)∧j.k≤2∧j.xs.length=j.k∧C1j j.xs) (fun j=>3-j.k) (⟨0,r2.1,r2.2.1,[]⟩) (⟨hr2.1,Nat.zero_le _,rfl,fun _ h=>by cases h⟩) ⟨by first|rfl|simp [Dl,ren2,ren1,ren0],trivial⟩ F3 ⟨by first|rfl|exact (congrArg (fun l=>Du _ _ l) (List.append_nil _)).symm|(show (_:A8)=_;simp)|simp,trivial⟩ Dh Aa (fun j hj=>?_)
     conv=>whnf
     obtain ⟨hi2,hk2,hx,hsm⟩:=hj
     refine Fg (E5 d j.i j.h 3 hi2 Bu) hH hp rfl Ca rfl rfl (fun s hs=>go A0 false ?_)
     conv=>whnf
     refine G5 (fun hlt=>?_) fun hlt=>?_<;>conv=>whnf
     ·have hlt2:s.2.2<3:=hs.2.2.2 Bu
      refine A8a rfl ?_
      refine M7 A0 false 0 rfl rfl rfl Aa rfl (Af D0) ?_
      refine M7 A0 false 2 rfl rfl rfl Aa rfl (Af D0) ?_
      refine M7 A0 false 3 rfl rfl rfl Aa rfl (Af D0) ?_
      refine M7 A0 false 4 rfl rfl rfl Aa rfl (Af D0) ?_
      refine M7 A0 false 5 rfl rfl rfl Aa rfl (Af D0) ?_
      refine Aj [1,6] Aa ⟨?_,?_,trivial⟩
      focus
       refine go A0 false ?_
       conv=>whnf
       refine Ak ?_
       refine Aj [6] Aa ⟨?_,trivial⟩
       refine go A0 false ?_
       conv=>whnf
       refine Fg (E5 d s.1 s.2.1 2 hs.1 Bu) hH hp rfl Ca rfl rfl (fun r9 hr9=>go A0 false ?_)
       conv=>whnf
       refine Ak ?_
       refine M7 A0 false 7 rfl rfl rfl Aa rfl (Af D0) ?_
       refine Aj [8] Aa ⟨?_,trivial⟩
       refine go A0 false ?_
       conv=>whnf
       refine Ak ?_
       refine Aj [9] Aa ⟨?_,trivial⟩
       refine go A0 false ?_
       conv=>whnf
       refine Dp A0 rfl rfl rfl rfl rfl rfl rfl rfl rfl rfl rfl (F1 (j.xs++[1+(j.k:Int) * 2+r9.2.2])) (Bf rfl) M1 Ac (Al ?_)
       refine Ak ?_
       refine M7 A0 false 10 rfl rfl rfl Aa rfl (Af D0) ?_
       refine Aj [11] Aa ⟨?_,trivial⟩
       refine go A0 false ?_
       conv=>whnf
       refine Ak ?_
       refine Ed Aa (Al ?_)
      rotate_left 1
      focus
       refine go A0 false ?_
       conv=>whnf
       refine Fg (E5 d s.1 s.2.1 2 hs.1 Bu) hH hp rfl Ca rfl rfl (fun r9 hr9=>go A0 false ?_)
       conv=>whnf
       refine Ak ?_
       refine M7 A0 false 7 rfl rfl rfl Aa rfl (Af D0) ?_
       refine Aj [1,8] Aa ⟨?_,?_,trivial⟩
       focus
        refine go A0 false ?_
        conv=>whnf
        refine Ak ?_
        refine Aj [8] Aa ⟨?_,trivial⟩
        refine go A0 false ?_
        conv=>whnf
        refine Ak ?_
        refine Aj [9] Aa ⟨?_,trivial⟩
        refine go A0 false ?_
        conv=>whnf
        refine Dp A0 rfl rfl rfl rfl rfl rfl rfl rfl rfl rfl rfl (F1 (j.xs++[1+(j.k:Int) * 2+r9.2.2])) (Bf rfl) M1 Ac (Al ?_)
        refine Ak ?_
        refine M7 A0 false 10 rfl rfl rfl Aa rfl (Af D0) ?_
        refine Aj [11] Aa ⟨?_,trivial⟩
        refine go A0 false ?_
        conv=>whnf
        refine Ak ?_
        refine Ed Aa (Al ?_)
       rotate_left 1
       focus
        refine go A0 false ?_
        conv=>whnf
        refine Ak ?_
        refine Aj [1] Aa ⟨?_,trivial⟩
        refine go A0 false ?_
        conv=>whnf
        refine Ak ?_
        refine Aj [9] Aa ⟨?_,trivial⟩
        refine go A0 false ?_
        conv=>whnf
        refine Dp A0 rfl rfl rfl rfl rfl rfl rfl rfl rfl rfl rfl (F1 (j.xs++[1+(j.k:Int) * 2+r9.2.2])) (Bf rfl) M1 Ac (Al ?_)
        refine Ak ?_
        refine M7 A0 false 10 rfl rfl rfl Aa rfl (Af D0) ?_
        refine Aj [11] Aa ⟨?_,trivial⟩
        refine go A0 false ?_
        conv=>whnf
        refine Ak ?_
        refine Ed Aa (Al ?_)
      all_goals
       have hn9:=hr9.2.2.2 Bu
       have hn8:=hr9.2.1
       (repeat refine Ar ?_)
       refine B5 [(4,6)] (⟨j.k+1,r9.1,r9.2.1,j.xs++[1+(j.k:Int) * 2+r9.2.2]⟩) (⟨hr9.1,by show j.k+1≤2;omega,by simp [hx],C0z hsm Ac Ac⟩) (by show 3-(j.k+1)<_;omega) ⟨rfl,trivial⟩ ⟨rfl,trivial⟩ F3 Aa Dh Aa
     ·exact Kk A0 (s.1,s.2.1,⟨1+r.2.2,([0,1,2,3,50,99].getD r2.2.2 0),0,j.xs⟩) ⟨hs.1,B7r (A5q Ac Ac) (B5r _ _ (by intro x hx;simp only [List.mem_cons,List.not_mem_nil,or_false] at hx;show _∧_;omega)) (A5q Bu Bu) hsm Ac Bu⟩ rfl rfl rfl rfl Ca
    ·repeat refine Bi ?_
     exact Kk A0 (r2.1,r2.2.1,⟨1+r.2.2,([0,1,2,3,50,99].getD r2.2.2 0),0,[]⟩) ⟨hr2.1,B7r (A5q Ac Ac) (B5r _ _ (by intro x hx;simp only [List.mem_cons,List.not_mem_nil,or_false] at hx;show _∧_;omega)) (A5q Bu Bu) (fun _ h=>by cases h) Bu Bu⟩ rfl rfl rfl rfl Ca
   ·repeat refine Bi ?_
    refine ⟨fun c8=>have c8:=bne_iff_ne.1 c8;?_,fun c8=>have c8:=bne_eq_false_iff_eq.1 c8;?_⟩<;>conv=>whnf
    ·refine B4g 2 3 1 (fun i=>(fun n=>[vi n]) (([]:List Int).getD i default)) rfl rfl ?_
     refine Bw A0 false [] (fun j:JNd=>[(4,.c (vi j.k))]) (fun j=>[⟨2,[.c (vi (1+r.2.2)),.c (vi 0),.c (vi 0),.own 3]⟩,⟨1,[.c (vi 0),.c (vi 0),.c (vi 0),.c (.val (.slice none 0 0))]⟩,⟨0,[.c (.val d.v),.c (vi j.i),.c (vi j.h)]⟩]) (fun j=>[⟨3,F1 j.xs⟩]) (fun j=>(0≤j.i∧j.i≤d.n)∧j.k≤2∧j.xs.length=j.k∧C1j j.xs) (fun j=>3-j.k) (⟨0,r.1,r.2.1,[]⟩) (⟨hr.1,Nat.zero_le _,rfl,fun _ h=>by cases h⟩) ⟨by first|rfl|simp [Dl,ren2,ren1,ren0],trivial⟩ F3 ⟨by first|rfl|exact (congrArg (fun l=>Du _ _ l) (List.append_nil _)).symm|(show (_:A8)=_;simp)|simp,trivial⟩ Dh Aa (fun j hj=>?_)
     conv=>whnf
     obtain ⟨hi2,hk2,hx,hsm⟩:=hj
     refine Fg (E5 d j.i j.h 3 hi2 Bu) hH hp rfl Ca rfl rfl (fun s hs=>go A0 false ?_)
     conv=>whnf
     refine G5 (fun hlt=>?_) fun hlt=>?_<;>conv=>whnf
     ·have hlt2:s.2.2<3:=hs.2.2.2 Bu
      refine A8a rfl ?_
      refine M7 A0 false 0 rfl rfl rfl Aa rfl (Af D0) ?_
      refine M7 A0 false 2 rfl rfl rfl Aa rfl (Af D0) ?_
      refine M7 A0 false 3 rfl rfl rfl Aa rfl (Af D0) ?_
      refine M7 A0 false 4 rfl rfl rfl Aa rfl (Af D0) ?_
      refine M7 A0 false 5 rfl rfl rfl Aa rfl (Af D0) ?_
      refine Aj [1,6] Aa ⟨?_,?_,trivial⟩
      focus
       refine go A0 false ?_
       conv=>whnf
       refine Ak ?_
       refine Aj [6] Aa ⟨?_,trivial⟩
       refine go A0 false ?_
       conv=>whnf
       refine Fg (E5 d s.1 s.2.1 2 hs.1 Bu) hH hp rfl Ca rfl rfl (fun r9 hr9=>go A0 false ?_)
       conv=>whnf
       refine Ak ?_
       refine M7 A0 false 7 rfl rfl rfl Aa rfl (Af D0) ?_
       refine Aj [8] Aa ⟨?_,trivial⟩
       refine go A0 false ?_
       conv=>whnf
       refine Ak ?_
       refine Aj [9] Aa ⟨?_,trivial⟩
       refine go A0 false ?_
       conv=>whnf
       refine Dp A0 rfl rfl rfl rfl rfl rfl rfl rfl rfl rfl rfl (F1 (j.xs++[1+(j.k:Int) * 2+r9.2.2])) (Bf rfl) M1 Ac (Al ?_)
       refine Ak ?_
       refine M7 A0 false 10 rfl rfl rfl Aa rfl (Af D0) ?_
       refine Aj [11] Aa ⟨?_,trivial⟩
       refine go A0 false ?_
       conv=>whnf
       refine Ak ?_
       refine Ed Aa (Al ?_)
      rotate_left 1
      focus
       refine go A0 false ?_
       conv=>whnf
       refine Fg (E5 d s.1 s.2.1 2 hs.1 Bu) hH hp rfl Ca rfl rfl (fun r9 hr9=>go A0 false ?_)
       conv=>whnf
       refine Ak ?_
       refine M7 A0 false 7 rfl rfl rfl Aa rfl (Af D0) ?_
       refine Aj [1,8] Aa ⟨?_,?_,trivial⟩
       focus
        refine go A0 false ?_
        conv=>whnf
        refine Ak ?_
        refine Aj [8] Aa ⟨?_,trivial⟩
        refine go A0 false ?_
        conv=>whnf
        refine Ak ?_
        refine Aj [9] Aa ⟨?_,trivial⟩
        refine go A0 false ?_
        conv=>whnf
        refine Dp A0 rfl rfl rfl rfl rfl rfl rfl rfl rfl rfl rfl (F1 (j.xs++[1+(j.k:Int) * 2+r9.2.2])) (Bf rfl) M1 Ac (Al ?_)
        refine Ak ?_
        refine M7 A0 false 10 rfl rfl rfl Aa rfl (Af D0) ?_
        refine Aj [11] Aa ⟨?_,trivial⟩
        refine go A0 false ?_
        conv=>whnf
        refine Ak ?_
        refine Ed Aa (Al ?_)
       rotate_left 1
       focus
        refine go A0 false ?_
        conv=>whnf
        refine Ak ?_
        refine Aj [1] Aa ⟨?_,trivial⟩
        refine go A0 false ?_
        conv=>whnf
        refine Ak ?_
        refine Aj [9] Aa ⟨?_,trivial⟩
        refine go A0 false ?_
        conv=>whnf
        refine Dp A0 rfl rfl rfl rfl rfl rfl rfl rfl rfl rfl rfl (F1 (j.xs++[1+(j.k:Int) * 2+r9.2.2])) (Bf rfl) M1 Ac (Al ?_)
        refine Ak ?_
        refine M7 A0 false 10 rfl rfl rfl Aa rfl (Af D0) ?_
        refine Aj [11] Aa ⟨?_,trivial⟩
        refine go A0 false ?_
        conv=>whnf
        refine Ak ?_
        refine Ed Aa (Al ?_)
      all_goals
       have hn9:=hr9.2.2.2 Bu
       have hn8:=hr9.2.1
       (repeat refine Ar ?_)
       refine B5 [(3,5)] (⟨j.k+1,r9.1,r9.2.1,j.xs++[1+(j.k:Int) * 2+r9.2.2]⟩) (⟨hr9.1,by show j.k+1≤2;omega,by simp [hx],C0z hsm Ac Ac⟩) (by show 3-(j.k+1)<_;omega) ⟨rfl,trivial⟩ ⟨rfl,trivial⟩ F3 Aa Dh Aa
     ·exact Kk A0 (s.1,s.2.1,⟨1+r.2.2,0,0,j.xs⟩) ⟨hs.1,B7r (A5q Ac Ac) (A5q Bu Bu) (A5q Bu Bu) hsm Ac Bu⟩ rfl rfl rfl rfl Ca
    ·repeat refine Bi ?_
     exact Kk A0 (r.1,r.2.1,⟨1+r.2.2,0,0,[]⟩) ⟨hr.1,B7r (A5q Ac Ac) (A5q Bu Bu) (A5q Bu Bu) (fun _ h=>by cases h) Bu Bu⟩ rfl rfl rfl rfl Ca
theorem B84.to {m m':Nat}{x:Cb}(h:B84 m x)(hm:m≤m'):B84 m' x:=⟨h.1,Nat.le_trans h.2 hm⟩
theorem C5k {m m':Nat}{x:Cb}{k:Int}(h:B84 m x)(hm:m≤m')(hk:K9 .i64 k):B84 m' ⟨k,x.a,x.b,x.outs⟩:=⟨⟨hk,h.1.2⟩,Nat.le_trans h.2 hm⟩
theorem C5i {m m':Nat}{x:Cb}{k:Int}(h:B84 m x)(hm:m≤m')(hk:K9 .i64 k):B84 m' ⟨x.kind,k,x.b,x.outs⟩:=⟨⟨h.1.1,hk,h.1.2.2⟩,Nat.le_trans h.2 hm⟩
theorem C5j {m m':Nat}{x:Cb}{k:Int}(h:B84 m x)(hm:m≤m')(hk:K9 .i64 k):B84 m' ⟨x.kind,x.a,k,x.outs⟩:=⟨⟨h.1.1,h.1.2.1,hk,h.1.2.2.2⟩,Nat.le_trans h.2 hm⟩
theorem C34 {m:Nat}{x:Cb}{k:Int}(h:B84 m x)(hm:m≤1000)(hk:K9 .i64 k):B84 (m+1) ⟨x.kind,x.a,x.b,x.outs++[k]⟩:=by
 have hl:=h.2
 refine ⟨⟨h.1.1,h.1.2.1,h.1.2.2.1,?_,fun n hn=>?_⟩,?_⟩
 ·show (x.outs++[k]).length≤maxLen
  rw [List.length_append,List.length_singleton,maxLen];omega
 ·rcases List.mem_append.1 hn with hn|hn
  ·exact h.1.2.2.2.2 n hn
  ·rw [List.mem_singleton.1 hn];exact hk
 ·show (x.outs++[k]).length≤m+1
  rw [List.length_append,List.length_singleton];omega
set_option maxHeartbeats 2000000 in
theorem C19 (d:I9)(i h:Int)(hi:0≤i∧i≤d.n):Iv Tryz.prog HT 158 d.pins (d.cur i h) [] (fun r:Int×Int×Cb=>(0≤r.1∧r.1≤d.n)∧B84 3 r.2.2) (fun r=>d.cur r.1 r.2.1) (fun r=>[.agg r.2.2.c]):=by
 refine Ol A0 false Tryz.func158 rfl Bu fun B b hH hp=>?_
 conv=>whnf
 refine Fg (C5c d i h hi) hH hp rfl Ca rfl rfl (fun r hr=>go A0 false ?_)
 conv=>whnf
 have hl:=hr.2.2
 refine Fg (E5 d r.1 r.2.1 12 hr.1 Bu) hH hp rfl Ca rfl rfl (fun r2 hr2=>go A0 false ?_)
 conv=>whnf
 refine ⟨fun c0=>?_,fun c0=>?_⟩<;>conv=>whnf
 ·repeat refine Bi ?_
  refine Fg (E5 d r2.1 r2.2.1 11 hr2.1 Bu) hH hp rfl Ca rfl rfl (fun r3 hr3=>go A0 false ?_)
  conv=>whnf
  have h3:=hr3.2.2.2 Bu
  have h4:=hr3.2.1
  (repeat refine Ar ?_)
  exact Kk A0 (r3.1,r3.2.1,⟨r3.2.2-1,r.2.2.a,r.2.2.b,r.2.2.outs⟩) ⟨hr3.1,C5k hr.2 Bu (A5q Ac Ac)⟩ rfl rfl rfl rfl Ca
 repeat refine Bi ?_
 refine ⟨fun c1=>?_,fun c1=>?_⟩<;>conv=>whnf
 ·repeat refine Bi ?_
  refine O2 4 (F1 [-1,0,1000,100,11]) rfl (Db rfl F3) ?_
  refine Fg (A57 d r2.1 r2.2.1 [-1,0,1000,100,11] hr2.1 Bu) hH hp rfl Ca rfl rfl (fun r3 hr3=>go A0 false ?_)
  conv=>whnf
  exact Kk A0 (r3.1,r3.2.1,⟨r.2.2.kind,[-1,0,1000,100,11].getD r3.2.2 0,r.2.2.b,r.2.2.outs⟩) ⟨hr3.1,C5i hr.2 Bu (B5r _ _ (by intro x hx;simp only [List.mem_cons,List.not_mem_nil,or_false] at hx;show _∧_;omega))⟩ rfl rfl rfl rfl Ca
 repeat refine Bi ?_
 refine ⟨fun c2=>?_,fun c2=>?_⟩<;>conv=>whnf
 ·repeat refine Bi ?_
  refine O2 4 (F1 [-1,1,3]) rfl (Db rfl F3) ?_
  refine Fg (A57 d r2.1 r2.2.1 [-1,1,3] hr2.1 Bu) hH hp rfl Ca rfl rfl (fun r3 hr3=>go A0 false ?_)
  conv=>whnf
  exact Kk A0 (r3.1,r3.2.1,⟨r.2.2.kind,r.2.2.a,[-1,1,3].getD r3.2.2 0,r.2.2.outs⟩) ⟨hr3.1,C5j hr.2 Bu (B5r _ _ (by intro x hx;simp only [List.mem_cons,List.not_mem_nil,or_false] at hx;show _∧_;omega))⟩ rfl rfl rfl rfl Ca
 repeat refine Bi ?_
 refine ⟨fun c3=>?_,fun c3=>?_⟩<;>conv=>whnf
 ·repeat refine Bi ?_
  refine A8a rfl ?_
  refine M7 A0 false 0 rfl rfl rfl Aa rfl (Af D0) ?_
  refine M7 A0 false 2 rfl rfl rfl Aa rfl (Af D0) ?_
  refine Aj [1,3] Aa ⟨?_,?_,trivial⟩
  focus
   refine go A0 false ?_
   conv=>whnf
   refine Ak ?_
   refine Aj [3] Aa ⟨?_,trivial⟩
   refine go A0 false ?_
   conv=>whnf
   refine Ak ?_
   refine Aj [4] Aa ⟨?_,trivial⟩
   refine go A0 false ?_
   conv=>whnf
   refine O2 4 (F1 [1,7,8,-1]) rfl (Db rfl F3) ?_
   refine Fg (A57 d r2.1 r2.2.1 [1,7,8,-1] hr2.1 Bu) hH hp rfl Ca rfl rfl (fun r3 hr3=>go A0 false ?_)
   conv=>whnf
   refine Ak ?_
   refine Aj [5] Aa ⟨?_,trivial⟩
   refine go A0 false ?_
   conv=>whnf
   refine Ak ?_
   refine Aj [6] Aa ⟨?_,trivial⟩
   refine go A0 false ?_
   conv=>whnf
   refine Dp A0 rfl rfl rfl rfl rfl rfl rfl rfl rfl rfl rfl (F1 (r.2.2.outs++[[1,7,8,-1].getD r3.2.2 0])) (Bf rfl) M1 Ac (Al ?_)
   refine Ak ?_
   refine M7 A0 false 7 rfl rfl rfl Aa rfl (Af D0) ?_
   refine Aj [8] Aa ⟨?_,trivial⟩
   refine go A0 false ?_
   conv=>whnf
   refine Ak ?_
   refine Ed Aa (Al ?_)
  rotate_left 1
  focus
   refine go A0 false ?_
   conv=>whnf
   refine Ak ?_
   refine Aj [1,4] Aa ⟨?_,?_,trivial⟩
   focus
    refine go A0 false ?_
    conv=>whnf
    refine Ak ?_
    refine Aj [4] Aa ⟨?_,trivial⟩
    refine go A0 false ?_
    conv=>whnf
    refine O2 4 (F1 [1,7,8,-1]) rfl (Db rfl F3) ?_
    refine Fg (A57 d r2.1 r2.2.1 [1,7,8,-1] hr2.1 Bu) hH hp rfl Ca rfl rfl (fun r3 hr3=>go A0 false ?_)
    conv=>whnf
    refine Ak ?_
    refine Aj [5] Aa ⟨?_,trivial⟩
    refine go A0 false ?_
    conv=>whnf
    refine Ak ?_
    refine Aj [6] Aa ⟨?_,trivial⟩
    refine go A0 false ?_
    conv=>whnf
    refine Dp A0 rfl rfl rfl rfl rfl rfl rfl rfl rfl rfl rfl (F1 (r.2.2.outs++[[1,7,8,-1].getD r3.2.2 0])) (Bf rfl) M1 Ac (Al ?_)
    refine Ak ?_
    refine M7 A0 false 7 rfl rfl rfl Aa rfl (Af D0) ?_
    refine Aj [8] Aa ⟨?_,trivial⟩
    refine go A0 false ?_
    conv=>whnf
    refine Ak ?_
    refine Ed Aa (Al ?_)
   rotate_left 1
   focus
    refine go A0 false ?_
    conv=>whnf
    refine O2 4 (F1 [1,7,8,-1]) rfl (Db rfl F3) ?_
    refine Fg (A57 d r2.1 r2.2.1 [1,7,8,-1] hr2.1 Bu) hH hp rfl Ca rfl rfl (fun r3 hr3=>go A0 false ?_)
    conv=>whnf
    refine Ak ?_
    refine Aj [1,5] Aa ⟨?_,?_,trivial⟩
    focus
     refine go A0 false ?_
     conv=>whnf
     refine Ak ?_
     refine Aj [5] Aa ⟨?_,trivial⟩
     refine go A0 false ?_
     conv=>whnf
     refine Ak ?_
     refine Aj [6] Aa ⟨?_,trivial⟩
     refine go A0 false ?_
     conv=>whnf
     refine Dp A0 rfl rfl rfl rfl rfl rfl rfl rfl rfl rfl rfl (F1 (r.2.2.outs++[[1,7,8,-1].getD r3.2.2 0])) (Bf rfl) M1 Ac (Al ?_)
     refine Ak ?_
     refine M7 A0 false 7 rfl rfl rfl Aa rfl (Af D0) ?_
     refine Aj [8] Aa ⟨?_,trivial⟩
     refine go A0 false ?_
     conv=>whnf
     refine Ak ?_
     refine Ed Aa (Al ?_)
    rotate_left 1
    focus
     refine go A0 false ?_
     conv=>whnf
     refine Ak ?_
     refine Aj [1] Aa ⟨?_,trivial⟩
     refine go A0 false ?_
     conv=>whnf
     refine Ak ?_
     refine Aj [6] Aa ⟨?_,trivial⟩
     refine go A0 false ?_
     conv=>whnf
     refine Dp A0 rfl rfl rfl rfl rfl rfl rfl rfl rfl rfl rfl (F1 (r.2.2.outs++[[1,7,8,-1].getD r3.2.2 0])) (Bf rfl) M1 Ac (Al ?_)
     refine Ak ?_
     refine M7 A0 false 7 rfl rfl rfl Aa rfl (Af D0) ?_
     refine Aj [8] Aa ⟨?_,trivial⟩
     refine go A0 false ?_
     conv=>whnf
     refine Ak ?_
     refine Ed Aa (Al ?_)
  all_goals exact Kk A0 (r3.1,r3.2.1,⟨r.2.2.kind,r.2.2.a,r.2.2.b,r.2.2.outs++[[1,7,8,-1].getD r3.2.2 0]⟩) ⟨hr3.1,C34 hr.2 Bu (B5r _ _ (by intro x hx;simp only [List.mem_cons,List.not_mem_nil,or_false] at hx;show _∧_;omega))⟩ rfl rfl rfl rfl Ca
 ·repeat refine Bi ?_
  exact Kk A0 (r2.1,r2.2.1,r.2.2) ⟨hr2.1,hr.2.to Bu⟩ rfl rfl rfl rfl Ca
end Go.Proofs.YtonodkjaoalfjaaGreat
