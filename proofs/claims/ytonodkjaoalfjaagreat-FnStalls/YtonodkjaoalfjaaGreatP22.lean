/- Part 22 of the proof that each of the laws FnStalls returns true for every input. No conditions. -/
import Derived.Test.YtonodkjaoalfjaaGreatP4
import Derived.Test.YtonodkjaoalfjaaGreatP21
import Derived.Test.YtonodkjaoalfjaaGreatP20

set_option linter.unusedSimpArgs false
set_option linter.unusedVariables false
set_option maxRecDepth 100000
namespace Go.Proofs.YtonodkjaoalfjaaGreat
open Go.Sx
structure JLk where
 k:Nat
 i:Int
 h:Int
 l:C2
theorem C5g {k:Nat}{l:C2}(h:l.queue.length≤k):(At l).1.queue.length≤k+1:=by
 unfold At
 split
 ·show (l.queue.drop 1).length≤_;rw [List.length_drop];omega
 ·show l.queue.length≤_;omega
theorem C5e {k:Nat}{l:C2}(h:l.queue.length≤k):(Bn l).1.queue.length≤k+1:=by
 unfold Bn
 split<;>(show l.queue.length≤_;omega)
theorem C5f {k:Nat}{l:C2}{r:A5}(h:l.queue.length≤k):(Dn l r).1.queue.length≤k+1:=by
 unfold Dn
 split
 ·show (l.queue++[r]).length≤_;rw [List.length_append];show l.queue.length+1≤_;omega
 ·show l.queue.length≤_;omega
set_option maxHeartbeats 4000000 in
theorem C4q (d:I9)(i h:Int)(hi:0≤i∧i≤d.n):Iv Tryz.prog HT 157 d.pins (d.cur i h) [] (fun r:Int×Int×C2=>(0≤r.1∧r.1≤d.n)∧r.2.2.queue.length≤9) (fun r=>d.cur r.1 r.2.1) (fun r=>[.agg r.2.2.c]):=by
 refine Ol A0 false Tryz.func157 rfl Bu fun B b hH hp=>?_
 conv=>whnf
 refine Fg (E5 d i h 4 hi Bu) hH hp rfl Ca rfl rfl (fun r hr=>go A0 false ?_)
 conv=>whnf
 have hr4:=hr.2.2.2 Bu
 have hr5:=hr.2.1
 (repeat refine Ar ?_)
 refine B4 (C12 (1+r.2.2)) rfl (Al ?_)
 refine Bw A0 false [8] (fun j:JLk=>[(4,.c (vi j.k))]) (fun j=>[⟨3,[.c (vi j.l.cap),.own 2,.c (vi j.l.credits),.c (vi j.l.back),.c (vi j.l.sent),.c (vi j.l.got)]⟩,⟨0,[.c (.val d.v),.c (vi j.i),.c (vi j.h)]⟩,⟨1,[.c (vi 0),.c (.val (.slice none 0 0)),.c (vi 0),.c (vi 0),.c (vi 0),.c (vi 0)]⟩]) (fun j=>[⟨2,Ax j.l.queue⟩]) (fun j=>(0≤j.i∧j.i≤d.n)∧j.k≤8∧j.l.queue.length≤j.k) (fun j=>9-j.k) (⟨0,r.1,r.2.1,Gv (1+r.2.2)⟩) (⟨hr.1,Nat.zero_le _,Nat.zero_le _⟩) ⟨by first|rfl|simp [Dl,ren2,ren1,ren0],trivial⟩ F3 ⟨by first|rfl|exact (congrArg (fun l=>Du _ _ l) (List.append_nil _)).symm|(show (_:A8)=_;simp)|simp,trivial⟩ Dh Aa (fun j hj=>?_)
 conv=>whnf
 obtain ⟨hi2,hk2,hx⟩:=hj
 have hlw:j.l.w=j.l.queue.length:=rfl
 refine Fg (E5 d j.i j.h 9 hi2 Bu) hH hp rfl Ca rfl rfl (fun s hs=>go A0 false ?_)
 conv=>whnf
 refine G5 (fun hlt=>?_) fun hlt=>?_<;>conv=>whnf
 ·have hlt2:s.2.2<9:=hs.2.2.2 Bu
  refine Fg (E5 d s.1 s.2.1 4 hs.1 Bu) hH hp rfl Ca rfl rfl (fun t ht=>go A0 false ?_)
  conv=>whnf
  refine ⟨fun c0=>?_,fun c0=>?_⟩<;>conv=>whnf
  ·refine B4 (C1t j.l Ac) rfl (Al ?_)
   (repeat refine Ar ?_)
   refine B5 [(2,4)] (⟨j.k+1,t.1,t.2.1,(At j.l).1⟩) (⟨ht.1,by show j.k+1≤8;omega,C5g hx⟩) (by show 9-(j.k+1)<_;omega) ⟨rfl,trivial⟩ ⟨rfl,trivial⟩ F3 Aa Dh Aa
  ·refine ⟨fun c1=>?_,fun c1=>?_⟩<;>conv=>whnf
   ·refine B4 (C07 j.l Ac) rfl (Al ?_)
    (repeat refine Ar ?_)
    refine B5 [(2,4)] (⟨j.k+1,t.1,t.2.1,(Bn j.l).1⟩) (⟨ht.1,by show j.k+1≤8;omega,C5e hx⟩) (by show 9-(j.k+1)<_;omega) ⟨rfl,trivial⟩ ⟨rfl,trivial⟩ F3 Aa Dh Aa
   ·refine A8a rfl ?_
    refine M7 A0 false 1 rfl rfl rfl Aa rfl (Af D0) ?_
    refine Aj [0,2] Aa ⟨?_,?_,trivial⟩
    focus
     refine go A0 false ?_
     conv=>whnf
     refine Ak ?_
     refine Aj [2] Aa ⟨?_,trivial⟩
     refine go A0 false ?_
     conv=>whnf
     refine Fg (C0k d t.1 t.2.1 ht.1) hH hp rfl Ca rfl rfl (fun r9 hr9=>go A0 false ?_)
     conv=>whnf
     refine Ak ?_
     refine Aj [3] Aa ⟨?_,trivial⟩
     refine go A0 false ?_
     conv=>whnf
     refine B4 (C02 j.l r9.2.2 Ac) rfl (Al ?_)
     refine Ak ?_
     refine M7 A0 false 4 rfl rfl rfl Aa rfl (Af D0) ?_
     refine Aj [5,6] Aa ⟨?_,?_,trivial⟩
     focus
      refine go A0 false ?_
      conv=>whnf
      refine Ak ?_
      refine Aj [6,7] Aa ⟨?_,?_,trivial⟩
      focus
       refine go A0 false ?_
       conv=>whnf
       refine Ak ?_
       refine Aj [7] Aa ⟨?_,trivial⟩
       refine go A0 false ?_
       conv=>whnf
       refine Ak ?_
       refine Ed Aa (Al ?_)
      rotate_left 1
      focus
       refine go A0 false ?_
       conv=>whnf
       refine Ak ?_
       refine Aj [6] Aa ⟨?_,trivial⟩
       refine go A0 false ?_
       conv=>whnf
       refine Ak ?_
       refine Ed Aa (Al ?_)
     rotate_left 2
     focus
      refine go A0 false ?_
      conv=>whnf
      refine Ak ?_
      refine Aj [5] Aa ⟨?_,trivial⟩
      refine go A0 false ?_
      conv=>whnf
      refine Ak ?_
      refine Aj [7] Aa ⟨?_,trivial⟩
      refine go A0 false ?_
      conv=>whnf
      refine Ak ?_
      refine Ed Aa (Al ?_)
    rotate_left 3
    focus
     refine go A0 false ?_
     conv=>whnf
     refine Fg (C0k d t.1 t.2.1 ht.1) hH hp rfl Ca rfl rfl (fun r9 hr9=>go A0 false ?_)
     conv=>whnf
     refine Ak ?_
     refine Aj [0] Aa ⟨?_,trivial⟩
     refine go A0 false ?_
     conv=>whnf
     refine Ak ?_
     refine Aj [3] Aa ⟨?_,trivial⟩
     refine go A0 false ?_
     conv=>whnf
     refine B4 (C02 j.l r9.2.2 Ac) rfl (Al ?_)
     refine Ak ?_
     refine M7 A0 false 4 rfl rfl rfl Aa rfl (Af D0) ?_
     refine Aj [5,6] Aa ⟨?_,?_,trivial⟩
     focus
      refine go A0 false ?_
      conv=>whnf
      refine Ak ?_
      refine Aj [6,7] Aa ⟨?_,?_,trivial⟩
      focus
       refine go A0 false ?_
       conv=>whnf
       refine Ak ?_
       refine Aj [7] Aa ⟨?_,trivial⟩
       refine go A0 false ?_
       conv=>whnf
       refine Ak ?_
       refine Ed Aa (Al ?_)
      rotate_left 1
      focus
       refine go A0 false ?_
       conv=>whnf
       refine Ak ?_
       refine Aj [6] Aa ⟨?_,trivial⟩
       refine go A0 false ?_
       conv=>whnf
       refine Ak ?_
       refine Ed Aa (Al ?_)
     rotate_left 2
     focus
      refine go A0 false ?_
      conv=>whnf
      refine Ak ?_
      refine Aj [5] Aa ⟨?_,trivial⟩
      refine go A0 false ?_
      conv=>whnf
      refine Ak ?_
      refine Aj [7] Aa ⟨?_,trivial⟩
      refine go A0 false ?_
      conv=>whnf
      refine Ak ?_
      refine Ed Aa (Al ?_)
    all_goals
     (repeat refine Ar ?_)
     refine B5 [(2,4)] (⟨j.k+1,r9.1,r9.2.1,(Dn j.l r9.2.2).1⟩) (⟨hr9.1,by show j.k+1≤8;omega,C5f hx⟩) (by show 9-(j.k+1)<_;omega) ⟨rfl,trivial⟩ ⟨rfl,trivial⟩ F3 Aa Dh Aa
 ·exact Kk A0 (s.1,s.2.1,j.l) ⟨hs.1,by show j.l.queue.length≤9;omega⟩ rfl rfl rfl rfl Ca
set_option maxHeartbeats 4000000 in
theorem C0i (d:I9)(i h:Int)(hi:0≤i∧i≤d.n):Iv Tryz.prog HT 133 d.pins (d.cur i h) [] (fun r:Int×Int×C2=>(0≤r.1∧r.1≤d.n)∧r.2.2.queue.length≤10) (fun r=>d.cur r.1 r.2.1) (fun r=>[.agg r.2.2.c]):=by
 refine Ol A0 false Tryz.func133 rfl Bu fun B b hH hp=>?_
 conv=>whnf
 refine Fg (C4q d i h hi) hH hp rfl Ca rfl rfl (fun r hr=>go A0 false ?_)
 conv=>whnf
 have hx:=hr.2
 refine Fg (E5 d r.1 r.2.1 14 hr.1 Bu) hH hp rfl Ca rfl rfl (fun t ht=>go A0 false ?_)
 conv=>whnf
 refine ⟨fun c0=>?_,fun c0=>?_⟩<;>conv=>whnf
 ·refine Fg (E5 d t.1 t.2.1 6 ht.1 Bu) hH hp rfl Ca rfl rfl (fun r9 hr9=>go A0 false ?_)
  conv=>whnf
  have hn9:=hr9.2.2.2 Bu
  have hn8:=hr9.2.1
  (repeat refine Ar ?_)
  exact Kk A0 (r9.1,r9.2.1,⟨r.2.2.cap,r.2.2.queue,r9.2.2-1,r.2.2.back,r.2.2.sent,r.2.2.got⟩) ⟨hr9.1,by show r.2.2.queue.length≤10;omega⟩ rfl rfl rfl rfl Ca
 repeat refine Bi ?_
 refine ⟨fun c1=>?_,fun c1=>?_⟩<;>conv=>whnf
 ·refine Fg (E5 d t.1 t.2.1 6 ht.1 Bu) hH hp rfl Ca rfl rfl (fun r9 hr9=>go A0 false ?_)
  conv=>whnf
  have hn9:=hr9.2.2.2 Bu
  have hn8:=hr9.2.1
  (repeat refine Ar ?_)
  exact Kk A0 (r9.1,r9.2.1,⟨r.2.2.cap,r.2.2.queue,r.2.2.credits,r9.2.2-1,r.2.2.sent,r.2.2.got⟩) ⟨hr9.1,by show r.2.2.queue.length≤10;omega⟩ rfl rfl rfl rfl Ca
 repeat refine Bi ?_
 refine ⟨fun c2=>?_,fun c2=>?_⟩<;>conv=>whnf
 ·refine O2 4 (F1 [-1,0,1000000000,1000000001]) rfl (Db rfl F3) ?_
  refine Fg (A57 d t.1 t.2.1 [-1,0,1000000000,1000000001] ht.1 Bu) hH hp rfl Ca rfl rfl (fun r9 hr9=>go A0 false ?_)
  conv=>whnf
  exact Kk A0 (r9.1,r9.2.1,⟨r.2.2.cap,r.2.2.queue,r.2.2.credits,r.2.2.back,[-1,0,1000000000,1000000001].getD r9.2.2 0,r.2.2.got⟩) ⟨hr9.1,by show r.2.2.queue.length≤10;omega⟩ rfl rfl rfl rfl Ca
 repeat refine Bi ?_
 refine ⟨fun c3=>?_,fun c3=>?_⟩<;>conv=>whnf
 ·refine A8a rfl ?_
  refine M7 A0 false 0 rfl rfl rfl Aa rfl (Af D0) ?_
  refine M7 A0 false 2 rfl rfl rfl Aa rfl (Af D0) ?_
  refine Aj [1,3] Aa ⟨?_,?_,trivial⟩
  focus
   refine go A0 false ?_
   conv=>whnf
   refine Ak ?_
   refine Aj [3] Aa ⟨?_,trivial⟩
   refine go A0 false ?_
   conv=>whnf
   refine Fg (B9t d t.1 t.2.1 ht.1) hH hp rfl Ca rfl rfl (fun r9 hr9=>go A0 false ?_)
   conv=>whnf
   refine Ak ?_
   refine Aj [4] Aa ⟨?_,trivial⟩
   refine go A0 false ?_
   conv=>whnf
   refine Ak ?_
   refine Aj [5] Aa ⟨?_,trivial⟩
   refine go A0 false ?_
   conv=>whnf
   refine Dp A0 rfl rfl rfl rfl rfl rfl rfl rfl rfl rfl rfl (Ax (r.2.2.queue++[r9.2.2])) (Bf rfl) M1 Ac (Al ?_)
   refine Ak ?_
   refine M7 A0 false 6 rfl rfl rfl Aa rfl (Af D0) ?_
   refine Aj [7] Aa ⟨?_,trivial⟩
   refine go A0 false ?_
   conv=>whnf
   refine Ak ?_
   refine Ed Aa (Al ?_)
  rotate_left 1
  focus
   refine go A0 false ?_
   conv=>whnf
   refine Fg (B9t d t.1 t.2.1 ht.1) hH hp rfl Ca rfl rfl (fun r9 hr9=>go A0 false ?_)
   conv=>whnf
   refine Ak ?_
   refine Aj [1,4] Aa ⟨?_,?_,trivial⟩
   focus
    refine go A0 false ?_
    conv=>whnf
    refine Ak ?_
    refine Aj [4] Aa ⟨?_,trivial⟩
    refine go A0 false ?_
    conv=>whnf
    refine Ak ?_
    refine Aj [5] Aa ⟨?_,trivial⟩
    refine go A0 false ?_
    conv=>whnf
    refine Dp A0 rfl rfl rfl rfl rfl rfl rfl rfl rfl rfl rfl (Ax (r.2.2.queue++[r9.2.2])) (Bf rfl) M1 Ac (Al ?_)
    refine Ak ?_
    refine M7 A0 false 6 rfl rfl rfl Aa rfl (Af D0) ?_
    refine Aj [7] Aa ⟨?_,trivial⟩
    refine go A0 false ?_
    conv=>whnf
    refine Ak ?_
    refine Ed Aa (Al ?_)
   rotate_left 1
   focus
    refine go A0 false ?_
    conv=>whnf
    refine Ak ?_
    refine Aj [1] Aa ⟨?_,trivial⟩
    refine go A0 false ?_
    conv=>whnf
    refine Ak ?_
    refine Aj [5] Aa ⟨?_,trivial⟩
    refine go A0 false ?_
    conv=>whnf
    refine Dp A0 rfl rfl rfl rfl rfl rfl rfl rfl rfl rfl rfl (Ax (r.2.2.queue++[r9.2.2])) (Bf rfl) M1 Ac (Al ?_)
    refine Ak ?_
    refine M7 A0 false 6 rfl rfl rfl Aa rfl (Af D0) ?_
    refine Aj [7] Aa ⟨?_,trivial⟩
    refine go A0 false ?_
    conv=>whnf
    refine Ak ?_
    refine Ed Aa (Al ?_)
  all_goals
   exact Kk A0 (r9.1,r9.2.1,⟨r.2.2.cap,r.2.2.queue++[r9.2.2],r.2.2.credits,r.2.2.back,r.2.2.sent,r.2.2.got⟩) ⟨hr9.1,by show (r.2.2.queue++[r9.2.2]).length≤10;rw [List.length_append];show r.2.2.queue.length+1≤10;omega⟩ rfl rfl rfl rfl Ca
 repeat refine Bi ?_
 refine ⟨fun c4=>?_,fun c4=>?_⟩<;>conv=>whnf
 ·(repeat refine Ar ?_)
  exact Kk A0 (t.1,t.2.1,⟨r.2.2.cap,r.2.2.queue,r.2.2.credits,r.2.2.back,1000000000,1000000000-r.2.2.queue.length⟩) ⟨ht.1,by show r.2.2.queue.length≤10;omega⟩ rfl rfl rfl rfl Ca
 ·repeat refine Bi ?_
  exact Kk A0 (t.1,t.2.1,r.2.2) ⟨ht.1,by show r.2.2.queue.length≤10;omega⟩ rfl rfl rfl rfl Ca
end Go.Proofs.YtonodkjaoalfjaaGreat
