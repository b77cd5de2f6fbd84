/- Part 21 of the proof that each of the laws FnStalls returns true for every input. No conditions. -/
import Derived.Test.YtonodkjaoalfjaaGreatP4
import Derived.Test.YtonodkjaoalfjaaGreatP20
import Derived.Test.YtonodkjaoalfjaaGreatP12
import Derived.Test.YtonodkjaoalfjaaGreatP9
import Derived.Test.YtonodkjaoalfjaaGreatP7

set_option linter.unusedSimpArgs false
set_option linter.unusedVariables false
set_option maxRecDepth 100000
namespace Go.Proofs.YtonodkjaoalfjaaGreat
open Go.Sx
theorem C18 {α:Type} [Inhabited α] {es:Nat}{e:α→List A8}{xs:List α}{m:Nat}(hm:m≤xs.length):Iu (.sl m es fun i=>e (xs.getD i default)) (Du es e (xs.take m)):=by
 have hl:(xs.take m).length=m:=by rw [List.length_take];omega
 refine ⟨hl,rfl,fun i hi=>?_⟩
 have:(xs.take m).getD i default=xs.getD i default:=by
  simp [List.getD,hi]
 show Gb _ (e ((xs.take m).getD i default))
 rw [this]
 exact Gb.rfl' _
theorem C14 {x y:Ab}(h:x.w≤44)(hw:y.w≤x.w+8):y.w≤100:=by omega
set_option maxHeartbeats 4000000 in
theorem C0x (d:I9)(i h:Int)(g:Ad)(hi:0≤i∧i≤d.n)(hg:g.w≤1000):Iv Tryz.prog HT 132 d.pins (d.cur i h) [.agg g.c] (fun r:Int×Int×Ab=>(0≤r.1∧r.1≤d.n)∧r.2.2.w≤100) (fun r=>d.cur r.1 r.2.1) (fun r=>[.agg r.2.2.c]):=by
 refine Ol A0 false Tryz.func132 rfl Bu fun B b hH hp=>?_
 conv=>whnf
 refine Fg (C3n d i h g hi hg) hH hp rfl Ca rfl rfl (fun r hr=>go A0 false ?_)
 conv=>whnf
 obtain ⟨hr0,hx⟩:=hr
 have hxw:r.2.2.w≤44:=hx.w
 have hws:=C0w r.2.2
 have hs4:=hx.s4
 refine Fg (E5 d r.1 r.2.1 16 hr0 Bu) hH hp rfl Ca rfl rfl (fun t ht=>go A0 false ?_)
 conv=>whnf
 refine ⟨fun c0=>?_,fun c0=>?_⟩<;>conv=>whnf
 ·refine A8a rfl ?_
  refine M7 A0 false 0 rfl rfl rfl Aa rfl (Af D0) ?_
  refine M7 A0 false 2 rfl rfl rfl Aa rfl (Af D0) ?_
  refine Aj [1,3] Aa ⟨?_,?_,trivial⟩
  focus
   refine go A0 false ?_
   conv=>whnf
   refine Ak ?_
   refine Aj [3] Aa ⟨?_,trivial⟩
   refine go A0 false ?_
   conv=>whnf
   refine Fg (B9t d t.1 t.2.1 ht.1) hH hp rfl Ca rfl rfl (fun r9 hr9=>go A0 false ?_)
   conv=>whnf
   refine Ak ?_
   refine Aj [4] Aa ⟨?_,trivial⟩
   refine go A0 false ?_
   conv=>whnf
   refine Ak ?_
   refine Aj [5] Aa ⟨?_,trivial⟩
   refine go A0 false ?_
   conv=>whnf
   refine Dp A0 rfl rfl rfl rfl rfl rfl rfl rfl rfl rfl rfl (Ax (r.2.2.queue++[r9.2.2])) (Bf rfl) M1 Ac (Al ?_)
   refine Ak ?_
   refine M7 A0 false 6 rfl rfl rfl Aa rfl (Af D0) ?_
   refine Aj [7] Aa ⟨?_,trivial⟩
   refine go A0 false ?_
   conv=>whnf
   refine Ak ?_
   refine Ed Aa (Al ?_)
  rotate_left 1
  focus
   refine go A0 false ?_
   conv=>whnf
   refine Fg (B9t d t.1 t.2.1 ht.1) hH hp rfl Ca rfl rfl (fun r9 hr9=>go A0 false ?_)
   conv=>whnf
   refine Ak ?_
   refine Aj [1,4] Aa ⟨?_,?_,trivial⟩
   focus
    refine go A0 false ?_
    conv=>whnf
    refine Ak ?_
    refine Aj [4] Aa ⟨?_,trivial⟩
    refine go A0 false ?_
    conv=>whnf
    refine Ak ?_
    refine Aj [5] Aa ⟨?_,trivial⟩
    refine go A0 false ?_
    conv=>whnf
    refine Dp A0 rfl rfl rfl rfl rfl rfl rfl rfl rfl rfl rfl (Ax (r.2.2.queue++[r9.2.2])) (Bf rfl) M1 Ac (Al ?_)
    refine Ak ?_
    refine M7 A0 false 6 rfl rfl rfl Aa rfl (Af D0) ?_
    refine Aj [7] Aa ⟨?_,trivial⟩
    refine go A0 false ?_
    conv=>whnf
    refine Ak ?_
    refine Ed Aa (Al ?_)
   rotate_left 1
   focus
    refine go A0 false ?_
    conv=>whnf
    refine Ak ?_
    refine Aj [1] Aa ⟨?_,trivial⟩
    refine go A0 false ?_
    conv=>whnf
    refine Ak ?_
    refine Aj [5] Aa ⟨?_,trivial⟩
    refine go A0 false ?_
    conv=>whnf
    refine Dp A0 rfl rfl rfl rfl rfl rfl rfl rfl rfl rfl rfl (Ax (r.2.2.queue++[r9.2.2])) (Bf rfl) M1 Ac (Al ?_)
    refine Ak ?_
    refine M7 A0 false 6 rfl rfl rfl Aa rfl (Af D0) ?_
    refine Aj [7] Aa ⟨?_,trivial⟩
    refine go A0 false ?_
    conv=>whnf
    refine Ak ?_
    refine Ed Aa (Al ?_)
  all_goals
   exact Kk A0 (r9.1,r9.2.1,⟨r.2.2.queue++[r9.2.2],r.2.2.staged,r.2.2.inputs,r.2.2.cells,r.2.2.sums,r.2.2.black,r.2.2.caps,r.2.2.dones⟩) ⟨hr9.1,C14 hxw B16⟩ rfl rfl rfl rfl Ca
 repeat refine Bi ?_
 refine ⟨fun c1=>?_,fun c1=>?_⟩<;>conv=>whnf
 ·refine A8a rfl ?_
  refine M7 A0 false 0 rfl rfl rfl Aa rfl (Af D0) ?_
  refine M7 A0 false 2 rfl rfl rfl Aa rfl (Af D0) ?_
  refine Aj [1,3] Aa ⟨?_,?_,trivial⟩
  focus
   refine go A0 false ?_
   conv=>whnf
   refine Ak ?_
   refine Aj [3] Aa ⟨?_,trivial⟩
   refine go A0 false ?_
   conv=>whnf
   refine Fg (C0k d t.1 t.2.1 ht.1) hH hp rfl Ca rfl rfl (fun r9 hr9=>go A0 false ?_)
   conv=>whnf
   refine Ak ?_
   refine Aj [4] Aa ⟨?_,trivial⟩
   refine go A0 false ?_
   conv=>whnf
   refine Ak ?_
   refine Aj [5] Aa ⟨?_,trivial⟩
   refine go A0 false ?_
   conv=>whnf
   refine Dp A0 rfl rfl rfl rfl rfl rfl rfl rfl rfl rfl rfl (Ax (r.2.2.inputs++[r9.2.2])) (Bf rfl) M1 Ac (Al ?_)
   refine Ak ?_
   refine M7 A0 false 6 rfl rfl rfl Aa rfl (Af D0) ?_
   refine Aj [7] Aa ⟨?_,trivial⟩
   refine go A0 false ?_
   conv=>whnf
   refine Ak ?_
   refine Ed Aa (Al ?_)
  rotate_left 1
  focus
   refine go A0 false ?_
   conv=>whnf
   refine Fg (C0k d t.1 t.2.1 ht.1) hH hp rfl Ca rfl rfl (fun r9 hr9=>go A0 false ?_)
   conv=>whnf
   refine Ak ?_
   refine Aj [1,4] Aa ⟨?_,?_,trivial⟩
   focus
    refine go A0 false ?_
    conv=>whnf
    refine Ak ?_
    refine Aj [4] Aa ⟨?_,trivial⟩
    refine go A0 false ?_
    conv=>whnf
    refine Ak ?_
    refine Aj [5] Aa ⟨?_,trivial⟩
    refine go A0 false ?_
    conv=>whnf
    refine Dp A0 rfl rfl rfl rfl rfl rfl rfl rfl rfl rfl rfl (Ax (r.2.2.inputs++[r9.2.2])) (Bf rfl) M1 Ac (Al ?_)
    refine Ak ?_
    refine M7 A0 false 6 rfl rfl rfl Aa rfl (Af D0) ?_
    refine Aj [7] Aa ⟨?_,trivial⟩
    refine go A0 false ?_
    conv=>whnf
    refine Ak ?_
    refine Ed Aa (Al ?_)
   rotate_left 1
   focus
    refine go A0 false ?_
    conv=>whnf
    refine Ak ?_
    refine Aj [1] Aa ⟨?_,trivial⟩
    refine go A0 false ?_
    conv=>whnf
    refine Ak ?_
    refine Aj [5] Aa ⟨?_,trivial⟩
    refine go A0 false ?_
    conv=>whnf
    refine Dp A0 rfl rfl rfl rfl rfl rfl rfl rfl rfl rfl rfl (Ax (r.2.2.inputs++[r9.2.2])) (Bf rfl) M1 Ac (Al ?_)
    refine Ak ?_
    refine M7 A0 false 6 rfl rfl rfl Aa rfl (Af D0) ?_
    refine Aj [7] Aa ⟨?_,trivial⟩
    refine go A0 false ?_
    conv=>whnf
    refine Ak ?_
    refine Ed Aa (Al ?_)
  all_goals
   exact Kk A0 (r9.1,r9.2.1,⟨r.2.2.queue,r.2.2.staged,r.2.2.inputs++[r9.2.2],r.2.2.cells,r.2.2.sums,r.2.2.black,r.2.2.caps,r.2.2.dones⟩) ⟨hr9.1,C14 hxw B16⟩ rfl rfl rfl rfl Ca
 repeat refine Bi ?_
 refine ⟨fun c2=>?_,fun c2=>?_⟩<;>conv=>whnf
 ·refine A8a rfl ?_
  refine M7 A0 false 0 rfl rfl rfl Aa rfl (Af D0) ?_
  refine M7 A0 false 2 rfl rfl rfl Aa rfl (Af D0) ?_
  refine Aj [1,3] Aa ⟨?_,?_,trivial⟩
  focus
   refine go A0 false ?_
   conv=>whnf
   refine Ak ?_
   refine Aj [3] Aa ⟨?_,trivial⟩
   refine go A0 false ?_
   conv=>whnf
   refine Fg (E5 d t.1 t.2.1 4 ht.1 Bu) hH hp rfl Ca rfl rfl (fun r9 hr9=>go A0 false ?_)
   conv=>whnf
   have hk9:=hr9.2.2.2 Bu
   have hk8:=hr9.2.1
   refine Ak ?_
   refine Aj [4] Aa ⟨?_,trivial⟩
   refine go A0 false ?_
   conv=>whnf
   refine C35 A0 rfl rfl rfl rfl rfl rfl rfl rfl rfl ⟨hk8,by omega⟩ Ac _ rfl (Al ?_)
   refine Ak ?_
   refine M7 A0 false 5 rfl rfl rfl Aa rfl (Af D0) ?_
   refine Aj [6] Aa ⟨?_,trivial⟩
   refine go A0 false ?_
   conv=>whnf
   refine Ak ?_
   refine Ed Aa (Al ?_)
  rotate_left 1
  focus
   refine go A0 false ?_
   conv=>whnf
   refine Fg (E5 d t.1 t.2.1 4 ht.1 Bu) hH hp rfl Ca rfl rfl (fun r9 hr9=>go A0 false ?_)
   conv=>whnf
   have hk9:=hr9.2.2.2 Bu
   have hk8:=hr9.2.1
   refine Ak ?_
   refine Aj [1] Aa ⟨?_,trivial⟩
   refine go A0 false ?_
   conv=>whnf
   refine Ak ?_
   refine Aj [4] Aa ⟨?_,trivial⟩
   refine go A0 false ?_
   conv=>whnf
   refine C35 A0 rfl rfl rfl rfl rfl rfl rfl rfl rfl ⟨hk8,by omega⟩ Ac _ rfl (Al ?_)
   refine Ak ?_
   refine M7 A0 false 5 rfl rfl rfl Aa rfl (Af D0) ?_
   refine Aj [6] Aa ⟨?_,trivial⟩
   refine go A0 false ?_
   conv=>whnf
   refine Ak ?_
   refine Ed Aa (Al ?_)
  all_goals
   refine To 12 (F1 (r.2.2.sums.take r9.2.2.toNat)) rfl (C18 (es:=1) (e:=fun n=>[vi n]) (xs:=r.2.2.sums) (m:=r9.2.2.toNat) Ac) ?_
   exact Kk A0 (r9.1,r9.2.1,⟨r.2.2.queue,r.2.2.staged,r.2.2.inputs,r.2.2.cells,r.2.2.sums.take r9.2.2.toNat,r.2.2.black,r.2.2.caps,r.2.2.dones⟩) ⟨hr9.1,C14 hxw (by simp only [Ab.w,List.length_take];omega)⟩ rfl rfl rfl rfl Ca
 repeat refine Bi ?_
 refine ⟨fun c3=>?_,fun c3=>?_⟩<;>conv=>whnf
 ·refine A8a rfl ?_
  refine M7 A0 false 0 rfl rfl rfl Aa rfl (Af D0) ?_
  refine M7 A0 false 2 rfl rfl rfl Aa rfl (Af D0) ?_
  refine Aj [1,3] Aa ⟨?_,?_,trivial⟩
  focus
   refine go A0 false ?_
   conv=>whnf
   refine Ak ?_
   refine Aj [3] Aa ⟨?_,trivial⟩
   refine go A0 false ?_
   conv=>whnf
   refine Ak ?_
   refine Aj [4] Aa ⟨?_,trivial⟩
   refine go A0 false ?_
   conv=>whnf
   refine O2 12 (F1 [1000000,1000001,-1000001]) rfl (Db rfl C38) ?_
   refine Fg (A57 d t.1 t.2.1 [1000000,1000001,-1000001] ht.1 Bu) hH hp rfl Ca rfl rfl (fun r9 hr9=>go A0 false ?_)
   conv=>whnf
   refine Ak ?_
   refine Aj [5] Aa ⟨?_,trivial⟩
   refine go A0 false ?_
   conv=>whnf
   (repeat refine Ar ?_)
   refine Ak ?_
   refine Aj [6] Aa ⟨?_,trivial⟩
   refine go A0 false ?_
   conv=>whnf
   refine D7 (j:=0) A0 rfl rfl rfl rfl rfl rfl rfl rfl _ (E4 (j:=0) (xs:=r.2.2.sums) (e:=fun n=>[vi n]) (x:=[1000000,1000001,-1000001].getD r9.2.2 0) Ac rfl) (Al ?_)
   refine Ak ?_
   refine Ed Aa (Al ?_)
  rotate_left 1
  focus
   refine go A0 false ?_
   conv=>whnf
   refine Ak ?_
   refine Aj [1,4] Aa ⟨?_,?_,trivial⟩
   focus
    refine go A0 false ?_
    conv=>whnf
    refine Ak ?_
    refine Aj [4] Aa ⟨?_,trivial⟩
    refine go A0 false ?_
    conv=>whnf
    refine O2 12 (F1 [1000000,1000001,-1000001]) rfl (Db rfl C38) ?_
    refine Fg (A57 d t.1 t.2.1 [1000000,1000001,-1000001] ht.1 Bu) hH hp rfl Ca rfl rfl (fun r9 hr9=>go A0 false ?_)
    conv=>whnf
    refine Ak ?_
    refine Aj [5] Aa ⟨?_,trivial⟩
    refine go A0 false ?_
    conv=>whnf
    (repeat refine Ar ?_)
    refine Ak ?_
    refine Aj [6] Aa ⟨?_,trivial⟩
    refine go A0 false ?_
    conv=>whnf
    refine D7 (j:=0) A0 rfl rfl rfl rfl rfl rfl rfl rfl _ (E4 (j:=0) (xs:=r.2.2.sums) (e:=fun n=>[vi n]) (x:=[1000000,1000001,-1000001].getD r9.2.2 0) Ac rfl) (Al ?_)
    refine Ak ?_
    refine Ed Aa (Al ?_)
   rotate_left 1
   focus
    refine go A0 false ?_
    conv=>whnf
    refine O2 12 (F1 [1000000,1000001,-1000001]) rfl (Db rfl C38) ?_
    refine Fg (A57 d t.1 t.2.1 [1000000,1000001,-1000001] ht.1 Bu) hH hp rfl Ca rfl rfl (fun r9 hr9=>go A0 false ?_)
    conv=>whnf
    refine Ak ?_
    refine Aj [1] Aa ⟨?_,trivial⟩
    refine go A0 false ?_
    conv=>whnf
    refine Ak ?_
    refine Aj [5] Aa ⟨?_,trivial⟩
    refine go A0 false ?_
    conv=>whnf
    (repeat refine Ar ?_)
    refine Ak ?_
    refine Aj [6] Aa ⟨?_,trivial⟩
    refine go A0 false ?_
    conv=>whnf
    refine D7 (j:=0) A0 rfl rfl rfl rfl rfl rfl rfl rfl _ (E4 (j:=0) (xs:=r.2.2.sums) (e:=fun n=>[vi n]) (x:=[1000000,1000001,-1000001].getD r9.2.2 0) Ac rfl) (Al ?_)
    refine Ak ?_
    refine Ed Aa (Al ?_)
  all_goals
   exact Kk A0 (r9.1,r9.2.1,⟨r.2.2.queue,r.2.2.staged,r.2.2.inputs,r.2.2.cells,r.2.2.sums.set 0 ([1000000,1000001,-1000001].getD r9.2.2 0),r.2.2.black,r.2.2.caps,r.2.2.dones⟩) ⟨hr9.1,C14 hxw (by simp only [Ab.w,List.length_set];omega)⟩ rfl rfl rfl rfl Ca
 repeat refine Bi ?_
 refine ⟨fun c4=>?_,fun c4=>?_⟩<;>conv=>whnf
 ·refine A8a rfl ?_
  refine M7 A0 false 0 rfl rfl rfl Aa rfl (Af D0) ?_
  refine M7 A0 false 2 rfl rfl rfl Aa rfl (Af D0) ?_
  refine Aj [1,3] Aa ⟨?_,?_,trivial⟩
  focus
   refine go A0 false ?_
   conv=>whnf
   refine Ak ?_
   refine Aj [3] Aa ⟨?_,trivial⟩
   refine go A0 false ?_
   conv=>whnf
   refine Fg (E5 d t.1 t.2.1 6 ht.1 Bu) hH hp rfl Ca rfl rfl (fun r9 hr9=>go A0 false ?_)
   conv=>whnf
   refine Ak ?_
   refine M7 A0 false 4 rfl rfl rfl Aa rfl (Af D0) ?_
   refine Aj [5] Aa ⟨?_,trivial⟩
   refine go A0 false ?_
   conv=>whnf
   refine Ak ?_
   refine Aj [6] Aa ⟨?_,trivial⟩
   refine go A0 false ?_
   conv=>whnf
   refine Ak ?_
   refine Aj [7] Aa ⟨?_,trivial⟩
   refine go A0 false ?_
   conv=>whnf
   refine Dp A0 rfl rfl rfl rfl rfl rfl rfl rfl rfl rfl rfl (Jn (r.2.2.dones++[⟨r9.2.2-1,false⟩])) (Bf rfl) M1 Ac (Al ?_)
   refine Ak ?_
   refine M7 A0 false 8 rfl rfl rfl Aa rfl (Af D0) ?_
   refine Aj [9] Aa ⟨?_,trivial⟩
   refine go A0 false ?_
   conv=>whnf
   refine Ak ?_
   refine Ed Aa (Al ?_)
  rotate_left 1
  focus
   refine go A0 false ?_
   conv=>whnf
   refine Fg (E5 d t.1 t.2.1 6 ht.1 Bu) hH hp rfl Ca rfl rfl (fun r9 hr9=>go A0 false ?_)
   conv=>whnf
   refine Ak ?_
   refine M7 A0 false 4 rfl rfl rfl Aa rfl (Af D0) ?_
   refine Aj [1,5] Aa ⟨?_,?_,trivial⟩
   focus
    refine go A0 false ?_
    conv=>whnf
    refine Ak ?_
    refine Aj [5] Aa ⟨?_,trivial⟩
    refine go A0 false ?_
    conv=>whnf
    refine Ak ?_
    refine Aj [6] Aa ⟨?_,trivial⟩
    refine go A0 false ?_
    conv=>whnf
    refine Ak ?_
    refine Aj [7] Aa ⟨?_,trivial⟩
    refine go A0 false ?_
    conv=>whnf
    refine Dp A0 rfl rfl rfl rfl rfl rfl rfl rfl rfl rfl rfl (Jn (r.2.2.dones++[⟨r9.2.2-1,false⟩])) (Bf rfl) M1 Ac (Al ?_)
    refine Ak ?_
    refine M7 A0 false 8 rfl rfl rfl Aa rfl (Af D0) ?_
    refine Aj [9] Aa ⟨?_,trivial⟩
    refine go A0 false ?_
    conv=>whnf
    refine Ak ?_
    refine Ed Aa (Al ?_)
   rotate_left 1
   focus
    refine go A0 false ?_
    conv=>whnf
    refine Ak ?_
    refine Aj [1,6] Aa ⟨?_,?_,trivial⟩
    focus
     refine go A0 false ?_
     conv=>whnf
     refine Ak ?_
     refine Aj [6] Aa ⟨?_,trivial⟩
     refine go A0 false ?_
     conv=>whnf
     refine Ak ?_
     refine Aj [7] Aa ⟨?_,trivial⟩
     refine go A0 false ?_
     conv=>whnf
     refine Dp A0 rfl rfl rfl rfl rfl rfl rfl rfl rfl rfl rfl (Jn (r.2.2.dones++[⟨r9.2.2-1,false⟩])) (Bf rfl) M1 Ac (Al ?_)
     refine Ak ?_
     refine M7 A0 false 8 rfl rfl rfl Aa rfl (Af D0) ?_
     refine Aj [9] Aa ⟨?_,trivial⟩
     refine go A0 false ?_
     conv=>whnf
     refine Ak ?_
     refine Ed Aa (Al ?_)
    rotate_left 1
    focus
     refine go A0 false ?_
     conv=>whnf
     refine Ak ?_
     refine Aj [1] Aa ⟨?_,trivial⟩
     refine go A0 false ?_
     conv=>whnf
     refine Ak ?_
     refine Aj [7] Aa ⟨?_,trivial⟩
     refine go A0 false ?_
     conv=>whnf
     refine Dp A0 rfl rfl rfl rfl rfl rfl rfl rfl rfl rfl rfl (Jn (r.2.2.dones++[⟨r9.2.2-1,false⟩])) (Bf rfl) M1 Ac (Al ?_)
     refine Ak ?_
     refine M7 A0 false 8 rfl rfl rfl Aa rfl (Af D0) ?_
     refine Aj [9] Aa ⟨?_,trivial⟩
     refine go A0 false ?_
     conv=>whnf
     refine Ak ?_
     refine Ed Aa (Al ?_)
  all_goals
   exact Kk A0 (r9.1,r9.2.1,⟨r.2.2.queue,r.2.2.staged,r.2.2.inputs,r.2.2.cells,r.2.2.sums,r.2.2.black,r.2.2.caps,r.2.2.dones++[⟨r9.2.2-1,false⟩]⟩) ⟨hr9.1,C14 hxw B16⟩ rfl rfl rfl rfl Ca
 repeat refine Bi ?_
 refine ⟨fun c5=>?_,fun c5=>?_⟩<;>conv=>whnf
 ·refine Fg (E5 d t.1 t.2.1 2 ht.1 Bu) hH hp rfl Ca rfl rfl (fun r9 hr9=>go A0 false ?_)
  conv=>whnf
  refine To 12 (Jn [⟨1,false⟩,⟨r9.2.2,true⟩]) rfl (Jg rfl Bj) ?_
  exact Kk A0 (r9.1,r9.2.1,⟨r.2.2.queue,r.2.2.staged,r.2.2.inputs,r.2.2.cells,r.2.2.sums,r.2.2.black,r.2.2.caps,[⟨1,false⟩,⟨r9.2.2,true⟩]⟩) ⟨hr9.1,C14 hxw (by simp only [Ab.w,List.length_cons,List.length_nil];omega)⟩ rfl rfl rfl rfl Ca
 repeat refine Bi ?_
 refine ⟨fun c6=>?_,fun c6=>?_⟩<;>conv=>whnf
 ·refine Dp A0 rfl rfl rfl rfl rfl rfl rfl rfl rfl rfl rfl (Gm (r.2.2.black++[true])) (Bf rfl) M1 Ac (Al ?_)
  exact Kk A0 (t.1,t.2.1,⟨r.2.2.queue,r.2.2.staged,r.2.2.inputs,r.2.2.cells,r.2.2.sums,r.2.2.black++[true],r.2.2.caps,r.2.2.dones⟩) ⟨ht.1,C14 hxw B16⟩ rfl rfl rfl rfl Ca
 repeat refine Bi ?_
 refine ⟨fun c7=>?_,fun c7=>?_⟩<;>conv=>whnf
 ·refine Dp A0 rfl rfl rfl rfl rfl rfl rfl rfl rfl rfl rfl (Ai (r.2.2.cells++[⟨0,0,0,0⟩])) (Bf rfl) M1 Ac (Al ?_)
  exact Kk A0 (t.1,t.2.1,⟨r.2.2.queue,r.2.2.staged,r.2.2.inputs,r.2.2.cells++[⟨0,0,0,0⟩],r.2.2.sums,r.2.2.black,r.2.2.caps,r.2.2.dones⟩) ⟨ht.1,C14 hxw B16⟩ rfl rfl rfl rfl Ca
 ·repeat refine Bi ?_
  exact Kk A0 (t.1,t.2.1,r.2.2) ⟨ht.1,by show r.2.2.w≤100;omega⟩ rfl rfl rfl rfl Ca
theorem Un {l:C2}{r:A5}(h:¬ A2s l r):Dn l r=(l,false):=if_neg h
theorem B49 {l:C2}{r:A5}(h:A2s l r):Dn l r=(⟨l.cap,l.queue++[r],l.credits-1,l.back,l.sent+1,l.got⟩,true):=if_pos h
theorem A2g {l:C2}(h:¬ (Gy l∧0<l.queue.length)):At l=(l,default,false):=if_neg h
theorem A5j {l:C2}(h:Gy l∧0<l.queue.length):At l=(⟨l.cap,l.queue.drop 1,l.credits,l.back+1,l.sent,l.got+1⟩,l.queue.getD 0 default,true):=if_pos h
theorem A78 {l:C2}(h:¬ (Gy l∧l.back≠0)):Bn l=(l,false):=if_neg h
theorem B2u {l:C2}(h:Gy l∧l.back≠0):Bn l=(⟨l.cap,l.queue,l.credits+1,l.back-1,l.sent,l.got⟩,true):=if_pos h
set_option maxHeartbeats 1000000 in
theorem C02 (l:C2)(r:A5)(hl:l.w≤16777216):B0 Tryz.prog 127 [.agg l.c,.agg r.c] [.agg (Dn l r).1.c,.one (vb (Dn l r).2)]:=by
 have hq:l.queue.length≤16777216:=hl
 refine Ay A0 false Tryz.func127 rfl Bu fun W=>?_
 conv=>whnf
 refine B4 (B98 l Ac) rfl (Al ?_)
 refine Aw (C00 l Ac) rfl (Al ?_)
 refine ⟨fun h1=>?_,fun h1=>?_⟩<;>conv=>whnf
 ·have h1:Nm l=false:=by simpa using h1
  repeat refine Bi ?_
  rw [Un (fun p=>absurd p.1 (of_decide_eq_false h1))]
  refine Ao A0 rfl rfl ?_
  exact Ca
 have h1:Gy l:=of_decide_eq_true (show Nm l=true by simpa using h1)
 obtain ⟨⟨n1,n2,n3,n4,n5,n6,n7⟩,nA⟩:=id h1
 repeat refine Bi ?_
 refine Aw (A19 r) rfl (Al ?_)
 repeat refine Bi ?_
 refine ⟨fun h2=>?_,fun h2=>?_⟩<;>conv=>whnf
 ·have h2:F9 r=false:=by simpa using h2
  repeat refine Bi ?_
  rw [Un (fun p=>absurd p.2.1 (of_decide_eq_false h2))]
  refine Ao A0 rfl rfl ?_
  exact Ca
 have h2:Ja r:=of_decide_eq_true (show F9 r=true by simpa using h2)
 repeat refine Bi ?_
 refine ⟨fun h3=>have h3:=eq_of_beq h3;?_,fun h3=>have h3:=beq_eq_false_iff_ne.1 h3;?_⟩<;>conv=>whnf
 ·repeat refine Bi ?_
  rw [Un (fun p=>p.2.2.1 h3)]
  refine Ao A0 rfl rfl ?_
  exact Ca
 repeat refine Bi ?_
 refine ⟨fun h4=>?_,fun h4=>?_⟩<;>conv=>whnf
 ·have h4:l.sent=1000000000:=by (have:=of_decide_eq_true h4;omega)
  repeat refine Bi ?_
  rw [Un (fun p=>p.2.2.2 h4)]
  refine Ao A0 rfl rfl ?_
  exact Ca
 have h4:l.sent≠1000000000:=by (have:=of_decide_eq_false h4;omega)
 repeat refine Bi ?_
 refine Dp A0 rfl rfl rfl rfl rfl rfl rfl rfl rfl rfl rfl (Ax (l.queue++[r])) (Bf rfl) M1 Ac (Al ?_)
 (repeat refine Ar ?_)
 rw [B49 ⟨h1,h2,h3,h4⟩]
 refine Ao A0 rfl rfl ?_
 exact Ca
set_option maxHeartbeats 1000000 in
theorem C1t (l:C2)(hl:l.w≤16777216):B0 Tryz.prog 187 [.agg l.c] [.agg (At l).1.c,.agg (At l).2.1.c,.one (vb (At l).2.2)]:=by
 have hq:l.queue.length≤16777216:=hl
 refine Ay A0 false Tryz.func187 rfl Bu fun W=>?_
 conv=>whnf
 refine B4 (B98 l Ac) rfl (Al ?_)
 refine Aw (C00 l Ac) rfl (Al ?_)
 refine ⟨fun h1=>?_,fun h1=>?_⟩<;>conv=>whnf
 ·have h1:Nm l=false:=by simpa using h1
  repeat refine Bi ?_
  rw [A2g (fun p=>absurd p.1 (of_decide_eq_false h1))]
  refine Ao A0 rfl rfl ?_
  exact Ca
 have h1:Gy l:=of_decide_eq_true (show Nm l=true by simpa using h1)
 obtain ⟨⟨n1,n2,n3,n4,n5,n6,n7⟩,nA⟩:=id h1
 repeat refine Bi ?_
 refine ⟨fun h2=>have h2:=eq_of_beq h2;?_,fun h2=>have h2:=beq_eq_false_iff_ne.1 h2;?_⟩<;>conv=>whnf
 ·repeat refine Bi ?_
  rw [A2g (fun p=>by omega)]
  refine Ao A0 rfl rfl ?_
  exact Ca
 have h2:0<l.queue.length:=by omega
 repeat refine Bi ?_
 (repeat refine Ar ?_)
 refine B5k A0 rfl rfl rfl rfl rfl rfl rfl rfl (l:=1) rfl rfl (⟨by omega,by omega,by omega⟩) (Ax (l.queue.drop 1)) (Lf (k:=1) h2) (Al ?_)
 refine Dp A0 rfl rfl rfl rfl rfl rfl rfl rfl rfl rfl rfl (Ax (l.queue.drop 1)) (Eh) (fun _=>B0d _) (by (rw [List.length_drop];omega)) (Al ?_)
 (repeat refine Ar ?_)
 refine Jc rfl ?_
 refine Do (s':=?_) 0 rfl Aa ?_ ?_
 rotate_left
 refine go A0 false ?_
 conv=>whnf
 (repeat refine Ar ?_)
 exact Bd
 refine Cm [1,2] Aa ⟨?_,?_,trivial⟩
 focus
  refine go A0 false ?_
  conv=>whnf
  (repeat refine Ar ?_)
  refine Cu ?_
  refine Cm [2] Aa ⟨?_,trivial⟩
  refine go A0 false ?_
  conv=>whnf
  (repeat refine Ar ?_)
  refine Cu ?_
  refine Cm [3] Aa ⟨?_,trivial⟩
  refine go A0 false ?_
  conv=>whnf
  (repeat refine Ar ?_)
  refine Cu ?_
  refine Ct A0 false 4 rfl rfl Aa rfl (Af D0) ?_
  refine Hu Aa (Al ?_)
 rotate_left 1
 focus
  refine go A0 false ?_
  conv=>whnf
  (repeat refine Ar ?_)
  refine Cu ?_
  refine Do (s':=?_) 1 rfl Aa ?_ ?_
  rotate_left
  refine go A0 false ?_
  conv=>whnf
  (repeat refine Ar ?_)
  exact Bd
  refine Cm [3] Aa ⟨?_,trivial⟩
  refine go A0 false ?_
  conv=>whnf
  (repeat refine Ar ?_)
  refine Cu ?_
  refine Ct A0 false 4 rfl rfl Aa rfl (Af D0) ?_
  refine Hu Aa (Al ?_)
 all_goals
  rw [A5j ⟨h1,h2⟩]
  refine Ao A0 rfl rfl ?_
  exact Ca
theorem C07 (l:C2)(hl:l.w≤16777216):B0 Tryz.prog 188 [.agg l.c] [.agg (Bn l).1.c,.one (vb (Bn l).2)]:=by
 refine Ay A0 false Tryz.func188 rfl Bu fun W=>?_
 conv=>whnf
 refine B4 (B98 l Ac) rfl (Al ?_)
 refine Aw (C00 l Ac) rfl (Al ?_)
 refine ⟨fun h1=>?_,fun h1=>?_⟩<;>conv=>whnf
 ·have h1:Nm l=false:=by simpa using h1
  repeat refine Bi ?_
  rw [A78 (fun p=>absurd p.1 (of_decide_eq_false h1))]
  refine Ao A0 rfl rfl ?_
  exact Ca
 have h1:Gy l:=of_decide_eq_true (show Nm l=true by simpa using h1)
 obtain ⟨⟨n1,n2,n3,n4,n5,n6,n7⟩,nA⟩:=id h1
 repeat refine Bi ?_
 refine ⟨fun h2=>have h2:=eq_of_beq h2;?_,fun h2=>have h2:=beq_eq_false_iff_ne.1 h2;?_⟩<;>conv=>whnf
 ·repeat refine Bi ?_
  rw [A78 (fun p=>p.2 h2)]
  refine Ao A0 rfl rfl ?_
  exact Ca
 repeat refine Bi ?_
 (repeat refine Ar ?_)
 rw [B2u ⟨h1,h2⟩]
 refine Ao A0 rfl rfl ?_
 exact Ca
end Go.Proofs.YtonodkjaoalfjaaGreat
