/- Part 18 of the proof that each of the laws FnStalls returns true for every input. No conditions. -/
import Derived.Test.YtonodkjaoalfjaaGreatP14
import Derived.Test.YtonodkjaoalfjaaGreatP17
import Derived.Test.YtonodkjaoalfjaaGreatP11
import Derived.Test.YtonodkjaoalfjaaGreatP8
import Derived.Test.YtonodkjaoalfjaaGreatP9

set_option linter.unusedSimpArgs false
set_option linter.unusedVariables false
set_option maxRecDepth 100000
namespace Go.Proofs.YtonodkjaoalfjaaGreat
open Go.Sx
theorem C12 (n:Int):B0 Tryz.prog 91 [.one (vi n)] [.agg (Gv n).c]:=by
 refine Ay A0 false Tryz.func91 rfl Bu fun W=>?_
 conv=>whnf
 refine Aw (A46 n 1 4) rfl (Al ?_)
 refine Ao A0 rfl rfl ?_
 exact Ca
theorem W2 {α:Type} [Inhabited α] (x:α)(n i:Nat)(h:x=default):(List.replicate n x).getD i default=x:=by
 simp only [List.getD,List.getElem?_replicate]
 split
 ·rfl
 ·exact h.symm
theorem B6t:(A8.sl 4 1 fun _=>[.val (.int .i64 0)])=F1 (List.replicate 4 0):=congrArg (A8.sl 4 1) (funext fun i=>by rw [W2 (0:Int) 4 i rfl])
theorem A31:(A8.sl 4 1 fun _=>[.val (.bool false)])=Gm (List.replicate 4 false):=congrArg (A8.sl 4 1) (funext fun i=>by rw [W2 false 4 i rfl])
theorem Kl:(A8.sl 4 5 fun _=>[.val (.bool false),.val (.int .i64 0),.val (.int .i64 0),.val (.bool false),.val (.bool false)])=C0 (List.replicate 4 default):=congrArg (A8.sl 4 5) (funext fun i=>by rw [W2 (default:Es) 4 i rfl];rfl)
def Mr (xs:List A5):Ab:=⟨[],[],xs,[],List.replicate 4 0,List.replicate 4 false,List.replicate 4 false,[]⟩
set_option maxHeartbeats 1600000 in
theorem C1i (xs:List A5)(hx:xs.length≤16777216):B0 Tryz.prog 89 [.one (Ax xs)] [.agg (Mr xs).c]:=by
 refine Ay A0 false Tryz.func89 rfl Bu fun W=>?_
 conv=>whnf
 refine A8a rfl ?_
 refine M7 A0 false 1 rfl rfl rfl Aa rfl (Af D0) ?_
 refine M7 A0 false 3 rfl rfl rfl Aa rfl (Af D0) ?_
 refine M7 A0 false 5 rfl rfl rfl Aa rfl (Af D0) ?_
 refine M7 A0 false 7 rfl rfl rfl Aa rfl (Af D0) ?_
 refine Aj [0,4,6,8] Aa ⟨?_,?_,?_,?_,trivial⟩
 focus
  refine go A0 false ?_
  conv=>whnf
  refine Ak ?_
  refine Aj [2,4,6,8] Aa ⟨?_,?_,?_,?_,trivial⟩
  focus
   refine go A0 false ?_
   conv=>whnf
   refine Dp A0 rfl rfl rfl rfl rfl rfl rfl rfl rfl rfl rfl (Ax xs) (Eh) (fun _=>B0d xs) Ac (Al ?_)
   refine Ak ?_
   refine Aj [4,6,8] Aa ⟨?_,?_,?_,trivial⟩
   focus
    refine go A0 false ?_
    conv=>whnf
    (repeat refine Ar ?_)
    refine Ak ?_
    refine Aj [6,8] Aa ⟨?_,?_,trivial⟩
    focus
     refine go A0 false ?_
     conv=>whnf
     (repeat refine Ar ?_)
     refine Ak ?_
     refine Aj [8] Aa ⟨?_,trivial⟩
     refine go A0 false ?_
     conv=>whnf
     (repeat refine Ar ?_)
     refine Ak ?_
     refine Aj [9] Aa ⟨?_,trivial⟩
     refine go A0 false ?_
     conv=>whnf
     refine Ak ?_
     refine Aj [10] Aa ⟨?_,trivial⟩
     refine go A0 false ?_
     conv=>whnf
     refine Ak ?_
     refine Ed Aa (Al ?_)
    rotate_left 1
    focus
     refine go A0 false ?_
     conv=>whnf
     (repeat refine Ar ?_)
     refine Ak ?_
     refine Aj [6] Aa ⟨?_,trivial⟩
     refine go A0 false ?_
     conv=>whnf
     (repeat refine Ar ?_)
     refine Ak ?_
     refine Aj [9] Aa ⟨?_,trivial⟩
     refine go A0 false ?_
     conv=>whnf
     refine Ak ?_
     refine Aj [10] Aa ⟨?_,trivial⟩
     refine go A0 false ?_
     conv=>whnf
     refine Ak ?_
     refine Ed Aa (Al ?_)
   rotate_left 2
   focus
    refine go A0 false ?_
    conv=>whnf
    (repeat refine Ar ?_)
    refine Ak ?_
    refine Aj [4,8] Aa ⟨?_,?_,trivial⟩
    focus
     refine go A0 false ?_
     conv=>whnf
     (repeat refine Ar ?_)
     refine Ak ?_
     refine Aj [8] Aa ⟨?_,trivial⟩
     refine go A0 false ?_
     conv=>whnf
     (repeat refine Ar ?_)
     refine Ak ?_
     refine Aj [9] Aa ⟨?_,trivial⟩
     refine go A0 false ?_
     conv=>whnf
     refine Ak ?_
     refine Aj [10] Aa ⟨?_,trivial⟩
     refine go A0 false ?_
     conv=>whnf
     refine Ak ?_
     refine Ed Aa (Al ?_)
    rotate_left 1
    focus
     refine go A0 false ?_
     conv=>whnf
     (repeat refine Ar ?_)
     refine Ak ?_
     refine Aj [4] Aa ⟨?_,trivial⟩
     refine go A0 false ?_
     conv=>whnf
     (repeat refine Ar ?_)
     refine Ak ?_
     refine Aj [9] Aa ⟨?_,trivial⟩
     refine go A0 false ?_
     conv=>whnf
     refine Ak ?_
     refine Aj [10] Aa ⟨?_,trivial⟩
     refine go A0 false ?_
     conv=>whnf
     refine Ak ?_
     refine Ed Aa (Al ?_)
   rotate_left 2
   focus
    refine go A0 false ?_
    conv=>whnf
    (repeat refine Ar ?_)
    refine Ak ?_
    refine Aj [4,6] Aa ⟨?_,?_,trivial⟩
    focus
     refine go A0 false ?_
     conv=>whnf
     (repeat refine Ar ?_)
     refine Ak ?_
     refine Aj [6] Aa ⟨?_,trivial⟩
     refine go A0 false ?_
     conv=>whnf
     (repeat refine Ar ?_)
     refine Ak ?_
     refine Aj [9] Aa ⟨?_,trivial⟩
     refine go A0 false ?_
     conv=>whnf
     refine Ak ?_
     refine Aj [10] Aa ⟨?_,trivial⟩
     refine go A0 false ?_
     conv=>whnf
     refine Ak ?_
     refine Ed Aa (Al ?_)
    rotate_left 1
    focus
     refine go A0 false ?_
     conv=>whnf
     (repeat refine Ar ?_)
     refine Ak ?_
     refine Aj [4] Aa ⟨?_,trivial⟩
     refine go A0 false ?_
     conv=>whnf
     (repeat refine Ar ?_)
     refine Ak ?_
     refine Aj [9] Aa ⟨?_,trivial⟩
     refine go A0 false ?_
     conv=>whnf
     refine Ak ?_
     refine Aj [10] Aa ⟨?_,trivial⟩
     refine go A0 false ?_
     conv=>whnf
     refine Ak ?_
     refine Ed Aa (Al ?_)
  rotate_left 6
  focus
   refine go A0 false ?_
   conv=>whnf
   (repeat refine Ar ?_)
   refine Ak ?_
   refine Aj [2,6,8] Aa ⟨?_,?_,?_,trivial⟩
   focus
    refine go A0 false ?_
    conv=>whnf
    refine Dp A0 rfl rfl rfl rfl rfl rfl rfl rfl rfl rfl rfl (Ax xs) (Eh) (fun _=>B0d xs) Ac (Al ?_)
    refine Ak ?_
    refine Aj [6,8] Aa ⟨?_,?_,trivial⟩
    focus
     refine go A0 false ?_
     conv=>whnf
     (repeat refine Ar ?_)
     refine Ak ?_
     refine Aj [8] Aa ⟨?_,trivial⟩
     refine go A0 false ?_
     conv=>whnf
     (repeat refine Ar ?_)
     refine Ak ?_
     refine Aj [9] Aa ⟨?_,trivial⟩
     refine go A0 false ?_
     conv=>whnf
     refine Ak ?_
     refine Aj [10] Aa ⟨?_,trivial⟩
     refine go A0 false ?_
     conv=>whnf
     refine Ak ?_
     refine Ed Aa (Al ?_)
    rotate_left 1
    focus
     refine go A0 false ?_
     conv=>whnf
     (repeat refine Ar ?_)
     refine Ak ?_
     refine Aj [6] Aa ⟨?_,trivial⟩
     refine go A0 false ?_
     conv=>whnf
     (repeat refine Ar ?_)
     refine Ak ?_
     refine Aj [9] Aa ⟨?_,trivial⟩
     refine go A0 false ?_
     conv=>whnf
     refine Ak ?_
     refine Aj [10] Aa ⟨?_,trivial⟩
     refine go A0 false ?_
     conv=>whnf
     refine Ak ?_
     refine Ed Aa (Al ?_)
   rotate_left 2
   focus
    refine go A0 false ?_
    conv=>whnf
    (repeat refine Ar ?_)
    refine Ak ?_
    refine Aj [2,8] Aa ⟨?_,?_,trivial⟩
    focus
     refine go A0 false ?_
     conv=>whnf
     refine Dp A0 rfl rfl rfl rfl rfl rfl rfl rfl rfl rfl rfl (Ax xs) (Eh) (fun _=>B0d xs) Ac (Al ?_)
     refine Ak ?_
     refine Aj [8] Aa ⟨?_,trivial⟩
     refine go A0 false ?_
     conv=>whnf
     (repeat refine Ar ?_)
     refine Ak ?_
     refine Aj [9] Aa ⟨?_,trivial⟩
     refine go A0 false ?_
     conv=>whnf
     refine Ak ?_
     refine Aj [10] Aa ⟨?_,trivial⟩
     refine go A0 false ?_
     conv=>whnf
     refine Ak ?_
     refine Ed Aa (Al ?_)
    rotate_left 1
    focus
     refine go A0 false ?_
     conv=>whnf
     (repeat refine Ar ?_)
     refine Ak ?_
     refine Aj [2] Aa ⟨?_,trivial⟩
     refine go A0 false ?_
     conv=>whnf
     refine Dp A0 rfl rfl rfl rfl rfl rfl rfl rfl rfl rfl rfl (Ax xs) (Eh) (fun _=>B0d xs) Ac (Al ?_)
     refine Ak ?_
     refine Aj [9] Aa ⟨?_,trivial⟩
     refine go A0 false ?_
     conv=>whnf
     refine Ak ?_
     refine Aj [10] Aa ⟨?_,trivial⟩
     refine go A0 false ?_
     conv=>whnf
     refine Ak ?_
     refine Ed Aa (Al ?_)
   rotate_left 2
   focus
    refine go A0 false ?_
    conv=>whnf
    (repeat refine Ar ?_)
    refine Ak ?_
    refine Aj [2,6] Aa ⟨?_,?_,trivial⟩
    focus
     refine go A0 false ?_
     conv=>whnf
     refine Dp A0 rfl rfl rfl rfl rfl rfl rfl rfl rfl rfl rfl (Ax xs) (Eh) (fun _=>B0d xs) Ac (Al ?_)
     refine Ak ?_
     refine Aj [6] Aa ⟨?_,trivial⟩
     refine go A0 false ?_
     conv=>whnf
     (repeat refine Ar ?_)
     refine Ak ?_
     refine Aj [9] Aa ⟨?_,trivial⟩
     refine go A0 false ?_
     conv=>whnf
     refine Ak ?_
     refine Aj [10] Aa ⟨?_,trivial⟩
     refine go A0 false ?_
     conv=>whnf
     refine Ak ?_
     refine Ed Aa (Al ?_)
    rotate_left 1
    focus
     refine go A0 false ?_
     conv=>whnf
     (repeat refine Ar ?_)
     refine Ak ?_
     refine Aj [2] Aa ⟨?_,trivial⟩
     refine go A0 false ?_
     conv=>whnf
     refine Dp A0 rfl rfl rfl rfl rfl rfl rfl rfl rfl rfl rfl (Ax xs) (Eh) (fun _=>B0d xs) Ac (Al ?_)
     refine Ak ?_
     refine Aj [9] Aa ⟨?_,trivial⟩
     refine go A0 false ?_
     conv=>whnf
     refine Ak ?_
     refine Aj [10] Aa ⟨?_,trivial⟩
     refine go A0 false ?_
     conv=>whnf
     refine Ak ?_
     refine Ed Aa (Al ?_)
  rotate_left 6
  focus
   refine go A0 false ?_
   conv=>whnf
   (repeat refine Ar ?_)
   refine Ak ?_
   refine Aj [2,4,8] Aa ⟨?_,?_,?_,trivial⟩
   focus
    refine go A0 false ?_
    conv=>whnf
    refine Dp A0 rfl rfl rfl rfl rfl rfl rfl rfl rfl rfl rfl (Ax xs) (Eh) (fun _=>B0d xs) Ac (Al ?_)
    refine Ak ?_
    refine Aj [4,8] Aa ⟨?_,?_,trivial⟩
    focus
     refine go A0 false ?_
     conv=>whnf
     (repeat refine Ar ?_)
     refine Ak ?_
     refine Aj [8] Aa ⟨?_,trivial⟩
     refine go A0 false ?_
     conv=>whnf
     (repeat refine Ar ?_)
     refine Ak ?_
     refine Aj [9] Aa ⟨?_,trivial⟩
     refine go A0 false ?_
     conv=>whnf
     refine Ak ?_
     refine Aj [10] Aa ⟨?_,trivial⟩
     refine go A0 false ?_
     conv=>whnf
     refine Ak ?_
     refine Ed Aa (Al ?_)
    rotate_left 1
    focus
     refine go A0 false ?_
     conv=>whnf
     (repeat refine Ar ?_)
     refine Ak ?_
     refine Aj [4] Aa ⟨?_,trivial⟩
     refine go A0 false ?_
     conv=>whnf
     (repeat refine Ar ?_)
     refine Ak ?_
     refine Aj [9] Aa ⟨?_,trivial⟩
     refine go A0 false ?_
     conv=>whnf
     refine Ak ?_
     refine Aj [10] Aa ⟨?_,trivial⟩
     refine go A0 false ?_
     conv=>whnf
     refine Ak ?_
     refine Ed Aa (Al ?_)
   rotate_left 2
   focus
    refine go A0 false ?_
    conv=>whnf
    (repeat refine Ar ?_)
    refine Ak ?_
    refine Aj [2,8] Aa ⟨?_,?_,trivial⟩
    focus
     refine go A0 false ?_
     conv=>whnf
     refine Dp A0 rfl rfl rfl rfl rfl rfl rfl rfl rfl rfl rfl (Ax xs) (Eh) (fun _=>B0d xs) Ac (Al ?_)
     refine Ak ?_
     refine Aj [8] Aa ⟨?_,trivial⟩
     refine go A0 false ?_
     conv=>whnf
     (repeat refine Ar ?_)
     refine Ak ?_
     refine Aj [9] Aa ⟨?_,trivial⟩
     refine go A0 false ?_
     conv=>whnf
     refine Ak ?_
     refine Aj [10] Aa ⟨?_,trivial⟩
     refine go A0 false ?_
     conv=>whnf
     refine Ak ?_
     refine Ed Aa (Al ?_)
    rotate_left 1
    focus
     refine go A0 false ?_
     conv=>whnf
     (repeat refine Ar ?_)
     refine Ak ?_
     refine Aj [2] Aa ⟨?_,trivial⟩
     refine go A0 false ?_
     conv=>whnf
     refine Dp A0 rfl rfl rfl rfl rfl rfl rfl rfl rfl rfl rfl (Ax xs) (Eh) (fun _=>B0d xs) Ac (Al ?_)
     refine Ak ?_
     refine Aj [9] Aa ⟨?_,trivial⟩
     refine go A0 false ?_
     conv=>whnf
     refine Ak ?_
     refine Aj [10] Aa ⟨?_,trivial⟩
     refine go A0 false ?_
     conv=>whnf
     refine Ak ?_
     refine Ed Aa (Al ?_)
   rotate_left 2
   focus
    refine go A0 false ?_
    conv=>whnf
    (repeat refine Ar ?_)
    refine Ak ?_
    refine Aj [2,4] Aa ⟨?_,?_,trivial⟩
    focus
     refine go A0 false ?_
     conv=>whnf
     refine Dp A0 rfl rfl rfl rfl rfl rfl rfl rfl rfl rfl rfl (Ax xs) (Eh) (fun _=>B0d xs) Ac (Al ?_)
     refine Ak ?_
     refine Aj [4] Aa ⟨?_,trivial⟩
     refine go A0 false ?_
     conv=>whnf
     (repeat refine Ar ?_)
     refine Ak ?_
     refine Aj [9] Aa ⟨?_,trivial⟩
     refine go A0 false ?_
     conv=>whnf
     refine Ak ?_
     refine Aj [10] Aa ⟨?_,trivial⟩
     refine go A0 false ?_
     conv=>whnf
     refine Ak ?_
     refine Ed Aa (Al ?_)
    rotate_left 1
    focus
     refine go A0 false ?_
     conv=>whnf
     (repeat refine Ar ?_)
     refine Ak ?_
     refine Aj [2] Aa ⟨?_,trivial⟩
     refine go A0 false ?_
     conv=>whnf
     refine Dp A0 rfl rfl rfl rfl rfl rfl rfl rfl rfl rfl rfl (Ax xs) (Eh) (fun _=>B0d xs) Ac (Al ?_)
     refine Ak ?_
     refine Aj [9] Aa ⟨?_,trivial⟩
     refine go A0 false ?_
     conv=>whnf
     refine Ak ?_
     refine Aj [10] Aa ⟨?_,trivial⟩
     refine go A0 false ?_
     conv=>whnf
     refine Ak ?_
     refine Ed Aa (Al ?_)
  rotate_left 6
  focus
   refine go A0 false ?_
   conv=>whnf
   (repeat refine Ar ?_)
   refine Ak ?_
   refine Aj [2,4,6] Aa ⟨?_,?_,?_,trivial⟩
   focus
    refine go A0 false ?_
    conv=>whnf
    refine Dp A0 rfl rfl rfl rfl rfl rfl rfl rfl rfl rfl rfl (Ax xs) (Eh) (fun _=>B0d xs) Ac (Al ?_)
    refine Ak ?_
    refine Aj [4,6] Aa ⟨?_,?_,trivial⟩
    focus
     refine go A0 false ?_
     conv=>whnf
     (repeat refine Ar ?_)
     refine Ak ?_
     refine Aj [6] Aa ⟨?_,trivial⟩
     refine go A0 false ?_
     conv=>whnf
     (repeat refine Ar ?_)
     refine Ak ?_
     refine Aj [9] Aa ⟨?_,trivial⟩
     refine go A0 false ?_
     conv=>whnf
     refine Ak ?_
     refine Aj [10] Aa ⟨?_,trivial⟩
     refine go A0 false ?_
     conv=>whnf
     refine Ak ?_
     refine Ed Aa (Al ?_)
    rotate_left 1
    focus
     refine go A0 false ?_
     conv=>whnf
     (repeat refine Ar ?_)
     refine Ak ?_
     refine Aj [4] Aa ⟨?_,trivial⟩
     refine go A0 false ?_
     conv=>whnf
     (repeat refine Ar ?_)
     refine Ak ?_
     refine Aj [9] Aa ⟨?_,trivial⟩
     refine go A0 false ?_
     conv=>whnf
     refine Ak ?_
     refine Aj [10] Aa ⟨?_,trivial⟩
     refine go A0 false ?_
     conv=>whnf
     refine Ak ?_
     refine Ed Aa (Al ?_)
   rotate_left 2
   focus
    refine go A0 false ?_
    conv=>whnf
    (repeat refine Ar ?_)
    refine Ak ?_
    refine Aj [2,6] Aa ⟨?_,?_,trivial⟩
    focus
     refine go A0 false ?_
     conv=>whnf
     refine Dp A0 rfl rfl rfl rfl rfl rfl rfl rfl rfl rfl rfl (Ax xs) (Eh) (fun _=>B0d xs) Ac (Al ?_)
     refine Ak ?_
     refine Aj [6] Aa ⟨?_,trivial⟩
     refine go A0 false ?_
     conv=>whnf
     (repeat refine Ar ?_)
     refine Ak ?_
     refine Aj [9] Aa ⟨?_,trivial⟩
     refine go A0 false ?_
     conv=>whnf
     refine Ak ?_
     refine Aj [10] Aa ⟨?_,trivial⟩
     refine go A0 false ?_
     conv=>whnf
     refine Ak ?_
     refine Ed Aa (Al ?_)
    rotate_left 1
    focus
     refine go A0 false ?_
     conv=>whnf
     (repeat refine Ar ?_)
     refine Ak ?_
     refine Aj [2] Aa ⟨?_,trivial⟩
     refine go A0 false ?_
     conv=>whnf
     refine Dp A0 rfl rfl rfl rfl rfl rfl rfl rfl rfl rfl rfl (Ax xs) (Eh) (fun _=>B0d xs) Ac (Al ?_)
     refine Ak ?_
     refine Aj [9] Aa ⟨?_,trivial⟩
     refine go A0 false ?_
     conv=>whnf
     refine Ak ?_
     refine Aj [10] Aa ⟨?_,trivial⟩
     refine go A0 false ?_
     conv=>whnf
     refine Ak ?_
     refine Ed Aa (Al ?_)
   rotate_left 2
   focus
    refine go A0 false ?_
    conv=>whnf
    (repeat refine Ar ?_)
    refine Ak ?_
    refine Aj [2,4] Aa ⟨?_,?_,trivial⟩
    focus
     refine go A0 false ?_
     conv=>whnf
     refine Dp A0 rfl rfl rfl rfl rfl rfl rfl rfl rfl rfl rfl (Ax xs) (Eh) (fun _=>B0d xs) Ac (Al ?_)
     refine Ak ?_
     refine Aj [4] Aa ⟨?_,trivial⟩
     refine go A0 false ?_
     conv=>whnf
     (repeat refine Ar ?_)
     refine Ak ?_
     refine Aj [9] Aa ⟨?_,trivial⟩
     refine go A0 false ?_
     conv=>whnf
     refine Ak ?_
     refine Aj [10] Aa ⟨?_,trivial⟩
     refine go A0 false ?_
     conv=>whnf
     refine Ak ?_
     refine Ed Aa (Al ?_)
    rotate_left 1
    focus
     refine go A0 false ?_
     conv=>whnf
     (repeat refine Ar ?_)
     refine Ak ?_
     refine Aj [2] Aa ⟨?_,trivial⟩
     refine go A0 false ?_
     conv=>whnf
     refine Dp A0 rfl rfl rfl rfl rfl rfl rfl rfl rfl rfl rfl (Ax xs) (Eh) (fun _=>B0d xs) Ac (Al ?_)
     refine Ak ?_
     refine Aj [9] Aa ⟨?_,trivial⟩
     refine go A0 false ?_
     conv=>whnf
     refine Ak ?_
     refine Aj [10] Aa ⟨?_,trivial⟩
     refine go A0 false ?_
     conv=>whnf
     refine Ak ?_
     refine Ed Aa (Al ?_)
 rotate_left 24
 focus
  refine go A0 false ?_
  conv=>whnf
  (repeat refine Ar ?_)
  refine Ak ?_
  refine Aj [0,6,8] Aa ⟨?_,?_,?_,trivial⟩
  focus
   refine go A0 false ?_
   conv=>whnf
   refine Ak ?_
   refine Aj [2,6,8] Aa ⟨?_,?_,?_,trivial⟩
   focus
    refine go A0 false ?_
    conv=>whnf
    refine Dp A0 rfl rfl rfl rfl rfl rfl rfl rfl rfl rfl rfl (Ax xs) (Eh) (fun _=>B0d xs) Ac (Al ?_)
    refine Ak ?_
    refine Aj [6,8] Aa ⟨?_,?_,trivial⟩
    focus
     refine go A0 false ?_
     conv=>whnf
     (repeat refine Ar ?_)
     refine Ak ?_
     refine Aj [8] Aa ⟨?_,trivial⟩
     refine go A0 false ?_
     conv=>whnf
     (repeat refine Ar ?_)
     refine Ak ?_
     refine Aj [9] Aa ⟨?_,trivial⟩
     refine go A0 false ?_
     conv=>whnf
     refine Ak ?_
     refine Aj [10] Aa ⟨?_,trivial⟩
     refine go A0 false ?_
     conv=>whnf
     refine Ak ?_
     refine Ed Aa (Al ?_)
    rotate_left 1
    focus
     refine go A0 false ?_
     conv=>whnf
     (repeat refine Ar ?_)
     refine Ak ?_
     refine Aj [6] Aa ⟨?_,trivial⟩
     refine go A0 false ?_
     conv=>whnf
     (repeat refine Ar ?_)
     refine Ak ?_
     refine Aj [9] Aa ⟨?_,trivial⟩
     refine go A0 false ?_
     conv=>whnf
     refine Ak ?_
     refine Aj [10] Aa ⟨?_,trivial⟩
     refine go A0 false ?_
     conv=>whnf
     refine Ak ?_
     refine Ed Aa (Al ?_)
   rotate_left 2
   focus
    refine go A0 false ?_
    conv=>whnf
    (repeat refine Ar ?_)
    refine Ak ?_
    refine Aj [2,8] Aa ⟨?_,?_,trivial⟩
    focus
     refine go A0 false ?_
     conv=>whnf
     refine Dp A0 rfl rfl rfl rfl rfl rfl rfl rfl rfl rfl rfl (Ax xs) (Eh) (fun _=>B0d xs) Ac (Al ?_)
     refine Ak ?_
     refine Aj [8] Aa ⟨?_,trivial⟩
     refine go A0 false ?_
     conv=>whnf
     (repeat refine Ar ?_)
     refine Ak ?_
     refine Aj [9] Aa ⟨?_,trivial⟩
     refine go A0 false ?_
     conv=>whnf
     refine Ak ?_
     refine Aj [10] Aa ⟨?_,trivial⟩
     refine go A0 false ?_
     conv=>whnf
     refine Ak ?_
     refine Ed Aa (Al ?_)
    rotate_left 1
    focus
     refine go A0 false ?_
     conv=>whnf
     (repeat refine Ar ?_)
     refine Ak ?_
     refine Aj [2] Aa ⟨?_,trivial⟩
     refine go A0 false ?_
     conv=>whnf
     refine Dp A0 rfl rfl rfl rfl rfl rfl rfl rfl rfl rfl rfl (Ax xs) (Eh) (fun _=>B0d xs) Ac (Al ?_)
     refine Ak ?_
     refine Aj [9] Aa ⟨?_,trivial⟩
     refine go A0 false ?_
     conv=>whnf
     refine Ak ?_
     refine Aj [10] Aa ⟨?_,trivial⟩
     refine go A0 false ?_
     conv=>whnf
     refine Ak ?_
     refine Ed Aa (Al ?_)
   rotate_left 2
   focus
    refine go A0 false ?_
    conv=>whnf
    (repeat refine Ar ?_)
    refine Ak ?_
    refine Aj [2,6] Aa ⟨?_,?_,trivial⟩
    focus
     refine go A0 false ?_
     conv=>whnf
     refine Dp A0 rfl rfl rfl rfl rfl rfl rfl rfl rfl rfl rfl (Ax xs) (Eh) (fun _=>B0d xs) Ac (Al ?_)
     refine Ak ?_
     refine Aj [6] Aa ⟨?_,trivial⟩
     refine go A0 false ?_
     conv=>whnf
     (repeat refine Ar ?_)
     refine Ak ?_
     refine Aj [9] Aa ⟨?_,trivial⟩
     refine go A0 false ?_
     conv=>whnf
     refine Ak ?_
     refine Aj [10] Aa ⟨?_,trivial⟩
     refine go A0 false ?_
     conv=>whnf
     refine Ak ?_
     refine Ed Aa (Al ?_)
    rotate_left 1
    focus
     refine go A0 false ?_
     conv=>whnf
     (repeat refine Ar ?_)
     refine Ak ?_
     refine Aj [2] Aa ⟨?_,trivial⟩
     refine go A0 false ?_
     conv=>whnf
     refine Dp A0 rfl rfl rfl rfl rfl rfl rfl rfl rfl rfl rfl (Ax xs) (Eh) (fun _=>B0d xs) Ac (Al ?_)
     refine Ak ?_
     refine Aj [9] Aa ⟨?_,trivial⟩
     refine go A0 false ?_
     conv=>whnf
     refine Ak ?_
     refine Aj [10] Aa ⟨?_,trivial⟩
     refine go A0 false ?_
     conv=>whnf
     refine Ak ?_
     refine Ed Aa (Al ?_)
  rotate_left 6
  focus
   refine go A0 false ?_
   conv=>whnf
   (repeat refine Ar ?_)
   refine Ak ?_
   refine Aj [0,8] Aa ⟨?_,?_,trivial⟩
   focus
    refine go A0 false ?_
    conv=>whnf
    refine Ak ?_
    refine Aj [2,8] Aa ⟨?_,?_,trivial⟩
    focus
     refine go A0 false ?_
     conv=>whnf
     refine Dp A0 rfl rfl rfl rfl rfl rfl rfl rfl rfl rfl rfl (Ax xs) (Eh) (fun _=>B0d xs) Ac (Al ?_)
     refine Ak ?_
     refine Aj [8] Aa ⟨?_,trivial⟩
     refine go A0 false ?_
     conv=>whnf
     (repeat refine Ar ?_)
     refine Ak ?_
     refine Aj [9] Aa ⟨?_,trivial⟩
     refine go A0 false ?_
     conv=>whnf
     refine Ak ?_
     refine Aj [10] Aa ⟨?_,trivial⟩
     refine go A0 false ?_
     conv=>whnf
     refine Ak ?_
     refine Ed Aa (Al ?_)
    rotate_left 1
    focus
     refine go A0 false ?_
     conv=>whnf
     (repeat refine Ar ?_)
     refine Ak ?_
     refine Aj [2] Aa ⟨?_,trivial⟩
     refine go A0 false ?_
     conv=>whnf
     refine Dp A0 rfl rfl rfl rfl rfl rfl rfl rfl rfl rfl rfl (Ax xs) (Eh) (fun _=>B0d xs) Ac (Al ?_)
     refine Ak ?_
     refine Aj [9] Aa ⟨?_,trivial⟩
     refine go A0 false ?_
     conv=>whnf
     refine Ak ?_
     refine Aj [10] Aa ⟨?_,trivial⟩
     refine go A0 false ?_
     conv=>whnf
     refine Ak ?_
     refine Ed Aa (Al ?_)
   rotate_left 2
   focus
    refine go A0 false ?_
    conv=>whnf
    (repeat refine Ar ?_)
    refine Ak ?_
    refine Aj [0] Aa ⟨?_,trivial⟩
    refine go A0 false ?_
    conv=>whnf
    refine Ak ?_
    refine Aj [2] Aa ⟨?_,trivial⟩
    refine go A0 false ?_
    conv=>whnf
    refine Dp A0 rfl rfl rfl rfl rfl rfl rfl rfl rfl rfl rfl (Ax xs) (Eh) (fun _=>B0d xs) Ac (Al ?_)
    refine Ak ?_
    refine Aj [9] Aa ⟨?_,trivial⟩
    refine go A0 false ?_
    conv=>whnf
    refine Ak ?_
    refine Aj [10] Aa ⟨?_,trivial⟩
    refine go A0 false ?_
    conv=>whnf
    refine Ak ?_
    refine Ed Aa (Al ?_)
  rotate_left 3
  focus
   refine go A0 false ?_
   conv=>whnf
   (repeat refine Ar ?_)
   refine Ak ?_
   refine Aj [0,6] Aa ⟨?_,?_,trivial⟩
   focus
    refine go A0 false ?_
    conv=>whnf
    refine Ak ?_
    refine Aj [2,6] Aa ⟨?_,?_,trivial⟩
    focus
     refine go A0 false ?_
     conv=>whnf
     refine Dp A0 rfl rfl rfl rfl rfl rfl rfl rfl rfl rfl rfl (Ax xs) (Eh) (fun _=>B0d xs) Ac (Al ?_)
     refine Ak ?_
     refine Aj [6] Aa ⟨?_,trivial⟩
     refine go A0 false ?_
     conv=>whnf
     (repeat refine Ar ?_)
     refine Ak ?_
     refine Aj [9] Aa ⟨?_,trivial⟩
     refine go A0 false ?_
     conv=>whnf
     refine Ak ?_
     refine Aj [10] Aa ⟨?_,trivial⟩
     refine go A0 false ?_
     conv=>whnf
     refine Ak ?_
     refine Ed Aa (Al ?_)
    rotate_left 1
    focus
     refine go A0 false ?_
     conv=>whnf
     (repeat refine Ar ?_)
     refine Ak ?_
     refine Aj [2] Aa ⟨?_,trivial⟩
     refine go A0 false ?_
     conv=>whnf
     refine Dp A0 rfl rfl rfl rfl rfl rfl rfl rfl rfl rfl rfl (Ax xs) (Eh) (fun _=>B0d xs) Ac (Al ?_)
     refine Ak ?_
     refine Aj [9] Aa ⟨?_,trivial⟩
     refine go A0 false ?_
     conv=>whnf
     refine Ak ?_
     refine Aj [10] Aa ⟨?_,trivial⟩
     refine go A0 false ?_
     conv=>whnf
     refine Ak ?_
     refine Ed Aa (Al ?_)
   rotate_left 2
   focus
    refine go A0 false ?_
    conv=>whnf
    (repeat refine Ar ?_)
    refine Ak ?_
    refine Aj [0] Aa ⟨?_,trivial⟩
    refine go A0 false ?_
    conv=>whnf
    refine Ak ?_
    refine Aj [2] Aa ⟨?_,trivial⟩
    refine go A0 false ?_
    conv=>whnf
    refine Dp A0 rfl rfl rfl rfl rfl rfl rfl rfl rfl rfl rfl (Ax xs) (Eh) (fun _=>B0d xs) Ac (Al ?_)
    refine Ak ?_
    refine Aj [9] Aa ⟨?_,trivial⟩
    refine go A0 false ?_
    conv=>whnf
    refine Ak ?_
    refine Aj [10] Aa ⟨?_,trivial⟩
    refine go A0 false ?_
    conv=>whnf
    refine Ak ?_
    refine Ed Aa (Al ?_)
 rotate_left 12
 focus
  refine go A0 false ?_
  conv=>whnf
  (repeat refine Ar ?_)
  refine Ak ?_
  refine Aj [0,4,8] Aa ⟨?_,?_,?_,trivial⟩
  focus
   refine go A0 false ?_
   conv=>whnf
   refine Ak ?_
   refine Aj [2,4,8] Aa ⟨?_,?_,?_,trivial⟩
   focus
    refine go A0 false ?_
    conv=>whnf
    refine Dp A0 rfl rfl rfl rfl rfl rfl rfl rfl rfl rfl rfl (Ax xs) (Eh) (fun _=>B0d xs) Ac (Al ?_)
    refine Ak ?_
    refine Aj [4,8] Aa ⟨?_,?_,trivial⟩
    focus
     refine go A0 false ?_
     conv=>whnf
     (repeat refine Ar ?_)
     refine Ak ?_
     refine Aj [8] Aa ⟨?_,trivial⟩
     refine go A0 false ?_
     conv=>whnf
     (repeat refine Ar ?_)
     refine Ak ?_
     refine Aj [9] Aa ⟨?_,trivial⟩
     refine go A0 false ?_
     conv=>whnf
     refine Ak ?_
     refine Aj [10] Aa ⟨?_,trivial⟩
     refine go A0 false ?_
     conv=>whnf
     refine Ak ?_
     refine Ed Aa (Al ?_)
    rotate_left 1
    focus
     refine go A0 false ?_
     conv=>whnf
     (repeat refine Ar ?_)
     refine Ak ?_
     refine Aj [4] Aa ⟨?_,trivial⟩
     refine go A0 false ?_
     conv=>whnf
     (repeat refine Ar ?_)
     refine Ak ?_
     refine Aj [9] Aa ⟨?_,trivial⟩
     refine go A0 false ?_
     conv=>whnf
     refine Ak ?_
     refine Aj [10] Aa ⟨?_,trivial⟩
     refine go A0 false ?_
     conv=>whnf
     refine Ak ?_
     refine Ed Aa (Al ?_)
   rotate_left 2
   focus
    refine go A0 false ?_
    conv=>whnf
    (repeat refine Ar ?_)
    refine Ak ?_
    refine Aj [2,8] Aa ⟨?_,?_,trivial⟩
    focus
     refine go A0 false ?_
     conv=>whnf
     refine Dp A0 rfl rfl rfl rfl rfl rfl rfl rfl rfl rfl rfl (Ax xs) (Eh) (fun _=>B0d xs) Ac (Al ?_)
     refine Ak ?_
     refine Aj [8] Aa ⟨?_,trivial⟩
     refine go A0 false ?_
     conv=>whnf
     (repeat refine Ar ?_)
     refine Ak ?_
     refine Aj [9] Aa ⟨?_,trivial⟩
     refine go A0 false ?_
     conv=>whnf
     refine Ak ?_
     refine Aj [10] Aa ⟨?_,trivial⟩
     refine go A0 false ?_
     conv=>whnf
     refine Ak ?_
     refine Ed Aa (Al ?_)
    rotate_left 1
    focus
     refine go A0 false ?_
     conv=>whnf
     (repeat refine Ar ?_)
     refine Ak ?_
     refine Aj [2] Aa ⟨?_,trivial⟩
     refine go A0 false ?_
     conv=>whnf
     refine Dp A0 rfl rfl rfl rfl rfl rfl rfl rfl rfl rfl rfl (Ax xs) (Eh) (fun _=>B0d xs) Ac (Al ?_)
     refine Ak ?_
     refine Aj [9] Aa ⟨?_,trivial⟩
     refine go A0 false ?_
     conv=>whnf
     refine Ak ?_
     refine Aj [10] Aa ⟨?_,trivial⟩
     refine go A0 false ?_
     conv=>whnf
     refine Ak ?_
     refine Ed Aa (Al ?_)
   rotate_left 2
   focus
    refine go A0 false ?_
    conv=>whnf
    (repeat refine Ar ?_)
    refine Ak ?_
    refine Aj [2,4] Aa ⟨?_,?_,trivial⟩
    focus
     refine go A0 false ?_
     conv=>whnf
     refine Dp A0 rfl rfl rfl rfl rfl rfl rfl rfl rfl rfl rfl (Ax xs) (Eh) (fun _=>B0d xs) Ac (Al ?_)
     refine Ak ?_
     refine Aj [4] Aa ⟨?_,trivial⟩
     refine go A0 false ?_
     conv=>whnf
     (repeat refine Ar ?_)
     refine Ak ?_
     refine Aj [9] Aa ⟨?_,trivial⟩
     refine go A0 false ?_
     conv=>whnf
     refine Ak ?_
     refine Aj [10] Aa ⟨?_,trivial⟩
     refine go A0 false ?_
     conv=>whnf
     refine Ak ?_
     refine Ed Aa (Al ?_)
    rotate_left 1
    focus
     refine go A0 false ?_
     conv=>whnf
     (repeat refine Ar ?_)
     refine Ak ?_
     refine Aj [2] Aa ⟨?_,trivial⟩
     refine go A0 false ?_
     conv=>whnf
     refine Dp A0 rfl rfl rfl rfl rfl rfl rfl rfl rfl rfl rfl (Ax xs) (Eh) (fun _=>B0d xs) Ac (Al ?_)
     refine Ak ?_
     refine Aj [9] Aa ⟨?_,trivial⟩
     refine go A0 false ?_
     conv=>whnf
     refine Ak ?_
     refine Aj [10] Aa ⟨?_,trivial⟩
     refine go A0 false ?_
     conv=>whnf
     refine Ak ?_
     refine Ed Aa (Al ?_)
  rotate_left 6
  focus
   refine go A0 false ?_
   conv=>whnf
   (repeat refine Ar ?_)
   refine Ak ?_
   refine Aj [0,8] Aa ⟨?_,?_,trivial⟩
   focus
    refine go A0 false ?_
    conv=>whnf
    refine Ak ?_
    refine Aj [2,8] Aa ⟨?_,?_,trivial⟩
    focus
     refine go A0 false ?_
     conv=>whnf
     refine Dp A0 rfl rfl rfl rfl rfl rfl rfl rfl rfl rfl rfl (Ax xs) (Eh) (fun _=>B0d xs) Ac (Al ?_)
     refine Ak ?_
     refine Aj [8] Aa ⟨?_,trivial⟩
     refine go A0 false ?_
     conv=>whnf
     (repeat refine Ar ?_)
     refine Ak ?_
     refine Aj [9] Aa ⟨?_,trivial⟩
     refine go A0 false ?_
     conv=>whnf
     refine Ak ?_
     refine Aj [10] Aa ⟨?_,trivial⟩
     refine go A0 false ?_
     conv=>whnf
     refine Ak ?_
     refine Ed Aa (Al ?_)
    rotate_left 1
    focus
     refine go A0 false ?_
     conv=>whnf
     (repeat refine Ar ?_)
     refine Ak ?_
     refine Aj [2] Aa ⟨?_,trivial⟩
     refine go A0 false ?_
     conv=>whnf
     refine Dp A0 rfl rfl rfl rfl rfl rfl rfl rfl rfl rfl rfl (Ax xs) (Eh) (fun _=>B0d xs) Ac (Al ?_)
     refine Ak ?_
     refine Aj [9] Aa ⟨?_,trivial⟩
     refine go A0 false ?_
     conv=>whnf
     refine Ak ?_
     refine Aj [10] Aa ⟨?_,trivial⟩
     refine go A0 false ?_
     conv=>whnf
     refine Ak ?_
     refine Ed Aa (Al ?_)
   rotate_left 2
   focus
    refine go A0 false ?_
    conv=>whnf
    (repeat refine Ar ?_)
    refine Ak ?_
    refine Aj [0] Aa ⟨?_,trivial⟩
    refine go A0 false ?_
    conv=>whnf
    refine Ak ?_
    refine Aj [2] Aa ⟨?_,trivial⟩
    refine go A0 false ?_
    conv=>whnf
    refine Dp A0 rfl rfl rfl rfl rfl rfl rfl rfl rfl rfl rfl (Ax xs) (Eh) (fun _=>B0d xs) Ac (Al ?_)
    refine Ak ?_
    refine Aj [9] Aa ⟨?_,trivial⟩
    refine go A0 false ?_
    conv=>whnf
    refine Ak ?_
    refine Aj [10] Aa ⟨?_,trivial⟩
    refine go A0 false ?_
    conv=>whnf
    refine Ak ?_
    refine Ed Aa (Al ?_)
  rotate_left 3
  focus
   refine go A0 false ?_
   conv=>whnf
   (repeat refine Ar ?_)
   refine Ak ?_
   refine Aj [0,4] Aa ⟨?_,?_,trivial⟩
   focus
    refine go A0 false ?_
    conv=>whnf
    refine Ak ?_
    refine Aj [2,4] Aa ⟨?_,?_,trivial⟩
    focus
     refine go A0 false ?_
     conv=>whnf
     refine Dp A0 rfl rfl rfl rfl rfl rfl rfl rfl rfl rfl rfl (Ax xs) (Eh) (fun _=>B0d xs) Ac (Al ?_)
     refine Ak ?_
     refine Aj [4] Aa ⟨?_,trivial⟩
     refine go A0 false ?_
     conv=>whnf
     (repeat refine Ar ?_)
     refine Ak ?_
     refine Aj [9] Aa ⟨?_,trivial⟩
     refine go A0 false ?_
     conv=>whnf
     refine Ak ?_
     refine Aj [10] Aa ⟨?_,trivial⟩
     refine go A0 false ?_
     conv=>whnf
     refine Ak ?_
     refine Ed Aa (Al ?_)
    rotate_left 1
    focus
     refine go A0 false ?_
     conv=>whnf
     (repeat refine Ar ?_)
     refine Ak ?_
     refine Aj [2] Aa ⟨?_,trivial⟩
     refine go A0 false ?_
     conv=>whnf
     refine Dp A0 rfl rfl rfl rfl rfl rfl rfl rfl rfl rfl rfl (Ax xs) (Eh) (fun _=>B0d xs) Ac (Al ?_)
     refine Ak ?_
     refine Aj [9] Aa ⟨?_,trivial⟩
     refine go A0 false ?_
     conv=>whnf
     refine Ak ?_
     refine Aj [10] Aa ⟨?_,trivial⟩
     refine go A0 false ?_
     conv=>whnf
     refine Ak ?_
     refine Ed Aa (Al ?_)
   rotate_left 2
   focus
    refine go A0 false ?_
    conv=>whnf
    (repeat refine Ar ?_)
    refine Ak ?_
    refine Aj [0] Aa ⟨?_,trivial⟩
    refine go A0 false ?_
    conv=>whnf
    refine Ak ?_
    refine Aj [2] Aa ⟨?_,trivial⟩
    refine go A0 false ?_
    conv=>whnf
    refine Dp A0 rfl rfl rfl rfl rfl rfl rfl rfl rfl rfl rfl (Ax xs) (Eh) (fun _=>B0d xs) Ac (Al ?_)
    refine Ak ?_
    refine Aj [9] Aa ⟨?_,trivial⟩
    refine go A0 false ?_
    conv=>whnf
    refine Ak ?_
    refine Aj [10] Aa ⟨?_,trivial⟩
    refine go A0 false ?_
    conv=>whnf
    refine Ak ?_
    refine Ed Aa (Al ?_)
 rotate_left 12
 focus
  refine go A0 false ?_
  conv=>whnf
  (repeat refine Ar ?_)
  refine Ak ?_
  refine Aj [0,4,6] Aa ⟨?_,?_,?_,trivial⟩
  focus
   refine go A0 false ?_
   conv=>whnf
   refine Ak ?_
   refine Aj [2,4,6] Aa ⟨?_,?_,?_,trivial⟩
   focus
    refine go A0 false ?_
    conv=>whnf
    refine Dp A0 rfl rfl rfl rfl rfl rfl rfl rfl rfl rfl rfl (Ax xs) (Eh) (fun _=>B0d xs) Ac (Al ?_)
    refine Ak ?_
    refine Aj [4,6] Aa ⟨?_,?_,trivial⟩
    focus
     refine go A0 false ?_
     conv=>whnf
     (repeat refine Ar ?_)
     refine Ak ?_
     refine Aj [6] Aa ⟨?_,trivial⟩
     refine go A0 false ?_
     conv=>whnf
     (repeat refine Ar ?_)
     refine Ak ?_
     refine Aj [9] Aa ⟨?_,trivial⟩
     refine go A0 false ?_
     conv=>whnf
     refine Ak ?_
     refine Aj [10] Aa ⟨?_,trivial⟩
     refine go A0 false ?_
     conv=>whnf
     refine Ak ?_
     refine Ed Aa (Al ?_)
    rotate_left 1
    focus
     refine go A0 false ?_
     conv=>whnf
     (repeat refine Ar ?_)
     refine Ak ?_
     refine Aj [4] Aa ⟨?_,trivial⟩
     refine go A0 false ?_
     conv=>whnf
     (repeat refine Ar ?_)
     refine Ak ?_
     refine Aj [9] Aa ⟨?_,trivial⟩
     refine go A0 false ?_
     conv=>whnf
     refine Ak ?_
     refine Aj [10] Aa ⟨?_,trivial⟩
     refine go A0 false ?_
     conv=>whnf
     refine Ak ?_
     refine Ed Aa (Al ?_)
   rotate_left 2
   focus
    refine go A0 false ?_
    conv=>whnf
    (repeat refine Ar ?_)
    refine Ak ?_
    refine Aj [2,6] Aa ⟨?_,?_,trivial⟩
    focus
     refine go A0 false ?_
     conv=>whnf
     refine Dp A0 rfl rfl rfl rfl rfl rfl rfl rfl rfl rfl rfl (Ax xs) (Eh) (fun _=>B0d xs) Ac (Al ?_)
     refine Ak ?_
     refine Aj [6] Aa ⟨?_,trivial⟩
     refine go A0 false ?_
     conv=>whnf
     (repeat refine Ar ?_)
     refine Ak ?_
     refine Aj [9] Aa ⟨?_,trivial⟩
     refine go A0 false ?_
     conv=>whnf
     refine Ak ?_
     refine Aj [10] Aa ⟨?_,trivial⟩
     refine go A0 false ?_
     conv=>whnf
     refine Ak ?_
     refine Ed Aa (Al ?_)
    rotate_left 1
    focus
     refine go A0 false ?_
     conv=>whnf
     (repeat refine Ar ?_)
     refine Ak ?_
     refine Aj [2] Aa ⟨?_,trivial⟩
     refine go A0 false ?_
     conv=>whnf
     refine Dp A0 rfl rfl rfl rfl rfl rfl rfl rfl rfl rfl rfl (Ax xs) (Eh) (fun _=>B0d xs) Ac (Al ?_)
     refine Ak ?_
     refine Aj [9] Aa ⟨?_,trivial⟩
     refine go A0 false ?_
     conv=>whnf
     refine Ak ?_
     refine Aj [10] Aa ⟨?_,trivial⟩
     refine go A0 false ?_
     conv=>whnf
     refine Ak ?_
     refine Ed Aa (Al ?_)
   rotate_left 2
   focus
    refine go A0 false ?_
    conv=>whnf
    (repeat refine Ar ?_)
    refine Ak ?_
    refine Aj [2,4] Aa ⟨?_,?_,trivial⟩
    focus
     refine go A0 false ?_
     conv=>whnf
     refine Dp A0 rfl rfl rfl rfl rfl rfl rfl rfl rfl rfl rfl (Ax xs) (Eh) (fun _=>B0d xs) Ac (Al ?_)
     refine Ak ?_
     refine Aj [4] Aa ⟨?_,trivial⟩
     refine go A0 false ?_
     conv=>whnf
     (repeat refine Ar ?_)
     refine Ak ?_
     refine Aj [9] Aa ⟨?_,trivial⟩
     refine go A0 false ?_
     conv=>whnf
     refine Ak ?_
     refine Aj [10] Aa ⟨?_,trivial⟩
     refine go A0 false ?_
     conv=>whnf
     refine Ak ?_
     refine Ed Aa (Al ?_)
    rotate_left 1
    focus
     refine go A0 false ?_
     conv=>whnf
     (repeat refine Ar ?_)
     refine Ak ?_
     refine Aj [2] Aa ⟨?_,trivial⟩
     refine go A0 false ?_
     conv=>whnf
     refine Dp A0 rfl rfl rfl rfl rfl rfl rfl rfl rfl rfl rfl (Ax xs) (Eh) (fun _=>B0d xs) Ac (Al ?_)
     refine Ak ?_
     refine Aj [9] Aa ⟨?_,trivial⟩
     refine go A0 false ?_
     conv=>whnf
     refine Ak ?_
     refine Aj [10] Aa ⟨?_,trivial⟩
     refine go A0 false ?_
     conv=>whnf
     refine Ak ?_
     refine Ed Aa (Al ?_)
  rotate_left 6
  focus
   refine go A0 false ?_
   conv=>whnf
   (repeat refine Ar ?_)
   refine Ak ?_
   refine Aj [0,6] Aa ⟨?_,?_,trivial⟩
   focus
    refine go A0 false ?_
    conv=>whnf
    refine Ak ?_
    refine Aj [2,6] Aa ⟨?_,?_,trivial⟩
    focus
     refine go A0 false ?_
     conv=>whnf
     refine Dp A0 rfl rfl rfl rfl rfl rfl rfl rfl rfl rfl rfl (Ax xs) (Eh) (fun _=>B0d xs) Ac (Al ?_)
     refine Ak ?_
     refine Aj [6] Aa ⟨?_,trivial⟩
     refine go A0 false ?_
     conv=>whnf
     (repeat refine Ar ?_)
     refine Ak ?_
     refine Aj [9] Aa ⟨?_,trivial⟩
     refine go A0 false ?_
     conv=>whnf
     refine Ak ?_
     refine Aj [10] Aa ⟨?_,trivial⟩
     refine go A0 false ?_
     conv=>whnf
     refine Ak ?_
     refine Ed Aa (Al ?_)
    rotate_left 1
    focus
     refine go A0 false ?_
     conv=>whnf
     (repeat refine Ar ?_)
     refine Ak ?_
     refine Aj [2] Aa ⟨?_,trivial⟩
     refine go A0 false ?_
     conv=>whnf
     refine Dp A0 rfl rfl rfl rfl rfl rfl rfl rfl rfl rfl rfl (Ax xs) (Eh) (fun _=>B0d xs) Ac (Al ?_)
     refine Ak ?_
     refine Aj [9] Aa ⟨?_,trivial⟩
     refine go A0 false ?_
     conv=>whnf
     refine Ak ?_
     refine Aj [10] Aa ⟨?_,trivial⟩
     refine go A0 false ?_
     conv=>whnf
     refine Ak ?_
     refine Ed Aa (Al ?_)
   rotate_left 2
   focus
    refine go A0 false ?_
    conv=>whnf
    (repeat refine Ar ?_)
    refine Ak ?_
    refine Aj [0] Aa ⟨?_,trivial⟩
    refine go A0 false ?_
    conv=>whnf
    refine Ak ?_
    refine Aj [2] Aa ⟨?_,trivial⟩
    refine go A0 false ?_
    conv=>whnf
    refine Dp A0 rfl rfl rfl rfl rfl rfl rfl rfl rfl rfl rfl (Ax xs) (Eh) (fun _=>B0d xs) Ac (Al ?_)
    refine Ak ?_
    refine Aj [9] Aa ⟨?_,trivial⟩
    refine go A0 false ?_
    conv=>whnf
    refine Ak ?_
    refine Aj [10] Aa ⟨?_,trivial⟩
    refine go A0 false ?_
    conv=>whnf
    refine Ak ?_
    refine Ed Aa (Al ?_)
  rotate_left 3
  focus
   refine go A0 false ?_
   conv=>whnf
   (repeat refine Ar ?_)
   refine Ak ?_
   refine Aj [0,4] Aa ⟨?_,?_,trivial⟩
   focus
    refine go A0 false ?_
    conv=>whnf
    refine Ak ?_
    refine Aj [2,4] Aa ⟨?_,?_,trivial⟩
    focus
     refine go A0 false ?_
     conv=>whnf
     refine Dp A0 rfl rfl rfl rfl rfl rfl rfl rfl rfl rfl rfl (Ax xs) (Eh) (fun _=>B0d xs) Ac (Al ?_)
     refine Ak ?_
     refine Aj [4] Aa ⟨?_,trivial⟩
     refine go A0 false ?_
     conv=>whnf
     (repeat refine Ar ?_)
     refine Ak ?_
     refine Aj [9] Aa ⟨?_,trivial⟩
     refine go A0 false ?_
     conv=>whnf
     refine Ak ?_
     refine Aj [10] Aa ⟨?_,trivial⟩
     refine go A0 false ?_
     conv=>whnf
     refine Ak ?_
     refine Ed Aa (Al ?_)
    rotate_left 1
    focus
     refine go A0 false ?_
     conv=>whnf
     (repeat refine Ar ?_)
     refine Ak ?_
     refine Aj [2] Aa ⟨?_,trivial⟩
     refine go A0 false ?_
     conv=>whnf
     refine Dp A0 rfl rfl rfl rfl rfl rfl rfl rfl rfl rfl rfl (Ax xs) (Eh) (fun _=>B0d xs) Ac (Al ?_)
     refine Ak ?_
     refine Aj [9] Aa ⟨?_,trivial⟩
     refine go A0 false ?_
     conv=>whnf
     refine Ak ?_
     refine Aj [10] Aa ⟨?_,trivial⟩
     refine go A0 false ?_
     conv=>whnf
     refine Ak ?_
     refine Ed Aa (Al ?_)
   rotate_left 2
   focus
    refine go A0 false ?_
    conv=>whnf
    (repeat refine Ar ?_)
    refine Ak ?_
    refine Aj [0] Aa ⟨?_,trivial⟩
    refine go A0 false ?_
    conv=>whnf
    refine Ak ?_
    refine Aj [2] Aa ⟨?_,trivial⟩
    refine go A0 false ?_
    conv=>whnf
    refine Dp A0 rfl rfl rfl rfl rfl rfl rfl rfl rfl rfl rfl (Ax xs) (Eh) (fun _=>B0d xs) Ac (Al ?_)
    refine Ak ?_
    refine Aj [9] Aa ⟨?_,trivial⟩
    refine go A0 false ?_
    conv=>whnf
    refine Ak ?_
    refine Aj [10] Aa ⟨?_,trivial⟩
    refine go A0 false ?_
    conv=>whnf
    refine Ak ?_
    refine Ed Aa (Al ?_)
 all_goals
  refine Ao A0 rfl rfl ⟨⟨.inr ⟨rfl,rfl,_,_,rfl⟩,.inr ⟨rfl,rfl,_,_,rfl⟩,?_,.inr ⟨rfl,rfl,_,_,rfl⟩,?_,?_,?_,.inr ⟨rfl,rfl,_,_,rfl⟩,trivial⟩,trivial⟩
  ·exact (rfl:Ax xs=Ax xs)
  ·exact B6t
  ·exact A31
  ·exact A31
def P6 (n:Int) (l:List A5) (w:Int) (k:Nat):List A5:=(List.range k).flatMap fun (e:Nat)=>(Bs l e).filter fun r=>Cf r.key n==w
theorem Zg (n:Int)(l:List A5)(w:Int)(k:Nat):P6 n l w (k+1)=P6 n l w k++(Bs l k).filter fun r=>Cf r.key n==w:=by
 rw [P6,List.range_succ,List.flatMap_append]
 simp [P6]
theorem Wx (n:Int)(l:List A5)(w:Int)(k:Nat):(P6 n l w k).length≤k * l.length:=by
 induction k with
 |zero=>simp [P6]
 |succ k ih=>
  rw [Zg,List.length_append,Nat.succ_mul]
  have h1:=List.length_filter_le (fun r:A5=>Cf r.key n==w) (Bs l k)
  have h2:=Nq l k
  omega
def oP (n:Int) (w:Int) (e:Nat) (r:A5):Bool:=(r.stamp.epoch==(e:Int))&&(Cf r.key n==w)
theorem C4h (n:Int)(l:List A5)(w:Int)(e:Nat):l.filter (oP n w e)=(Bs l e).filter fun r=>Cf r.key n==w:=by
 show _=List.filter _ (List.filter _ l)
 rw [List.filter_filter]
 congr 1
 funext r
 rw [oP,Bool.and_comm]
set_option maxHeartbeats 1600000 in
theorem C5m (g:Ad)(l:List A5)(w:Int)(hl:l.length≤20)(hg:g.workers≤4):B0 Tryz.prog 90 [.agg g.c,.one (Ax l),.one (vi w)] [.one (Ax (P6 g.workers l w 4))]:=by
 refine Ay A0 false Tryz.func90 rfl Bu fun W=>?_
 conv=>whnf
 refine G4 1 (Ax []) rfl F8 ?_
 refine Bw A0 false [9,10] (fun k:Nat=>[(8,.c (vi k))]) (fun k=>[⟨0,[.c (Bp g.nodes),.c (vi g.workers),.c (vi g.cap)]⟩]) (fun k=>[⟨1,Ax (P6 g.workers l w k)⟩])
  (fun k=>k≤4) (fun k=>4-k) 0 (Nat.zero_le _) ⟨by first|rfl|simp [Dl,ren2,ren1,ren0],trivial⟩ F3 ⟨by first|rfl|exact (congrArg (fun l=>Du _ _ l) (List.append_nil _)).symm|(show (_:A8)=_;simp)|simp,trivial⟩ Dh Aa (fun k hk=>?_)
 conv=>whnf
 refine ⟨fun h=>?_,fun h=>?_⟩<;>conv=>whnf
 ·have h:k<4:=by have:=of_decide_eq_true h;omega
  have hk1:=Wx g.workers l w k
  have hk2:k * l.length≤80:=Nat.le_trans (Nat.mul_le_mul (show k≤4 by omega) hl) Bu
  refine Bw A0 false [] (fun j:Nat=>[(9,.c (vi j))]) (fun j=>[⟨0,[.c (Bp g.nodes),.c (vi g.workers),.c (vi g.cap)]⟩]) (fun j=>[⟨1,Ax (P6 g.workers l w k++(l.take j).filter (oP g.workers w k))⟩])
   (fun j=>j≤l.length) (fun j=>l.length-j) 0 (Nat.zero_le _) ⟨by first|rfl|simp [Dl,ren2,ren1,ren0],trivial⟩ F3 ⟨by first|rfl|exact (congrArg (fun l=>Du _ _ l) (List.append_nil _)).symm|(show (_:A8)=_;simp)|simp,trivial⟩ Dh Aa (fun j hj=>?_)
  conv=>whnf
  conv=>whnf
  refine G5 (fun h2=>?_) fun h2=>?_<;>conv=>whnf
  ·have h2:j<l.length:=by omega
   have hs:=Ez (oP g.workers w k) l j h2
   have hb:=F0 (oP g.workers w k) l j
   first|(refine B9 8 rfl [0,1,2,3,4,5,6,7,8,9,10,11,12,13,14,15,17,16,18,19] Aa (Al ?_))
   (repeat refine Ar ?_)
   refine ⟨fun h3=>?_,fun h3=>?_⟩<;>conv=>whnf
   ·rw [Int.toNat_natCast] at h3
    repeat refine Bi ?_
    (repeat refine Ar ?_)
    refine Aw (C08 (l.getD j default).key g.workers Ac) rfl (Al ?_)
    repeat refine Bi ?_
    refine ⟨fun h4=>?_,fun h4=>?_⟩<;>conv=>whnf
    ·have h5:oP g.workers w k (l.getD j default)=true:=by rw [oP,h3,h4];rfl
     (repeat refine Ar ?_)
     refine Dp A0 rfl rfl rfl rfl rfl rfl rfl rfl rfl rfl rfl (Ax (P6 g.workers l w k++(l.take j).filter (oP g.workers w k)++[l.getD j default])) (Bf rfl) M1 (by (rw [List.length_append];omega)) (Al ?_)
     (repeat refine Ar ?_)
     refine B5 [(1,3)] (j+1) Ac Ac ⟨rfl,trivial⟩ ⟨congrArg Ax (by rw [hs,if_pos h5,List.append_assoc]),trivial⟩ F3 Aa Dh Aa
    ·have h5:oP g.workers w k (l.getD j default)=false:=by rw [oP,h4,Bool.and_false]
     repeat refine Bi ?_
     refine B5 [] (j+1) Ac Ac ⟨rfl,trivial⟩ ⟨congrArg Ax (by rw [hs,if_neg (by rw [h5];decide),List.append_nil]),trivial⟩ F3 Aa Dh Aa
   ·rw [Int.toNat_natCast] at h3
    have h5:oP g.workers w k (l.getD j default)=false:=by rw [oP,h3,Bool.false_and]
    repeat refine Bi ?_
    refine B5 [] (j+1) Ac Ac ⟨rfl,trivial⟩ ⟨congrArg Ax (by rw [hs,if_neg (by rw [h5];decide),List.append_nil]),trivial⟩ F3 Aa Dh Aa
  ·(repeat refine Ar ?_)
   refine B5 [] (k+1) Ac Ac ⟨rfl,trivial⟩ ⟨congrArg Ax (by rw [Zg,←C4h,List.take_of_length_le Ac]),trivial⟩ F3 Aa Dh Aa
 ·have h:¬ k<4:=by have:=of_decide_eq_false h;omega
  obtain rfl:k=4:=by omega
  refine Ao A0 rfl rfl ?_
  exact Ca
end Go.Proofs.YtonodkjaoalfjaaGreat
