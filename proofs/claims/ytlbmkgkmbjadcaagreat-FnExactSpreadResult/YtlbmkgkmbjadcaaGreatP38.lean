/- Part 38 of the proof that each of the laws FnExactRunScriptOf, FnExactSpreadResult returns true for every input. No conditions. -/
import Derived.Test.YtlbmkgkmbjadcaaGreatP28
import Derived.Test.YtlbmkgkmbjadcaaGreatP26
import Derived.Test.YtlbmkgkmbjadcaaGreatP21
import Derived.Test.YtlbmkgkmbjadcaaGreatP10
import Derived.Test.YtlbmkgkmbjadcaaGreatP14

set_option linter.unusedSimpArgs false
set_option linter.unusedVariables false
set_option maxRecDepth 100000
namespace Go.Proofs.YtlbmkgkmbjadcaaGreat
open Go.Sx
theorem A4h (n:Int):Aq Tryz.prog 90 [.one (vi n)] [.agg (Fp n).c]:=by
 refine Aj A0 false Tryz.func90 rfl Bs fun W=>?_
 conv=>whnf
 refine Ai (Pn n 1 4) rfl (Ae ?_)
 refine Ah A0 rfl rfl ?_
 exact C1
theorem A3a (n:Int):Aq Tryz.prog 103 [.one (vi n)] [.agg (Fp n).c]:=by
 refine Aj A0 false Tryz.func103 rfl Bs fun W=>?_
 conv=>whnf
 refine Ai (P1 n 1 4) rfl (Ae ?_)
 refine Ah A0 rfl rfl ?_
 exact C1
theorem Wc {α:Type} [Inhabited α] (x:α)(n i:Nat)(h:x=default):(List.replicate n x).getD i default=x:=by
 simp only [List.getD,List.getElem?_replicate]
 split
 ·rfl
 ·exact h.symm
theorem A7q:(Ab.sl 4 1 fun _=>[.val (.int .i64 0)])=Eu (List.replicate 4 0):=congrArg (Ab.sl 4 1) (funext fun i=>by rw [Wc (0:Int) 4 i rfl])
theorem S6:(Ab.sl 4 1 fun _=>[.val (.bool false)])=Cx (List.replicate 4 false):=congrArg (Ab.sl 4 1) (funext fun i=>by rw [Wc false 4 i rfl])
theorem G5:(Ab.sl 4 5 fun _=>[.val (.bool false),.val (.int .i64 0),.val (.int .i64 0),.val (.bool false),.val (.bool false)])=Be (List.replicate 4 default):=congrArg (Ab.sl 4 5) (funext fun i=>by rw [Wc (default:Ay) 4 i rfl];rfl)
def Jz (xs:List A3):A6:=⟨[],[],xs,[],List.replicate 4 0,List.replicate 4 false,List.replicate 4 false,[]⟩
set_option maxHeartbeats 1600000 in
theorem Yo (xs:List A3)(hx:xs.length≤16777216):Aq Tryz.prog 88 [.one (A9 xs)] [.agg (Jz xs).c]:=by
 refine Aj A0 false Tryz.func88 rfl Bs fun W=>?_
 conv=>whnf
 refine A7a rfl ?_
 refine B23 A0 false 1 rfl rfl rfl A5 rfl (Af D7) ?_
 refine B23 A0 false 3 rfl rfl rfl A5 rfl (Af D7) ?_
 refine B23 A0 false 5 rfl rfl rfl A5 rfl (Af D7) ?_
 refine B23 A0 false 7 rfl rfl rfl A5 rfl (Af D7) ?_
 refine A7 [0,4,6,8] A5 ⟨?_,?_,?_,?_,trivial⟩
 focus
  refine go A0 false ?_
  conv=>whnf
  refine A8 ?_
  refine A7 [2,4,6,8] A5 ⟨?_,?_,?_,?_,trivial⟩
  focus
   refine go A0 false ?_
   conv=>whnf
   refine Bm A0 rfl rfl rfl rfl rfl rfl rfl rfl rfl rfl rfl (A9 xs) (B1) (fun _=>Ba xs) Ad (Ae ?_)
   refine A8 ?_
   refine A7 [4,6,8] A5 ⟨?_,?_,?_,trivial⟩
   focus
    refine go A0 false ?_
    conv=>whnf
    (repeat refine An ?_)
    refine A8 ?_
    refine A7 [6,8] A5 ⟨?_,?_,trivial⟩
    focus
     refine go A0 false ?_
     conv=>whnf
     (repeat refine An ?_)
     refine A8 ?_
     refine A7 [8] A5 ⟨?_,trivial⟩
     refine go A0 false ?_
     conv=>whnf
     (repeat refine An ?_)
     refine A8 ?_
     refine A7 [9] A5 ⟨?_,trivial⟩
     refine go A0 false ?_
     conv=>whnf
     refine A8 ?_
     refine A7 [10] A5 ⟨?_,trivial⟩
     refine go A0 false ?_
     conv=>whnf
     refine A8 ?_
     refine Bl A5 (Ae ?_)
    rotate_left 1
    focus
     refine go A0 false ?_
     conv=>whnf
     (repeat refine An ?_)
     refine A8 ?_
     refine A7 [6] A5 ⟨?_,trivial⟩
     refine go A0 false ?_
     conv=>whnf
     (repeat refine An ?_)
     refine A8 ?_
     refine A7 [9] A5 ⟨?_,trivial⟩
     refine go A0 false ?_
     conv=>whnf
     refine A8 ?_
     refine A7 [10] A5 ⟨?_,trivial⟩
     refine go A0 false ?_
     conv=>whnf
     refine A8 ?_
     refine Bl A5 (Ae ?_)
   rotate_left 2
   focus
    refine go A0 false ?_
    conv=>whnf
    (repeat refine An ?_)
    refine A8 ?_
    refine A7 [4,8] A5 ⟨?_,?_,trivial⟩
    focus
     refine go A0 false ?_
     conv=>whnf
     (repeat refine An ?_)
     refine A8 ?_
     refine A7 [8] A5 ⟨?_,trivial⟩
     refine go A0 false ?_
     conv=>whnf
     (repeat refine An ?_)
     refine A8 ?_
     refine A7 [9] A5 ⟨?_,trivial⟩
     refine go A0 false ?_
     conv=>whnf
     refine A8 ?_
     refine A7 [10] A5 ⟨?_,trivial⟩
     refine go A0 false ?_
     conv=>whnf
     refine A8 ?_
     refine Bl A5 (Ae ?_)
    rotate_left 1
    focus
     refine go A0 false ?_
     conv=>whnf
     (repeat refine An ?_)
     refine A8 ?_
     refine A7 [4] A5 ⟨?_,trivial⟩
     refine go A0 false ?_
     conv=>whnf
     (repeat refine An ?_)
     refine A8 ?_
     refine A7 [9] A5 ⟨?_,trivial⟩
     refine go A0 false ?_
     conv=>whnf
     refine A8 ?_
     refine A7 [10] A5 ⟨?_,trivial⟩
     refine go A0 false ?_
     conv=>whnf
     refine A8 ?_
     refine Bl A5 (Ae ?_)
   rotate_left 2
   focus
    refine go A0 false ?_
    conv=>whnf
    (repeat refine An ?_)
    refine A8 ?_
    refine A7 [4,6] A5 ⟨?_,?_,trivial⟩
    focus
     refine go A0 false ?_
     conv=>whnf
     (repeat refine An ?_)
     refine A8 ?_
     refine A7 [6] A5 ⟨?_,trivial⟩
     refine go A0 false ?_
     conv=>whnf
     (repeat refine An ?_)
     refine A8 ?_
     refine A7 [9] A5 ⟨?_,trivial⟩
     refine go A0 false ?_
     conv=>whnf
     refine A8 ?_
     refine A7 [10] A5 ⟨?_,trivial⟩
     refine go A0 false ?_
     conv=>whnf
     refine A8 ?_
     refine Bl A5 (Ae ?_)
    rotate_left 1
    focus
     refine go A0 false ?_
     conv=>whnf
     (repeat refine An ?_)
     refine A8 ?_
     refine A7 [4] A5 ⟨?_,trivial⟩
     refine go A0 false ?_
     conv=>whnf
     (repeat refine An ?_)
     refine A8 ?_
     refine A7 [9] A5 ⟨?_,trivial⟩
     refine go A0 false ?_
     conv=>whnf
     refine A8 ?_
     refine A7 [10] A5 ⟨?_,trivial⟩
     refine go A0 false ?_
     conv=>whnf
     refine A8 ?_
     refine Bl A5 (Ae ?_)
  rotate_left 6
  focus
   refine go A0 false ?_
   conv=>whnf
   (repeat refine An ?_)
   refine A8 ?_
   refine A7 [2,6,8] A5 ⟨?_,?_,?_,trivial⟩
   focus
    refine go A0 false ?_
    conv=>whnf
    refine Bm A0 rfl rfl rfl rfl rfl rfl rfl rfl rfl rfl rfl (A9 xs) (B1) (fun _=>Ba xs) Ad (Ae ?_)
    refine A8 ?_
    refine A7 [6,8] A5 ⟨?_,?_,trivial⟩
    focus
     refine go A0 false ?_
     conv=>whnf
     (repeat refine An ?_)
     refine A8 ?_
     refine A7 [8] A5 ⟨?_,trivial⟩
     refine go A0 false ?_
     conv=>whnf
     (repeat refine An ?_)
     refine A8 ?_
     refine A7 [9] A5 ⟨?_,trivial⟩
     refine go A0 false ?_
     conv=>whnf
     refine A8 ?_
     refine A7 [10] A5 ⟨?_,trivial⟩
     refine go A0 false ?_
     conv=>whnf
     refine A8 ?_
     refine Bl A5 (Ae ?_)
    rotate_left 1
    focus
     refine go A0 false ?_
     conv=>whnf
     (repeat refine An ?_)
     refine A8 ?_
     refine A7 [6] A5 ⟨?_,trivial⟩
     refine go A0 false ?_
     conv=>whnf
     (repeat refine An ?_)
     refine A8 ?_
     refine A7 [9] A5 ⟨?_,trivial⟩
     refine go A0 false ?_
     conv=>whnf
     refine A8 ?_
     refine A7 [10] A5 ⟨?_,trivial⟩
     refine go A0 false ?_
     conv=>whnf
     refine A8 ?_
     refine Bl A5 (Ae ?_)
   rotate_left 2
   focus
    refine go A0 false ?_
    conv=>whnf
    (repeat refine An ?_)
    refine A8 ?_
    refine A7 [2,8] A5 ⟨?_,?_,trivial⟩
    focus
     refine go A0 false ?_
     conv=>whnf
     refine Bm A0 rfl rfl rfl rfl rfl rfl rfl rfl rfl rfl rfl (A9 xs) (B1) (fun _=>Ba xs) Ad (Ae ?_)
     refine A8 ?_
     refine A7 [8] A5 ⟨?_,trivial⟩
     refine go A0 false ?_
     conv=>whnf
     (repeat refine An ?_)
     refine A8 ?_
     refine A7 [9] A5 ⟨?_,trivial⟩
     refine go A0 false ?_
     conv=>whnf
     refine A8 ?_
     refine A7 [10] A5 ⟨?_,trivial⟩
     refine go A0 false ?_
     conv=>whnf
     refine A8 ?_
     refine Bl A5 (Ae ?_)
    rotate_left 1
    focus
     refine go A0 false ?_
     conv=>whnf
     (repeat refine An ?_)
     refine A8 ?_
     refine A7 [2] A5 ⟨?_,trivial⟩
     refine go A0 false ?_
     conv=>whnf
     refine Bm A0 rfl rfl rfl rfl rfl rfl rfl rfl rfl rfl rfl (A9 xs) (B1) (fun _=>Ba xs) Ad (Ae ?_)
     refine A8 ?_
     refine A7 [9] A5 ⟨?_,trivial⟩
     refine go A0 false ?_
     conv=>whnf
     refine A8 ?_
     refine A7 [10] A5 ⟨?_,trivial⟩
     refine go A0 false ?_
     conv=>whnf
     refine A8 ?_
     refine Bl A5 (Ae ?_)
   rotate_left 2
   focus
    refine go A0 false ?_
    conv=>whnf
    (repeat refine An ?_)
    refine A8 ?_
    refine A7 [2,6] A5 ⟨?_,?_,trivial⟩
    focus
     refine go A0 false ?_
     conv=>whnf
     refine Bm A0 rfl rfl rfl rfl rfl rfl rfl rfl rfl rfl rfl (A9 xs) (B1) (fun _=>Ba xs) Ad (Ae ?_)
     refine A8 ?_
     refine A7 [6] A5 ⟨?_,trivial⟩
     refine go A0 false ?_
     conv=>whnf
     (repeat refine An ?_)
     refine A8 ?_
     refine A7 [9] A5 ⟨?_,trivial⟩
     refine go A0 false ?_
     conv=>whnf
     refine A8 ?_
     refine A7 [10] A5 ⟨?_,trivial⟩
     refine go A0 false ?_
     conv=>whnf
     refine A8 ?_
     refine Bl A5 (Ae ?_)
    rotate_left 1
    focus
     refine go A0 false ?_
     conv=>whnf
     (repeat refine An ?_)
     refine A8 ?_
     refine A7 [2] A5 ⟨?_,trivial⟩
     refine go A0 false ?_
     conv=>whnf
     refine Bm A0 rfl rfl rfl rfl rfl rfl rfl rfl rfl rfl rfl (A9 xs) (B1) (fun _=>Ba xs) Ad (Ae ?_)
     refine A8 ?_
     refine A7 [9] A5 ⟨?_,trivial⟩
     refine go A0 false ?_
     conv=>whnf
     refine A8 ?_
     refine A7 [10] A5 ⟨?_,trivial⟩
     refine go A0 false ?_
     conv=>whnf
     refine A8 ?_
     refine Bl A5 (Ae ?_)
  rotate_left 6
  focus
   refine go A0 false ?_
   conv=>whnf
   (repeat refine An ?_)
   refine A8 ?_
   refine A7 [2,4,8] A5 ⟨?_,?_,?_,trivial⟩
   focus
    refine go A0 false ?_
    conv=>whnf
    refine Bm A0 rfl rfl rfl rfl rfl rfl rfl rfl rfl rfl rfl (A9 xs) (B1) (fun _=>Ba xs) Ad (Ae ?_)
    refine A8 ?_
    refine A7 [4,8] A5 ⟨?_,?_,trivial⟩
    focus
     refine go A0 false ?_
     conv=>whnf
     (repeat refine An ?_)
     refine A8 ?_
     refine A7 [8] A5 ⟨?_,trivial⟩
     refine go A0 false ?_
     conv=>whnf
     (repeat refine An ?_)
     refine A8 ?_
     refine A7 [9] A5 ⟨?_,trivial⟩
     refine go A0 false ?_
     conv=>whnf
     refine A8 ?_
     refine A7 [10] A5 ⟨?_,trivial⟩
     refine go A0 false ?_
     conv=>whnf
     refine A8 ?_
     refine Bl A5 (Ae ?_)
    rotate_left 1
    focus
     refine go A0 false ?_
     conv=>whnf
     (repeat refine An ?_)
     refine A8 ?_
     refine A7 [4] A5 ⟨?_,trivial⟩
     refine go A0 false ?_
     conv=>whnf
     (repeat refine An ?_)
     refine A8 ?_
     refine A7 [9] A5 ⟨?_,trivial⟩
     refine go A0 false ?_
     conv=>whnf
     refine A8 ?_
     refine A7 [10] A5 ⟨?_,trivial⟩
     refine go A0 false ?_
     conv=>whnf
     refine A8 ?_
     refine Bl A5 (Ae ?_)
   rotate_left 2
   focus
    refine go A0 false ?_
    conv=>whnf
    (repeat refine An ?_)
    refine A8 ?_
    refine A7 [2,8] A5 ⟨?_,?_,trivial⟩
    focus
     refine go A0 false ?_
     conv=>whnf
     refine Bm A0 rfl rfl rfl rfl rfl rfl rfl rfl rfl rfl rfl (A9 xs) (B1) (fun _=>Ba xs) Ad (Ae ?_)
     refine A8 ?_
     refine A7 [8] A5 ⟨?_,trivial⟩
     refine go A0 false ?_
     conv=>whnf
     (repeat refine An ?_)
     refine A8 ?_
     refine A7 [9] A5 ⟨?_,trivial⟩
     refine go A0 false ?_
     conv=>whnf
     refine A8 ?_
     refine A7 [10] A5 ⟨?_,trivial⟩
     refine go A0 false ?_
     conv=>whnf
     refine A8 ?_
     refine Bl A5 (Ae ?_)
    rotate_left 1
    focus
     refine go A0 false ?_
     conv=>whnf
     (repeat refine An ?_)
     refine A8 ?_
     refine A7 [2] A5 ⟨?_,trivial⟩
     refine go A0 false ?_
     conv=>whnf
     refine Bm A0 rfl rfl rfl rfl rfl rfl rfl rfl rfl rfl rfl (A9 xs) (B1) (fun _=>Ba xs) Ad (Ae ?_)
     refine A8 ?_
     refine A7 [9] A5 ⟨?_,trivial⟩
     refine go A0 false ?_
     conv=>whnf
     refine A8 ?_
     refine A7 [10] A5 ⟨?_,trivial⟩
     refine go A0 false ?_
     conv=>whnf
     refine A8 ?_
     refine Bl A5 (Ae ?_)
   rotate_left 2
   focus
    refine go A0 false ?_
    conv=>whnf
    (repeat refine An ?_)
    refine A8 ?_
    refine A7 [2,4] A5 ⟨?_,?_,trivial⟩
    focus
     refine go A0 false ?_
     conv=>whnf
     refine Bm A0 rfl rfl rfl rfl rfl rfl rfl rfl rfl rfl rfl (A9 xs) (B1) (fun _=>Ba xs) Ad (Ae ?_)
     refine A8 ?_
     refine A7 [4] A5 ⟨?_,trivial⟩
     refine go A0 false ?_
     conv=>whnf
     (repeat refine An ?_)
     refine A8 ?_
     refine A7 [9] A5 ⟨?_,trivial⟩
     refine go A0 false ?_
     conv=>whnf
     refine A8 ?_
     refine A7 [10] A5 ⟨?_,trivial⟩
     refine go A0 false ?_
     conv=>whnf
     refine A8 ?_
     refine Bl A5 (Ae ?_)
    rotate_left 1
    focus
     refine go A0 false ?_
     conv=>whnf
     (repeat refine An ?_)
     refine A8 ?_
     refine A7 [2] A5 ⟨?_,trivial⟩
     refine go A0 false ?_
     conv=>whnf
     refine Bm A0 rfl rfl rfl rfl rfl rfl rfl rfl rfl rfl rfl (A9 xs) (B1) (fun _=>Ba xs) Ad (Ae ?_)
     refine A8 ?_
     refine A7 [9] A5 ⟨?_,trivial⟩
     refine go A0 false ?_
     conv=>whnf
     refine A8 ?_
     refine A7 [10] A5 ⟨?_,trivial⟩
     refine go A0 false ?_
     conv=>whnf
     refine A8 ?_
     refine Bl A5 (Ae ?_)
  rotate_left 6
  focus
   refine go A0 false ?_
   conv=>whnf
   (repeat refine An ?_)
   refine A8 ?_
   refine A7 [2,4,6] A5 ⟨?_,?_,?_,trivial⟩
   focus
    refine go A0 false ?_
    conv=>whnf
    refine Bm A0 rfl rfl rfl rfl rfl rfl rfl rfl rfl rfl rfl (A9 xs) (B1) (fun _=>Ba xs) Ad (Ae ?_)
    refine A8 ?_
    refine A7 [4,6] A5 ⟨?_,?_,trivial⟩
    focus
     refine go A0 false ?_
     conv=>whnf
     (repeat refine An ?_)
     refine A8 ?_
     refine A7 [6] A5 ⟨?_,trivial⟩
     refine go A0 false ?_
     conv=>whnf
     (repeat refine An ?_)
     refine A8 ?_
     refine A7 [9] A5 ⟨?_,trivial⟩
     refine go A0 false ?_
     conv=>whnf
     refine A8 ?_
     refine A7 [10] A5 ⟨?_,trivial⟩
     refine go A0 false ?_
     conv=>whnf
     refine A8 ?_
     refine Bl A5 (Ae ?_)
    rotate_left 1
    focus
     refine go A0 false ?_
     conv=>whnf
     (repeat refine An ?_)
     refine A8 ?_
     refine A7 [4] A5 ⟨?_,trivial⟩
     refine go A0 false ?_
     conv=>whnf
     (repeat refine An ?_)
     refine A8 ?_
     refine A7 [9] A5 ⟨?_,trivial⟩
     refine go A0 false ?_
     conv=>whnf
     refine A8 ?_
     refine A7 [10] A5 ⟨?_,trivial⟩
     refine go A0 false ?_
     conv=>whnf
     refine A8 ?_
     refine Bl A5 (Ae ?_)
   rotate_left 2
   focus
    refine go A0 false ?_
    conv=>whnf
    (repeat refine An ?_)
    refine A8 ?_
    refine A7 [2,6] A5 ⟨?_,?_,trivial⟩
    focus
     refine go A0 false ?_
     conv=>whnf
     refine Bm A0 rfl rfl rfl rfl rfl rfl rfl rfl rfl rfl rfl (A9 xs) (B1) (fun _=>Ba xs) Ad (Ae ?_)
     refine A8 ?_
     refine A7 [6] A5 ⟨?_,trivial⟩
     refine go A0 false ?_
     conv=>whnf
     (repeat refine An ?_)
     refine A8 ?_
     refine A7 [9] A5 ⟨?_,trivial⟩
     refine go A0 false ?_
     conv=>whnf
     refine A8 ?_
     refine A7 [10] A5 ⟨?_,trivial⟩
     refine go A0 false ?_
     conv=>whnf
     refine A8 ?_
     refine Bl A5 (Ae ?_)
    rotate_left 1
    focus
     refine go A0 false ?_
     conv=>whnf
     (repeat refine An ?_)
     refine A8 ?_
     refine A7 [2] A5 ⟨?_,trivial⟩
     refine go A0 false ?_
     conv=>whnf
     refine Bm A0 rfl rfl rfl rfl rfl rfl rfl rfl rfl rfl rfl (A9 xs) (B1) (fun _=>Ba xs) Ad (Ae ?_)
     refine A8 ?_
     refine A7 [9] A5 ⟨?_,trivial⟩
     refine go A0 false ?_
     conv=>whnf
     refine A8 ?_
     refine A7 [10] A5 ⟨?_,trivial⟩
     refine go A0 false ?_
     conv=>whnf
     refine A8 ?_
     refine Bl A5 (Ae ?_)
   rotate_left 2
   focus
    refine go A0 false ?_
    conv=>whnf
    (repeat refine An ?_)
    refine A8 ?_
    refine A7 [2,4] A5 ⟨?_,?_,trivial⟩
    focus
     refine go A0 false ?_
     conv=>whnf
     refine Bm A0 rfl rfl rfl rfl rfl rfl rfl rfl rfl rfl rfl (A9 xs) (B1) (fun _=>Ba xs) Ad (Ae ?_)
     refine A8 ?_
     refine A7 [4] A5 ⟨?_,trivial⟩
     refine go A0 false ?_
     conv=>whnf
     (repeat refine An ?_)
     refine A8 ?_
     refine A7 [9] A5 ⟨?_,trivial⟩
     refine go A0 false ?_
     conv=>whnf
     refine A8 ?_
     refine A7 [10] A5 ⟨?_,trivial⟩
     refine go A0 false ?_
     conv=>whnf
     refine A8 ?_
     refine Bl A5 (Ae ?_)
    rotate_left 1
    focus
     refine go A0 false ?_
     conv=>whnf
     (repeat refine An ?_)
     refine A8 ?_
     refine A7 [2] A5 ⟨?_,trivial⟩
     refine go A0 false ?_
     conv=>whnf
     refine Bm A0 rfl rfl rfl rfl rfl rfl rfl rfl rfl rfl rfl (A9 xs) (B1) (fun _=>Ba xs) Ad (Ae ?_)
     refine A8 ?_
     refine A7 [9] A5 ⟨?_,trivial⟩
     refine go A0 false ?_
     conv=>whnf
     refine A8 ?_
     refine A7 [10] A5 ⟨?_,trivial⟩
     refine go A0 false ?_
     conv=>whnf
     refine A8 ?_
     refine Bl A5 (Ae ?_)
 rotate_left 24
 focus
  refine go A0 false ?_
  conv=>whnf
  (repeat refine An ?_)
  refine A8 ?_
  refine A7 [0,6,8] A5 ⟨?_,?_,?_,trivial⟩
  focus
   refine go A0 false ?_
   conv=>whnf
   refine A8 ?_
   refine A7 [2,6,8] A5 ⟨?_,?_,?_,trivial⟩
   focus
    refine go A0 false ?_
    conv=>whnf
    refine Bm A0 rfl rfl rfl rfl rfl rfl rfl rfl rfl rfl rfl (A9 xs) (B1) (fun _=>Ba xs) Ad (Ae ?_)
    refine A8 ?_
    refine A7 [6,8] A5 ⟨?_,?_,trivial⟩
    focus
     refine go A0 false ?_
     conv=>whnf
     (repeat refine An ?_)
     refine A8 ?_
     refine A7 [8] A5 ⟨?_,trivial⟩
     refine go A0 false ?_
     conv=>whnf
     (repeat refine An ?_)
     refine A8 ?_
     refine A7 [9] A5 ⟨?_,trivial⟩
     refine go A0 false ?_
     conv=>whnf
     refine A8 ?_
     refine A7 [10] A5 ⟨?_,trivial⟩
     refine go A0 false ?_
     conv=>whnf
     refine A8 ?_
     refine Bl A5 (Ae ?_)
    rotate_left 1
    focus
     refine go A0 false ?_
     conv=>whnf
     (repeat refine An ?_)
     refine A8 ?_
     refine A7 [6] A5 ⟨?_,trivial⟩
     refine go A0 false ?_
     conv=>whnf
     (repeat refine An ?_)
     refine A8 ?_
     refine A7 [9] A5 ⟨?_,trivial⟩
     refine go A0 false ?_
     conv=>whnf
     refine A8 ?_
     refine A7 [10] A5 ⟨?_,trivial⟩
     refine go A0 false ?_
     conv=>whnf
     refine A8 ?_
     refine Bl A5 (Ae ?_)
   rotate_left 2
   focus
    refine go A0 false ?_
    conv=>whnf
    (repeat refine An ?_)
    refine A8 ?_
    refine A7 [2,8] A5 ⟨?_,?_,trivial⟩
    focus
     refine go A0 false ?_
     conv=>whnf
     refine Bm A0 rfl rfl rfl rfl rfl rfl rfl rfl rfl rfl rfl (A9 xs) (B1) (fun _=>Ba xs) Ad (Ae ?_)
     refine A8 ?_
     refine A7 [8] A5 ⟨?_,trivial⟩
     refine go A0 false ?_
     conv=>whnf
     (repeat refine An ?_)
     refine A8 ?_
     refine A7 [9] A5 ⟨?_,trivial⟩
     refine go A0 false ?_
     conv=>whnf
     refine A8 ?_
     refine A7 [10] A5 ⟨?_,trivial⟩
     refine go A0 false ?_
     conv=>whnf
     refine A8 ?_
     refine Bl A5 (Ae ?_)
    rotate_left 1
    focus
     refine go A0 false ?_
     conv=>whnf
     (repeat refine An ?_)
     refine A8 ?_
     refine A7 [2] A5 ⟨?_,trivial⟩
     refine go A0 false ?_
     conv=>whnf
     refine Bm A0 rfl rfl rfl rfl rfl rfl rfl rfl rfl rfl rfl (A9 xs) (B1) (fun _=>Ba xs) Ad (Ae ?_)
     refine A8 ?_
     refine A7 [9] A5 ⟨?_,trivial⟩
     refine go A0 false ?_
     conv=>whnf
     refine A8 ?_
     refine A7 [10] A5 ⟨?_,trivial⟩
     refine go A0 false ?_
     conv=>whnf
     refine A8 ?_
     refine Bl A5 (Ae ?_)
   rotate_left 2
   focus
    refine go A0 false ?_
    conv=>whnf
    (repeat refine An ?_)
    refine A8 ?_
    refine A7 [2,6] A5 ⟨?_,?_,trivial⟩
    focus
     refine go A0 false ?_
     conv=>whnf
     refine Bm A0 rfl rfl rfl rfl rfl rfl rfl rfl rfl rfl rfl (A9 xs) (B1) (fun _=>Ba xs) Ad (Ae ?_)
     refine A8 ?_
     refine A7 [6] A5 ⟨?_,trivial⟩
     refine go A0 false ?_
     conv=>whnf
     (repeat refine An ?_)
     refine A8 ?_
     refine A7 [9] A5 ⟨?_,trivial⟩
     refine go A0 false ?_
     conv=>whnf
     refine A8 ?_
     refine A7 [10] A5 ⟨?_,trivial⟩
     refine go A0 false ?_
     conv=>whnf
     refine A8 ?_
     refine Bl A5 (Ae ?_)
    rotate_left 1
    focus
     refine go A0 false ?_
     conv=>whnf
     (repeat refine An ?_)
     refine A8 ?_
     refine A7 [2] A5 ⟨?_,trivial⟩
     refine go A0 false ?_
     conv=>whnf
     refine Bm A0 rfl rfl rfl rfl rfl rfl rfl rfl rfl rfl rfl (A9 xs) (B1) (fun _=>Ba xs) Ad (Ae ?_)
     refine A8 ?_
     refine A7 [9] A5 ⟨?_,trivial⟩
     refine go A0 false ?_
     conv=>whnf
     refine A8 ?_
     refine A7 [10] A5 ⟨?_,trivial⟩
     refine go A0 false ?_
     conv=>whnf
     refine A8 ?_
     refine Bl A5 (Ae ?_)
  rotate_left 6
  focus
   refine go A0 false ?_
   conv=>whnf
   (repeat refine An ?_)
   refine A8 ?_
   refine A7 [0,8] A5 ⟨?_,?_,trivial⟩
   focus
    refine go A0 false ?_
    conv=>whnf
    refine A8 ?_
    refine A7 [2,8] A5 ⟨?_,?_,trivial⟩
    focus
     refine go A0 false ?_
     conv=>whnf
     refine Bm A0 rfl rfl rfl rfl rfl rfl rfl rfl rfl rfl rfl (A9 xs) (B1) (fun _=>Ba xs) Ad (Ae ?_)
     refine A8 ?_
     refine A7 [8] A5 ⟨?_,trivial⟩
     refine go A0 false ?_
     conv=>whnf
     (repeat refine An ?_)
     refine A8 ?_
     refine A7 [9] A5 ⟨?_,trivial⟩
     refine go A0 false ?_
     conv=>whnf
     refine A8 ?_
     refine A7 [10] A5 ⟨?_,trivial⟩
     refine go A0 false ?_
     conv=>whnf
     refine A8 ?_
     refine Bl A5 (Ae ?_)
    rotate_left 1
    focus
     refine go A0 false ?_
     conv=>whnf
     (repeat refine An ?_)
     refine A8 ?_
     refine A7 [2] A5 ⟨?_,trivial⟩
     refine go A0 false ?_
     conv=>whnf
     refine Bm A0 rfl rfl rfl rfl rfl rfl rfl rfl rfl rfl rfl (A9 xs) (B1) (fun _=>Ba xs) Ad (Ae ?_)
     refine A8 ?_
     refine A7 [9] A5 ⟨?_,trivial⟩
     refine go A0 false ?_
     conv=>whnf
     refine A8 ?_
     refine A7 [10] A5 ⟨?_,trivial⟩
     refine go A0 false ?_
     conv=>whnf
     refine A8 ?_
     refine Bl A5 (Ae ?_)
   rotate_left 2
   focus
    refine go A0 false ?_
    conv=>whnf
    (repeat refine An ?_)
    refine A8 ?_
    refine A7 [0] A5 ⟨?_,trivial⟩
    refine go A0 false ?_
    conv=>whnf
    refine A8 ?_
    refine A7 [2] A5 ⟨?_,trivial⟩
    refine go A0 false ?_
    conv=>whnf
    refine Bm A0 rfl rfl rfl rfl rfl rfl rfl rfl rfl rfl rfl (A9 xs) (B1) (fun _=>Ba xs) Ad (Ae ?_)
    refine A8 ?_
    refine A7 [9] A5 ⟨?_,trivial⟩
    refine go A0 false ?_
    conv=>whnf
    refine A8 ?_
    refine A7 [10] A5 ⟨?_,trivial⟩
    refine go A0 false ?_
    conv=>whnf
    refine A8 ?_
    refine Bl A5 (Ae ?_)
  rotate_left 3
  focus
   refine go A0 false ?_
   conv=>whnf
   (repeat refine An ?_)
   refine A8 ?_
   refine A7 [0,6] A5 ⟨?_,?_,trivial⟩
   focus
    refine go A0 false ?_
    conv=>whnf
    refine A8 ?_
    refine A7 [2,6] A5 ⟨?_,?_,trivial⟩
    focus
     refine go A0 false ?_
     conv=>whnf
     refine Bm A0 rfl rfl rfl rfl rfl rfl rfl rfl rfl rfl rfl (A9 xs) (B1) (fun _=>Ba xs) Ad (Ae ?_)
     refine A8 ?_
     refine A7 [6] A5 ⟨?_,trivial⟩
     refine go A0 false ?_
     conv=>whnf
     (repeat refine An ?_)
     refine A8 ?_
     refine A7 [9] A5 ⟨?_,trivial⟩
     refine go A0 false ?_
     conv=>whnf
     refine A8 ?_
     refine A7 [10] A5 ⟨?_,trivial⟩
     refine go A0 false ?_
     conv=>whnf
     refine A8 ?_
     refine Bl A5 (Ae ?_)
    rotate_left 1
    focus
     refine go A0 false ?_
     conv=>whnf
     (repeat refine An ?_)
     refine A8 ?_
     refine A7 [2] A5 ⟨?_,trivial⟩
     refine go A0 false ?_
     conv=>whnf
     refine Bm A0 rfl rfl rfl rfl rfl rfl rfl rfl rfl rfl rfl (A9 xs) (B1) (fun _=>Ba xs) Ad (Ae ?_)
     refine A8 ?_
     refine A7 [9] A5 ⟨?_,trivial⟩
     refine go A0 false ?_
     conv=>whnf
     refine A8 ?_
     refine A7 [10] A5 ⟨?_,trivial⟩
     refine go A0 false ?_
     conv=>whnf
     refine A8 ?_
     refine Bl A5 (Ae ?_)
   rotate_left 2
   focus
    refine go A0 false ?_
    conv=>whnf
    (repeat refine An ?_)
    refine A8 ?_
    refine A7 [0] A5 ⟨?_,trivial⟩
    refine go A0 false ?_
    conv=>whnf
    refine A8 ?_
    refine A7 [2] A5 ⟨?_,trivial⟩
    refine go A0 false ?_
    conv=>whnf
    refine Bm A0 rfl rfl rfl rfl rfl rfl rfl rfl rfl rfl rfl (A9 xs) (B1) (fun _=>Ba xs) Ad (Ae ?_)
    refine A8 ?_
    refine A7 [9] A5 ⟨?_,trivial⟩
    refine go A0 false ?_
    conv=>whnf
    refine A8 ?_
    refine A7 [10] A5 ⟨?_,trivial⟩
    refine go A0 false ?_
    conv=>whnf
    refine A8 ?_
    refine Bl A5 (Ae ?_)
 rotate_left 12
 focus
  refine go A0 false ?_
  conv=>whnf
  (repeat refine An ?_)
  refine A8 ?_
  refine A7 [0,4,8] A5 ⟨?_,?_,?_,trivial⟩
  focus
   refine go A0 false ?_
   conv=>whnf
   refine A8 ?_
   refine A7 [2,4,8] A5 ⟨?_,?_,?_,trivial⟩
   focus
    refine go A0 false ?_
    conv=>whnf
    refine Bm A0 rfl rfl rfl rfl rfl rfl rfl rfl rfl rfl rfl (A9 xs) (B1) (fun _=>Ba xs) Ad (Ae ?_)
    refine A8 ?_
    refine A7 [4,8] A5 ⟨?_,?_,trivial⟩
    focus
     refine go A0 false ?_
     conv=>whnf
     (repeat refine An ?_)
     refine A8 ?_
     refine A7 [8] A5 ⟨?_,trivial⟩
     refine go A0 false ?_
     conv=>whnf
     (repeat refine An ?_)
     refine A8 ?_
     refine A7 [9] A5 ⟨?_,trivial⟩
     refine go A0 false ?_
     conv=>whnf
     refine A8 ?_
     refine A7 [10] A5 ⟨?_,trivial⟩
     refine go A0 false ?_
     conv=>whnf
     refine A8 ?_
     refine Bl A5 (Ae ?_)
    rotate_left 1
    focus
     refine go A0 false ?_
     conv=>whnf
     (repeat refine An ?_)
     refine A8 ?_
     refine A7 [4] A5 ⟨?_,trivial⟩
     refine go A0 false ?_
     conv=>whnf
     (repeat refine An ?_)
     refine A8 ?_
     refine A7 [9] A5 ⟨?_,trivial⟩
     refine go A0 false ?_
     conv=>whnf
     refine A8 ?_
     refine A7 [10] A5 ⟨?_,trivial⟩
     refine go A0 false ?_
     conv=>whnf
     refine A8 ?_
     refine Bl A5 (Ae ?_)
   rotate_left 2
   focus
    refine go A0 false ?_
    conv=>whnf
    (repeat refine An ?_)
    refine A8 ?_
    refine A7 [2,8] A5 ⟨?_,?_,trivial⟩
    focus
     refine go A0 false ?_
     conv=>whnf
     refine Bm A0 rfl rfl rfl rfl rfl rfl rfl rfl rfl rfl rfl (A9 xs) (B1) (fun _=>Ba xs) Ad (Ae ?_)
     refine A8 ?_
     refine A7 [8] A5 ⟨?_,trivial⟩
     refine go A0 false ?_
     conv=>whnf
     (repeat refine An ?_)
     refine A8 ?_
     refine A7 [9] A5 ⟨?_,trivial⟩
     refine go A0 false ?_
     conv=>whnf
     refine A8 ?_
     refine A7 [10] A5 ⟨?_,trivial⟩
     refine go A0 false ?_
     conv=>whnf
     refine A8 ?_
     refine Bl A5 (Ae ?_)
    rotate_left 1
    focus
     refine go A0 false ?_
     conv=>whnf
     (repeat refine An ?_)
     refine A8 ?_
     refine A7 [2] A5 ⟨?_,trivial⟩
     refine go A0 false ?_
     conv=>whnf
     refine Bm A0 rfl rfl rfl rfl rfl rfl rfl rfl rfl rfl rfl (A9 xs) (B1) (fun _=>Ba xs) Ad (Ae ?_)
     refine A8 ?_
     refine A7 [9] A5 ⟨?_,trivial⟩
     refine go A0 false ?_
     conv=>whnf
     refine A8 ?_
     refine A7 [10] A5 ⟨?_,trivial⟩
     refine go A0 false ?_
     conv=>whnf
     refine A8 ?_
     refine Bl A5 (Ae ?_)
   rotate_left 2
   focus
    refine go A0 false ?_
    conv=>whnf
    (repeat refine An ?_)
    refine A8 ?_
    refine A7 [2,4] A5 ⟨?_,?_,trivial⟩
    focus
     refine go A0 false ?_
     conv=>whnf
     refine Bm A0 rfl rfl rfl rfl rfl rfl rfl rfl rfl rfl rfl (A9 xs) (B1) (fun _=>Ba xs) Ad (Ae ?_)
     refine A8 ?_
     refine A7 [4] A5 ⟨?_,trivial⟩
     refine go A0 false ?_
     conv=>whnf
     (repeat refine An ?_)
     refine A8 ?_
     refine A7 [9] A5 ⟨?_,trivial⟩
     refine go A0 false ?_
     conv=>whnf
     refine A8 ?_
     refine A7 [10] A5 ⟨?_,trivial⟩
     refine go A0 false ?_
     conv=>whnf
     refine A8 ?_
     refine Bl A5 (Ae ?_)
    rotate_left 1
    focus
     refine go A0 false ?_
     conv=>whnf
     (repeat refine An ?_)
     refine A8 ?_
     refine A7 [2] A5 ⟨?_,trivial⟩
     refine go A0 false ?_
     conv=>whnf
     refine Bm A0 rfl rfl rfl rfl rfl rfl rfl rfl rfl rfl rfl (A9 xs) (B1) (fun _=>Ba xs) Ad (Ae ?_)
     refine A8 ?_
     refine A7 [9] A5 ⟨?_,trivial⟩
     refine go A0 false ?_
     conv=>whnf
     refine A8 ?_
     refine A7 [10] A5 ⟨?_,trivial⟩
     refine go A0 false ?_
     conv=>whnf
     refine A8 ?_
     refine Bl A5 (Ae ?_)
  rotate_left 6
  focus
   refine go A0 false ?_
   conv=>whnf
   (repeat refine An ?_)
   refine A8 ?_
   refine A7 [0,8] A5 ⟨?_,?_,trivial⟩
   focus
    refine go A0 false ?_
    conv=>whnf
    refine A8 ?_
    refine A7 [2,8] A5 ⟨?_,?_,trivial⟩
    focus
     refine go A0 false ?_
     conv=>whnf
     refine Bm A0 rfl rfl rfl rfl rfl rfl rfl rfl rfl rfl rfl (A9 xs) (B1) (fun _=>Ba xs) Ad (Ae ?_)
     refine A8 ?_
     refine A7 [8] A5 ⟨?_,trivial⟩
     refine go A0 false ?_
     conv=>whnf
     (repeat refine An ?_)
     refine A8 ?_
     refine A7 [9] A5 ⟨?_,trivial⟩
     refine go A0 false ?_
     conv=>whnf
     refine A8 ?_
     refine A7 [10] A5 ⟨?_,trivial⟩
     refine go A0 false ?_
     conv=>whnf
     refine A8 ?_
     refine Bl A5 (Ae ?_)
    rotate_left 1
    focus
     refine go A0 false ?_
     conv=>whnf
     (repeat refine An ?_)
     refine A8 ?_
     refine A7 [2] A5 ⟨?_,trivial⟩
     refine go A0 false ?_
     conv=>whnf
     refine Bm A0 rfl rfl rfl rfl rfl rfl rfl rfl rfl rfl rfl (A9 xs) (B1) (fun _=>Ba xs) Ad (Ae ?_)
     refine A8 ?_
     refine A7 [9] A5 ⟨?_,trivial⟩
     refine go A0 false ?_
     conv=>whnf
     refine A8 ?_
     refine A7 [10] A5 ⟨?_,trivial⟩
     refine go A0 false ?_
     conv=>whnf
     refine A8 ?_
     refine Bl A5 (Ae ?_)
   rotate_left 2
   focus
    refine go A0 false ?_
    conv=>whnf
    (repeat refine An ?_)
    refine A8 ?_
    refine A7 [0] A5 ⟨?_,trivial⟩
    refine go A0 false ?_
    conv=>whnf
    refine A8 ?_
    refine A7 [2] A5 ⟨?_,trivial⟩
    refine go A0 false ?_
    conv=>whnf
    refine Bm A0 rfl rfl rfl rfl rfl rfl rfl rfl rfl rfl rfl (A9 xs) (B1) (fun _=>Ba xs) Ad (Ae ?_)
    refine A8 ?_
    refine A7 [9] A5 ⟨?_,trivial⟩
    refine go A0 false ?_
    conv=>whnf
    refine A8 ?_
    refine A7 [10] A5 ⟨?_,trivial⟩
    refine go A0 false ?_
    conv=>whnf
    refine A8 ?_
    refine Bl A5 (Ae ?_)
  rotate_left 3
  focus
   refine go A0 false ?_
   conv=>whnf
   (repeat refine An ?_)
   refine A8 ?_
   refine A7 [0,4] A5 ⟨?_,?_,trivial⟩
   focus
    refine go A0 false ?_
    conv=>whnf
    refine A8 ?_
    refine A7 [2,4] A5 ⟨?_,?_,trivial⟩
    focus
     refine go A0 false ?_
     conv=>whnf
     refine Bm A0 rfl rfl rfl rfl rfl rfl rfl rfl rfl rfl rfl (A9 xs) (B1) (fun _=>Ba xs) Ad (Ae ?_)
     refine A8 ?_
     refine A7 [4] A5 ⟨?_,trivial⟩
     refine go A0 false ?_
     conv=>whnf
     (repeat refine An ?_)
     refine A8 ?_
     refine A7 [9] A5 ⟨?_,trivial⟩
     refine go A0 false ?_
     conv=>whnf
     refine A8 ?_
     refine A7 [10] A5 ⟨?_,trivial⟩
     refine go A0 false ?_
     conv=>whnf
     refine A8 ?_
     refine Bl A5 (Ae ?_)
    rotate_left 1
    focus
     refine go A0 false ?_
     conv=>whnf
     (repeat refine An ?_)
     refine A8 ?_
     refine A7 [2] A5 ⟨?_,trivial⟩
     refine go A0 false ?_
     conv=>whnf
     refine Bm A0 rfl rfl rfl rfl rfl rfl rfl rfl rfl rfl rfl (A9 xs) (B1) (fun _=>Ba xs) Ad (Ae ?_)
     refine A8 ?_
     refine A7 [9] A5 ⟨?_,trivial⟩
     refine go A0 false ?_
     conv=>whnf
     refine A8 ?_
     refine A7 [10] A5 ⟨?_,trivial⟩
     refine go A0 false ?_
     conv=>whnf
     refine A8 ?_
     refine Bl A5 (Ae ?_)
   rotate_left 2
   focus
    refine go A0 false ?_
    conv=>whnf
    (repeat refine An ?_)
    refine A8 ?_
    refine A7 [0] A5 ⟨?_,trivial⟩
    refine go A0 false ?_
    conv=>whnf
    refine A8 ?_
    refine A7 [2] A5 ⟨?_,trivial⟩
    refine go A0 false ?_
    conv=>whnf
    refine Bm A0 rfl rfl rfl rfl rfl rfl rfl rfl rfl rfl rfl (A9 xs) (B1) (fun _=>Ba xs) Ad (Ae ?_)
    refine A8 ?_
    refine A7 [9] A5 ⟨?_,trivial⟩
    refine go A0 false ?_
    conv=>whnf
    refine A8 ?_
    refine A7 [10] A5 ⟨?_,trivial⟩
    refine go A0 false ?_
    conv=>whnf
    refine A8 ?_
    refine Bl A5 (Ae ?_)
 rotate_left 12
 focus
  refine go A0 false ?_
  conv=>whnf
  (repeat refine An ?_)
  refine A8 ?_
  refine A7 [0,4,6] A5 ⟨?_,?_,?_,trivial⟩
  focus
   refine go A0 false ?_
   conv=>whnf
   refine A8 ?_
   refine A7 [2,4,6] A5 ⟨?_,?_,?_,trivial⟩
   focus
    refine go A0 false ?_
    conv=>whnf
    refine Bm A0 rfl rfl rfl rfl rfl rfl rfl rfl rfl rfl rfl (A9 xs) (B1) (fun _=>Ba xs) Ad (Ae ?_)
    refine A8 ?_
    refine A7 [4,6] A5 ⟨?_,?_,trivial⟩
    focus
     refine go A0 false ?_
     conv=>whnf
     (repeat refine An ?_)
     refine A8 ?_
     refine A7 [6] A5 ⟨?_,trivial⟩
     refine go A0 false ?_
     conv=>whnf
     (repeat refine An ?_)
     refine A8 ?_
     refine A7 [9] A5 ⟨?_,trivial⟩
     refine go A0 false ?_
     conv=>whnf
     refine A8 ?_
     refine A7 [10] A5 ⟨?_,trivial⟩
     refine go A0 false ?_
     conv=>whnf
     refine A8 ?_
     refine Bl A5 (Ae ?_)
    rotate_left 1
    focus
     refine go A0 false ?_
     conv=>whnf
     (repeat refine An ?_)
     refine A8 ?_
     refine A7 [4] A5 ⟨?_,trivial⟩
     refine go A0 false ?_
     conv=>whnf
     (repeat refine An ?_)
     refine A8 ?_
     refine A7 [9] A5 ⟨?_,trivial⟩
     refine go A0 false ?_
     conv=>whnf
     refine A8 ?_
     refine A7 [10] A5 ⟨?_,trivial⟩
     refine go A0 false ?_
     conv=>whnf
     refine A8 ?_
     refine Bl A5 (Ae ?_)
   rotate_left 2
   focus
    refine go A0 false ?_
    conv=>whnf
    (repeat refine An ?_)
    refine A8 ?_
    refine A7 [2,6] A5 ⟨?_,?_,trivial⟩
    focus
     refine go A0 false ?_
     conv=>whnf
     refine Bm A0 rfl rfl rfl rfl rfl rfl rfl rfl rfl rfl rfl (A9 xs) (B1) (fun _=>Ba xs) Ad (Ae ?_)
     refine A8 ?_
     refine A7 [6] A5 ⟨?_,trivial⟩
     refine go A0 false ?_
     conv=>whnf
     (repeat refine An ?_)
     refine A8 ?_
     refine A7 [9] A5 ⟨?_,trivial⟩
     refine go A0 false ?_
     conv=>whnf
     refine A8 ?_
     refine A7 [10] A5 ⟨?_,trivial⟩
     refine go A0 false ?_
     conv=>whnf
     refine A8 ?_
     refine Bl A5 (Ae ?_)
    rotate_left 1
    focus
     refine go A0 false ?_
     conv=>whnf
     (repeat refine An ?_)
     refine A8 ?_
     refine A7 [2] A5 ⟨?_,trivial⟩
     refine go A0 false ?_
     conv=>whnf
     refine Bm A0 rfl rfl rfl rfl rfl rfl rfl rfl rfl rfl rfl (A9 xs) (B1) (fun _=>Ba xs) Ad (Ae ?_)
     refine A8 ?_
     refine A7 [9] A5 ⟨?_,trivial⟩
     refine go A0 false ?_
     conv=>whnf
     refine A8 ?_
     refine A7 [10] A5 ⟨?_,trivial⟩
     refine go A0 false ?_
     conv=>whnf
     refine A8 ?_
     refine Bl A5 (Ae ?_)
   rotate_left 2
   focus
    refine go A0 false ?_
    conv=>whnf
    (repeat refine An ?_)
    refine A8 ?_
    refine A7 [2,4] A5 ⟨?_,?_,trivial⟩
    focus
     refine go A0 false ?_
     conv=>whnf
     refine Bm A0 rfl rfl rfl rfl rfl rfl rfl rfl rfl rfl rfl (A9 xs) (B1) (fun _=>Ba xs) Ad (Ae ?_)
     refine A8 ?_
     refine A7 [4] A5 ⟨?_,trivial⟩
     refine go A0 false ?_
     conv=>whnf
     (repeat refine An ?_)
     refine A8 ?_
     refine A7 [9] A5 ⟨?_,trivial⟩
     refine go A0 false ?_
     conv=>whnf
     refine A8 ?_
     refine A7 [10] A5 ⟨?_,trivial⟩
     refine go A0 false ?_
     conv=>whnf
     refine A8 ?_
     refine Bl A5 (Ae ?_)
    rotate_left 1
    focus
     refine go A0 false ?_
     conv=>whnf
     (repeat refine An ?_)
     refine A8 ?_
     refine A7 [2] A5 ⟨?_,trivial⟩
     refine go A0 false ?_
     conv=>whnf
     refine Bm A0 rfl rfl rfl rfl rfl rfl rfl rfl rfl rfl rfl (A9 xs) (B1) (fun _=>Ba xs) Ad (Ae ?_)
     refine A8 ?_
     refine A7 [9] A5 ⟨?_,trivial⟩
     refine go A0 false ?_
     conv=>whnf
     refine A8 ?_
     refine A7 [10] A5 ⟨?_,trivial⟩
     refine go A0 false ?_
     conv=>whnf
     refine A8 ?_
     refine Bl A5 (Ae ?_)
  rotate_left 6
  focus
   refine go A0 false ?_
   conv=>whnf
   (repeat refine An ?_)
   refine A8 ?_
   refine A7 [0,6] A5 ⟨?_,?_,trivial⟩
   focus
    refine go A0 false ?_
    conv=>whnf
    refine A8 ?_
    refine A7 [2,6] A5 ⟨?_,?_,trivial⟩
    focus
     refine go A0 false ?_
     conv=>whnf
     refine Bm A0 rfl rfl rfl rfl rfl rfl rfl rfl rfl rfl rfl (A9 xs) (B1) (fun _=>Ba xs) Ad (Ae ?_)
     refine A8 ?_
     refine A7 [6] A5 ⟨?_,trivial⟩
     refine go A0 false ?_
     conv=>whnf
     (repeat refine An ?_)
     refine A8 ?_
     refine A7 [9] A5 ⟨?_,trivial⟩
     refine go A0 false ?_
     conv=>whnf
     refine A8 ?_
     refine A7 [10] A5 ⟨?_,trivial⟩
     refine go A0 false ?_
     conv=>whnf
     refine A8 ?_
     refine Bl A5 (Ae ?_)
    rotate_left 1
    focus
     refine go A0 false ?_
     conv=>whnf
     (repeat refine An ?_)
     refine A8 ?_
     refine A7 [2] A5 ⟨?_,trivial⟩
     refine go A0 false ?_
     conv=>whnf
     refine Bm A0 rfl rfl rfl rfl rfl rfl rfl rfl rfl rfl rfl (A9 xs) (B1) (fun _=>Ba xs) Ad (Ae ?_)
     refine A8 ?_
     refine A7 [9] A5 ⟨?_,trivial⟩
     refine go A0 false ?_
     conv=>whnf
     refine A8 ?_
     refine A7 [10] A5 ⟨?_,trivial⟩
     refine go A0 false ?_
     conv=>whnf
     refine A8 ?_
     refine Bl A5 (Ae ?_)
   rotate_left 2
   focus
    refine go A0 false ?_
    conv=>whnf
    (repeat refine An ?_)
    refine A8 ?_
    refine A7 [0] A5 ⟨?_,trivial⟩
    refine go A0 false ?_
    conv=>whnf
    refine A8 ?_
    refine A7 [2] A5 ⟨?_,trivial⟩
    refine go A0 false ?_
    conv=>whnf
    refine Bm A0 rfl rfl rfl rfl rfl rfl rfl rfl rfl rfl rfl (A9 xs) (B1) (fun _=>Ba xs) Ad (Ae ?_)
    refine A8 ?_
    refine A7 [9] A5 ⟨?_,trivial⟩
    refine go A0 false ?_
    conv=>whnf
    refine A8 ?_
    refine A7 [10] A5 ⟨?_,trivial⟩
    refine go A0 false ?_
    conv=>whnf
    refine A8 ?_
    refine Bl A5 (Ae ?_)
  rotate_left 3
  focus
   refine go A0 false ?_
   conv=>whnf
   (repeat refine An ?_)
   refine A8 ?_
   refine A7 [0,4] A5 ⟨?_,?_,trivial⟩
   focus
    refine go A0 false ?_
    conv=>whnf
    refine A8 ?_
    refine A7 [2,4] A5 ⟨?_,?_,trivial⟩
    focus
     refine go A0 false ?_
     conv=>whnf
     refine Bm A0 rfl rfl rfl rfl rfl rfl rfl rfl rfl rfl rfl (A9 xs) (B1) (fun _=>Ba xs) Ad (Ae ?_)
     refine A8 ?_
     refine A7 [4] A5 ⟨?_,trivial⟩
     refine go A0 false ?_
     conv=>whnf
     (repeat refine An ?_)
     refine A8 ?_
     refine A7 [9] A5 ⟨?_,trivial⟩
     refine go A0 false ?_
     conv=>whnf
     refine A8 ?_
     refine A7 [10] A5 ⟨?_,trivial⟩
     refine go A0 false ?_
     conv=>whnf
     refine A8 ?_
     refine Bl A5 (Ae ?_)
    rotate_left 1
    focus
     refine go A0 false ?_
     conv=>whnf
     (repeat refine An ?_)
     refine A8 ?_
     refine A7 [2] A5 ⟨?_,trivial⟩
     refine go A0 false ?_
     conv=>whnf
     refine Bm A0 rfl rfl rfl rfl rfl rfl rfl rfl rfl rfl rfl (A9 xs) (B1) (fun _=>Ba xs) Ad (Ae ?_)
     refine A8 ?_
     refine A7 [9] A5 ⟨?_,trivial⟩
     refine go A0 false ?_
     conv=>whnf
     refine A8 ?_
     refine A7 [10] A5 ⟨?_,trivial⟩
     refine go A0 false ?_
     conv=>whnf
     refine A8 ?_
     refine Bl A5 (Ae ?_)
   rotate_left 2
   focus
    refine go A0 false ?_
    conv=>whnf
    (repeat refine An ?_)
    refine A8 ?_
    refine A7 [0] A5 ⟨?_,trivial⟩
    refine go A0 false ?_
    conv=>whnf
    refine A8 ?_
    refine A7 [2] A5 ⟨?_,trivial⟩
    refine go A0 false ?_
    conv=>whnf
    refine Bm A0 rfl rfl rfl rfl rfl rfl rfl rfl rfl rfl rfl (A9 xs) (B1) (fun _=>Ba xs) Ad (Ae ?_)
    refine A8 ?_
    refine A7 [9] A5 ⟨?_,trivial⟩
    refine go A0 false ?_
    conv=>whnf
    refine A8 ?_
    refine A7 [10] A5 ⟨?_,trivial⟩
    refine go A0 false ?_
    conv=>whnf
    refine A8 ?_
    refine Bl A5 (Ae ?_)
 all_goals
  refine Ah A0 rfl rfl ⟨⟨.inr ⟨rfl,rfl,_,_,rfl⟩,.inr ⟨rfl,rfl,_,_,rfl⟩,?_,.inr ⟨rfl,rfl,_,_,rfl⟩,?_,?_,?_,.inr ⟨rfl,rfl,_,_,rfl⟩,trivial⟩,trivial⟩
  ·exact (rfl:A9 xs=A9 xs)
  ·exact A7q
  ·exact S6
  ·exact S6
set_option maxHeartbeats 1600000 in
theorem Yi (xs:List A3)(hx:xs.length≤16777216):Aq Tryz.prog 102 [.one (A9 xs)] [.agg (Jz xs).c]:=by
 refine Aj A0 false Tryz.func102 rfl Bs fun W=>?_
 conv=>whnf
 refine A7a rfl ?_
 refine B23 A0 false 0 rfl rfl rfl A5 rfl (Af D7) ?_
 refine A7 [1,2,3,4] A5 ⟨?_,?_,?_,?_,trivial⟩
 focus
  refine go A0 false ?_
  conv=>whnf
  refine Av (C4 xs Ad) rfl (Ae ?_)
  refine A8 ?_
  refine A7 [2,3,4] A5 ⟨?_,?_,?_,trivial⟩
  focus
   refine go A0 false ?_
   conv=>whnf
   (repeat refine An ?_)
   refine A8 ?_
   refine A7 [3,4] A5 ⟨?_,?_,trivial⟩
   focus
    refine go A0 false ?_
    conv=>whnf
    (repeat refine An ?_)
    refine A8 ?_
    refine A7 [4] A5 ⟨?_,trivial⟩
    refine go A0 false ?_
    conv=>whnf
    (repeat refine An ?_)
    refine A8 ?_
    refine A7 [5] A5 ⟨?_,trivial⟩
    refine go A0 false ?_
    conv=>whnf
    refine A8 ?_
    refine A7 [6] A5 ⟨?_,trivial⟩
    refine go A0 false ?_
    conv=>whnf
    refine A8 ?_
    refine Bl A5 (Ae ?_)
   rotate_left 1
   focus
    refine go A0 false ?_
    conv=>whnf
    (repeat refine An ?_)
    refine A8 ?_
    refine A7 [3] A5 ⟨?_,trivial⟩
    refine go A0 false ?_
    conv=>whnf
    (repeat refine An ?_)
    refine A8 ?_
    refine A7 [5] A5 ⟨?_,trivial⟩
    refine go A0 false ?_
    conv=>whnf
    refine A8 ?_
    refine A7 [6] A5 ⟨?_,trivial⟩
    refine go A0 false ?_
    conv=>whnf
    refine A8 ?_
    refine Bl A5 (Ae ?_)
  rotate_left 2
  focus
   refine go A0 false ?_
   conv=>whnf
   (repeat refine An ?_)
   refine A8 ?_
   refine A7 [2,4] A5 ⟨?_,?_,trivial⟩
   focus
    refine go A0 false ?_
    conv=>whnf
    (repeat refine An ?_)
    refine A8 ?_
    refine A7 [4] A5 ⟨?_,trivial⟩
    refine go A0 false ?_
    conv=>whnf
    (repeat refine An ?_)
    refine A8 ?_
    refine A7 [5] A5 ⟨?_,trivial⟩
    refine go A0 false ?_
    conv=>whnf
    refine A8 ?_
    refine A7 [6] A5 ⟨?_,trivial⟩
    refine go A0 false ?_
    conv=>whnf
    refine A8 ?_
    refine Bl A5 (Ae ?_)
   rotate_left 1
   focus
    refine go A0 false ?_
    conv=>whnf
    (repeat refine An ?_)
    refine A8 ?_
    refine A7 [2] A5 ⟨?_,trivial⟩
    refine go A0 false ?_
    conv=>whnf
    (repeat refine An ?_)
    refine A8 ?_
    refine A7 [5] A5 ⟨?_,trivial⟩
    refine go A0 false ?_
    conv=>whnf
    refine A8 ?_
    refine A7 [6] A5 ⟨?_,trivial⟩
    refine go A0 false ?_
    conv=>whnf
    refine A8 ?_
    refine Bl A5 (Ae ?_)
  rotate_left 2
  focus
   refine go A0 false ?_
   conv=>whnf
   (repeat refine An ?_)
   refine A8 ?_
   refine A7 [2,3] A5 ⟨?_,?_,trivial⟩
   focus
    refine go A0 false ?_
    conv=>whnf
    (repeat refine An ?_)
    refine A8 ?_
    refine A7 [3] A5 ⟨?_,trivial⟩
    refine go A0 false ?_
    conv=>whnf
    (repeat refine An ?_)
    refine A8 ?_
    refine A7 [5] A5 ⟨?_,trivial⟩
    refine go A0 false ?_
    conv=>whnf
    refine A8 ?_
    refine A7 [6] A5 ⟨?_,trivial⟩
    refine go A0 false ?_
    conv=>whnf
    refine A8 ?_
    refine Bl A5 (Ae ?_)
   rotate_left 1
   focus
    refine go A0 false ?_
    conv=>whnf
    (repeat refine An ?_)
    refine A8 ?_
    refine A7 [2] A5 ⟨?_,trivial⟩
    refine go A0 false ?_
    conv=>whnf
    (repeat refine An ?_)
    refine A8 ?_
    refine A7 [5] A5 ⟨?_,trivial⟩
    refine go A0 false ?_
    conv=>whnf
    refine A8 ?_
    refine A7 [6] A5 ⟨?_,trivial⟩
    refine go A0 false ?_
    conv=>whnf
    refine A8 ?_
    refine Bl A5 (Ae ?_)
 rotate_left 6
 focus
  refine go A0 false ?_
  conv=>whnf
  (repeat refine An ?_)
  refine A8 ?_
  refine A7 [1,3,4] A5 ⟨?_,?_,?_,trivial⟩
  focus
   refine go A0 false ?_
   conv=>whnf
   refine Av (C4 xs Ad) rfl (Ae ?_)
   refine A8 ?_
   refine A7 [3,4] A5 ⟨?_,?_,trivial⟩
   focus
    refine go A0 false ?_
    conv=>whnf
    (repeat refine An ?_)
    refine A8 ?_
    refine A7 [4] A5 ⟨?_,trivial⟩
    refine go A0 false ?_
    conv=>whnf
    (repeat refine An ?_)
    refine A8 ?_
    refine A7 [5] A5 ⟨?_,trivial⟩
    refine go A0 false ?_
    conv=>whnf
    refine A8 ?_
    refine A7 [6] A5 ⟨?_,trivial⟩
    refine go A0 false ?_
    conv=>whnf
    refine A8 ?_
    refine Bl A5 (Ae ?_)
   rotate_left 1
   focus
    refine go A0 false ?_
    conv=>whnf
    (repeat refine An ?_)
    refine A8 ?_
    refine A7 [3] A5 ⟨?_,trivial⟩
    refine go A0 false ?_
    conv=>whnf
    (repeat refine An ?_)
    refine A8 ?_
    refine A7 [5] A5 ⟨?_,trivial⟩
    refine go A0 false ?_
    conv=>whnf
    refine A8 ?_
    refine A7 [6] A5 ⟨?_,trivial⟩
    refine go A0 false ?_
    conv=>whnf
    refine A8 ?_
    refine Bl A5 (Ae ?_)
  rotate_left 2
  focus
   refine go A0 false ?_
   conv=>whnf
   (repeat refine An ?_)
   refine A8 ?_
   refine A7 [1,4] A5 ⟨?_,?_,trivial⟩
   focus
    refine go A0 false ?_
    conv=>whnf
    refine Av (C4 xs Ad) rfl (Ae ?_)
    refine A8 ?_
    refine A7 [4] A5 ⟨?_,trivial⟩
    refine go A0 false ?_
    conv=>whnf
    (repeat refine An ?_)
    refine A8 ?_
    refine A7 [5] A5 ⟨?_,trivial⟩
    refine go A0 false ?_
    conv=>whnf
    refine A8 ?_
    refine A7 [6] A5 ⟨?_,trivial⟩
    refine go A0 false ?_
    conv=>whnf
    refine A8 ?_
    refine Bl A5 (Ae ?_)
   rotate_left 1
   focus
    refine go A0 false ?_
    conv=>whnf
    (repeat refine An ?_)
    refine A8 ?_
    refine A7 [1] A5 ⟨?_,trivial⟩
    refine go A0 false ?_
    conv=>whnf
    refine Av (C4 xs Ad) rfl (Ae ?_)
    refine A8 ?_
    refine A7 [5] A5 ⟨?_,trivial⟩
    refine go A0 false ?_
    conv=>whnf
    refine A8 ?_
    refine A7 [6] A5 ⟨?_,trivial⟩
    refine go A0 false ?_
    conv=>whnf
    refine A8 ?_
    refine Bl A5 (Ae ?_)
  rotate_left 2
  focus
   refine go A0 false ?_
   conv=>whnf
   (repeat refine An ?_)
   refine A8 ?_
   refine A7 [1,3] A5 ⟨?_,?_,trivial⟩
   focus
    refine go A0 false ?_
    conv=>whnf
    refine Av (C4 xs Ad) rfl (Ae ?_)
    refine A8 ?_
    refine A7 [3] A5 ⟨?_,trivial⟩
    refine go A0 false ?_
    conv=>whnf
    (repeat refine An ?_)
    refine A8 ?_
    refine A7 [5] A5 ⟨?_,trivial⟩
    refine go A0 false ?_
    conv=>whnf
    refine A8 ?_
    refine A7 [6] A5 ⟨?_,trivial⟩
    refine go A0 false ?_
    conv=>whnf
    refine A8 ?_
    refine Bl A5 (Ae ?_)
   rotate_left 1
   focus
    refine go A0 false ?_
    conv=>whnf
    (repeat refine An ?_)
    refine A8 ?_
    refine A7 [1] A5 ⟨?_,trivial⟩
    refine go A0 false ?_
    conv=>whnf
    refine Av (C4 xs Ad) rfl (Ae ?_)
    refine A8 ?_
    refine A7 [5] A5 ⟨?_,trivial⟩
    refine go A0 false ?_
    conv=>whnf
    refine A8 ?_
    refine A7 [6] A5 ⟨?_,trivial⟩
    refine go A0 false ?_
    conv=>whnf
    refine A8 ?_
    refine Bl A5 (Ae ?_)
 rotate_left 6
 focus
  refine go A0 false ?_
  conv=>whnf
  (repeat refine An ?_)
  refine A8 ?_
  refine A7 [1,2,4] A5 ⟨?_,?_,?_,trivial⟩
  focus
   refine go A0 false ?_
   conv=>whnf
   refine Av (C4 xs Ad) rfl (Ae ?_)
   refine A8 ?_
   refine A7 [2,4] A5 ⟨?_,?_,trivial⟩
   focus
    refine go A0 false ?_
    conv=>whnf
    (repeat refine An ?_)
    refine A8 ?_
    refine A7 [4] A5 ⟨?_,trivial⟩
    refine go A0 false ?_
    conv=>whnf
    (repeat refine An ?_)
    refine A8 ?_
    refine A7 [5] A5 ⟨?_,trivial⟩
    refine go A0 false ?_
    conv=>whnf
    refine A8 ?_
    refine A7 [6] A5 ⟨?_,trivial⟩
    refine go A0 false ?_
    conv=>whnf
    refine A8 ?_
    refine Bl A5 (Ae ?_)
   rotate_left 1
   focus
    refine go A0 false ?_
    conv=>whnf
    (repeat refine An ?_)
    refine A8 ?_
    refine A7 [2] A5 ⟨?_,trivial⟩
    refine go A0 false ?_
    conv=>whnf
    (repeat refine An ?_)
    refine A8 ?_
    refine A7 [5] A5 ⟨?_,trivial⟩
    refine go A0 false ?_
    conv=>whnf
    refine A8 ?_
    refine A7 [6] A5 ⟨?_,trivial⟩
    refine go A0 false ?_
    conv=>whnf
    refine A8 ?_
    refine Bl A5 (Ae ?_)
  rotate_left 2
  focus
   refine go A0 false ?_
   conv=>whnf
   (repeat refine An ?_)
   refine A8 ?_
   refine A7 [1,4] A5 ⟨?_,?_,trivial⟩
   focus
    refine go A0 false ?_
    conv=>whnf
    refine Av (C4 xs Ad) rfl (Ae ?_)
    refine A8 ?_
    refine A7 [4] A5 ⟨?_,trivial⟩
    refine go A0 false ?_
    conv=>whnf
    (repeat refine An ?_)
    refine A8 ?_
    refine A7 [5] A5 ⟨?_,trivial⟩
    refine go A0 false ?_
    conv=>whnf
    refine A8 ?_
    refine A7 [6] A5 ⟨?_,trivial⟩
    refine go A0 false ?_
    conv=>whnf
    refine A8 ?_
    refine Bl A5 (Ae ?_)
   rotate_left 1
   focus
    refine go A0 false ?_
    conv=>whnf
    (repeat refine An ?_)
    refine A8 ?_
    refine A7 [1] A5 ⟨?_,trivial⟩
    refine go A0 false ?_
    conv=>whnf
    refine Av (C4 xs Ad) rfl (Ae ?_)
    refine A8 ?_
    refine A7 [5] A5 ⟨?_,trivial⟩
    refine go A0 false ?_
    conv=>whnf
    refine A8 ?_
    refine A7 [6] A5 ⟨?_,trivial⟩
    refine go A0 false ?_
    conv=>whnf
    refine A8 ?_
    refine Bl A5 (Ae ?_)
  rotate_left 2
  focus
   refine go A0 false ?_
   conv=>whnf
   (repeat refine An ?_)
   refine A8 ?_
   refine A7 [1,2] A5 ⟨?_,?_,trivial⟩
   focus
    refine go A0 false ?_
    conv=>whnf
    refine Av (C4 xs Ad) rfl (Ae ?_)
    refine A8 ?_
    refine A7 [2] A5 ⟨?_,trivial⟩
    refine go A0 false ?_
    conv=>whnf
    (repeat refine An ?_)
    refine A8 ?_
    refine A7 [5] A5 ⟨?_,trivial⟩
    refine go A0 false ?_
    conv=>whnf
    refine A8 ?_
    refine A7 [6] A5 ⟨?_,trivial⟩
    refine go A0 false ?_
    conv=>whnf
    refine A8 ?_
    refine Bl A5 (Ae ?_)
   rotate_left 1
   focus
    refine go A0 false ?_
    conv=>whnf
    (repeat refine An ?_)
    refine A8 ?_
    refine A7 [1] A5 ⟨?_,trivial⟩
    refine go A0 false ?_
    conv=>whnf
    refine Av (C4 xs Ad) rfl (Ae ?_)
    refine A8 ?_
    refine A7 [5] A5 ⟨?_,trivial⟩
    refine go A0 false ?_
    conv=>whnf
    refine A8 ?_
    refine A7 [6] A5 ⟨?_,trivial⟩
    refine go A0 false ?_
    conv=>whnf
    refine A8 ?_
    refine Bl A5 (Ae ?_)
 rotate_left 6
 focus
  refine go A0 false ?_
  conv=>whnf
  (repeat refine An ?_)
  refine A8 ?_
  refine A7 [1,2,3] A5 ⟨?_,?_,?_,trivial⟩
  focus
   refine go A0 false ?_
   conv=>whnf
   refine Av (C4 xs Ad) rfl (Ae ?_)
   refine A8 ?_
   refine A7 [2,3] A5 ⟨?_,?_,trivial⟩
   focus
    refine go A0 false ?_
    conv=>whnf
    (repeat refine An ?_)
    refine A8 ?_
    refine A7 [3] A5 ⟨?_,trivial⟩
    refine go A0 false ?_
    conv=>whnf
    (repeat refine An ?_)
    refine A8 ?_
    refine A7 [5] A5 ⟨?_,trivial⟩
    refine go A0 false ?_
    conv=>whnf
    refine A8 ?_
    refine A7 [6] A5 ⟨?_,trivial⟩
    refine go A0 false ?_
    conv=>whnf
    refine A8 ?_
    refine Bl A5 (Ae ?_)
   rotate_left 1
   focus
    refine go A0 false ?_
    conv=>whnf
    (repeat refine An ?_)
    refine A8 ?_
    refine A7 [2] A5 ⟨?_,trivial⟩
    refine go A0 false ?_
    conv=>whnf
    (repeat refine An ?_)
    refine A8 ?_
    refine A7 [5] A5 ⟨?_,trivial⟩
    refine go A0 false ?_
    conv=>whnf
    refine A8 ?_
    refine A7 [6] A5 ⟨?_,trivial⟩
    refine go A0 false ?_
    conv=>whnf
    refine A8 ?_
    refine Bl A5 (Ae ?_)
  rotate_left 2
  focus
   refine go A0 false ?_
   conv=>whnf
   (repeat refine An ?_)
   refine A8 ?_
   refine A7 [1,3] A5 ⟨?_,?_,trivial⟩
   focus
    refine go A0 false ?_
    conv=>whnf
    refine Av (C4 xs Ad) rfl (Ae ?_)
    refine A8 ?_
    refine A7 [3] A5 ⟨?_,trivial⟩
    refine go A0 false ?_
    conv=>whnf
    (repeat refine An ?_)
    refine A8 ?_
    refine A7 [5] A5 ⟨?_,trivial⟩
    refine go A0 false ?_
    conv=>whnf
    refine A8 ?_
    refine A7 [6] A5 ⟨?_,trivial⟩
    refine go A0 false ?_
    conv=>whnf
    refine A8 ?_
    refine Bl A5 (Ae ?_)
   rotate_left 1
   focus
    refine go A0 false ?_
    conv=>whnf
    (repeat refine An ?_)
    refine A8 ?_
    refine A7 [1] A5 ⟨?_,trivial⟩
    refine go A0 false ?_
    conv=>whnf
    refine Av (C4 xs Ad) rfl (Ae ?_)
    refine A8 ?_
    refine A7 [5] A5 ⟨?_,trivial⟩
    refine go A0 false ?_
    conv=>whnf
    refine A8 ?_
    refine A7 [6] A5 ⟨?_,trivial⟩
    refine go A0 false ?_
    conv=>whnf
    refine A8 ?_
    refine Bl A5 (Ae ?_)
  rotate_left 2
  focus
   refine go A0 false ?_
   conv=>whnf
   (repeat refine An ?_)
   refine A8 ?_
   refine A7 [1,2] A5 ⟨?_,?_,trivial⟩
   focus
    refine go A0 false ?_
    conv=>whnf
    refine Av (C4 xs Ad) rfl (Ae ?_)
    refine A8 ?_
    refine A7 [2] A5 ⟨?_,trivial⟩
    refine go A0 false ?_
    conv=>whnf
    (repeat refine An ?_)
    refine A8 ?_
    refine A7 [5] A5 ⟨?_,trivial⟩
    refine go A0 false ?_
    conv=>whnf
    refine A8 ?_
    refine A7 [6] A5 ⟨?_,trivial⟩
    refine go A0 false ?_
    conv=>whnf
    refine A8 ?_
    refine Bl A5 (Ae ?_)
   rotate_left 1
   focus
    refine go A0 false ?_
    conv=>whnf
    (repeat refine An ?_)
    refine A8 ?_
    refine A7 [1] A5 ⟨?_,trivial⟩
    refine go A0 false ?_
    conv=>whnf
    refine Av (C4 xs Ad) rfl (Ae ?_)
    refine A8 ?_
    refine A7 [5] A5 ⟨?_,trivial⟩
    refine go A0 false ?_
    conv=>whnf
    refine A8 ?_
    refine A7 [6] A5 ⟨?_,trivial⟩
    refine go A0 false ?_
    conv=>whnf
    refine A8 ?_
    refine Bl A5 (Ae ?_)
 all_goals
  refine Ah A0 rfl rfl ⟨⟨.inr ⟨rfl,rfl,_,_,rfl⟩,.inr ⟨rfl,rfl,_,_,rfl⟩,?_,.inr ⟨rfl,rfl,_,_,rfl⟩,?_,?_,?_,.inr ⟨rfl,rfl,_,_,rfl⟩,trivial⟩,trivial⟩
  ·exact (rfl:A9 xs=A9 xs)
  ·exact A7q
  ·exact S6
  ·exact S6
def Lq (n:Int) (l:List A3) (w:Int) (k:Nat):List A3:=(List.range k).flatMap fun (e:Nat)=>(Ei l e).filter fun r=>E3 r.key n==w
theorem Td (n:Int)(l:List A3)(w:Int)(k:Nat):Lq n l w (k+1)=Lq n l w k++(Ei l k).filter fun r=>E3 r.key n==w:=by
 rw [Lq,List.range_succ,List.flatMap_append]
 simp [Lq]
theorem Pa (n:Int)(l:List A3)(w:Int)(k:Nat):(Lq n l w k).length≤k * l.length:=by
 induction k with
 |zero=>simp [Lq]
 |succ k ih=>
  rw [Td,List.length_append,Nat.succ_mul]
  have h1:=List.length_filter_le (fun r:A3=>E3 r.key n==w) (Ei l k)
  have h2:=Jv l k
  omega
def oP (n:Int) (w:Int) (e:Nat) (r:A3):Bool:=(r.stamp.epoch==(e:Int))&&(E3 r.key n==w)
theorem A9s (n:Int)(l:List A3)(w:Int)(e:Nat):l.filter (oP n w e)=(Ei l e).filter fun r=>E3 r.key n==w:=by
 show _=List.filter _ (List.filter _ l)
 rw [List.filter_filter]
 congr 1
 funext r
 rw [oP,Bool.and_comm]
set_option maxHeartbeats 1600000 in
theorem B5f (g:Ar)(l:List A3)(w:Int)(hl:l.length≤20)(hg:g.workers≤4):Aq Tryz.prog 89 [.agg g.c,.one (A9 l),.one (vi w)] [.one (A9 (Lq g.workers l w 4))]:=by
 refine Aj A0 false Tryz.func89 rfl Bs fun W=>?_
 conv=>whnf
 refine Gk 1 (A9 []) rfl Do ?_
 refine B6 A0 false [9,10] (fun k:Nat=>[(8,.c (vi k))]) (fun k=>[⟨0,[.c (Bb g.nodes),.c (vi g.workers),.c (vi g.cap)]⟩]) (fun k=>[⟨1,A9 (Lq g.workers l w k)⟩])
  (fun k=>k≤4) (fun k=>4-k) 0 (Nat.zero_le _) ⟨by first|rfl|simp [Cr,ren2,ren1,ren0],trivial⟩ Cp ⟨by first|rfl|exact (congrArg (fun l=>Cb _ _ l) (List.append_nil _)).symm|(show (_:Ab)=_;simp)|simp,trivial⟩ Cc A5 (fun k hk=>?_)
 conv=>whnf
 refine ⟨fun h=>?_,fun h=>?_⟩<;>conv=>whnf
 ·have h:k<4:=by have:=of_decide_eq_true h;omega
  have hk1:=Pa g.workers l w k
  have hk2:k * l.length≤80:=Nat.le_trans (Nat.mul_le_mul (show k≤4 by omega) hl) Bs
  refine B6 A0 false [] (fun j:Nat=>[(9,.c (vi j))]) (fun j=>[⟨0,[.c (Bb g.nodes),.c (vi g.workers),.c (vi g.cap)]⟩]) (fun j=>[⟨1,A9 (Lq g.workers l w k++(l.take j).filter (oP g.workers w k))⟩])
   (fun j=>j≤l.length) (fun j=>l.length-j) 0 (Nat.zero_le _) ⟨by first|rfl|simp [Cr,ren2,ren1,ren0],trivial⟩ Cp ⟨by first|rfl|exact (congrArg (fun l=>Cb _ _ l) (List.append_nil _)).symm|(show (_:Ab)=_;simp)|simp,trivial⟩ Cc A5 (fun j hj=>?_)
  conv=>whnf
  conv=>whnf
  refine F2 (fun h2=>?_) fun h2=>?_<;>conv=>whnf
  ·have h2:j<l.length:=by omega
   have hs:=Dv (oP g.workers w k) l j h2
   have hb:=Dn (oP g.workers w k) l j
   first|(refine Ak 8 rfl [0,1,2,3,4,5,6,7,8,9,10,11,12,13,14,15,17,16,18,19] A5 (Ae ?_))
   (repeat refine An ?_)
   refine ⟨fun h3=>?_,fun h3=>?_⟩<;>conv=>whnf
   ·rw [Int.toNat_natCast] at h3
    repeat refine B9 ?_
    (repeat refine An ?_)
    refine Ai (Ul (l.getD j default).key g.workers Ad) rfl (Ae ?_)
    repeat refine B9 ?_
    refine ⟨fun h4=>?_,fun h4=>?_⟩<;>conv=>whnf
    ·have h5:oP g.workers w k (l.getD j default)=true:=by rw [oP,h3,h4];rfl
     (repeat refine An ?_)
     refine Bm A0 rfl rfl rfl rfl rfl rfl rfl rfl rfl rfl rfl (A9 (Lq g.workers l w k++(l.take j).filter (oP g.workers w k)++[l.getD j default])) (Bh rfl) Ef (by (rw [List.length_append];omega)) (Ae ?_)
     (repeat refine An ?_)
     refine At [(1,3)] (j+1) Ad Ad ⟨rfl,trivial⟩ ⟨congrArg A9 (by rw [hs,if_pos h5,List.append_assoc]),trivial⟩ Cp A5 Cc A5
    ·have h5:oP g.workers w k (l.getD j default)=false:=by rw [oP,h4,Bool.and_false]
     repeat refine B9 ?_
     refine At [] (j+1) Ad Ad ⟨rfl,trivial⟩ ⟨congrArg A9 (by rw [hs,if_neg (by rw [h5];decide),List.append_nil]),trivial⟩ Cp A5 Cc A5
   ·rw [Int.toNat_natCast] at h3
    have h5:oP g.workers w k (l.getD j default)=false:=by rw [oP,h3,Bool.false_and]
    repeat refine B9 ?_
    refine At [] (j+1) Ad Ad ⟨rfl,trivial⟩ ⟨congrArg A9 (by rw [hs,if_neg (by rw [h5];decide),List.append_nil]),trivial⟩ Cp A5 Cc A5
  ·(repeat refine An ?_)
   refine At [] (k+1) Ad Ad ⟨rfl,trivial⟩ ⟨congrArg A9 (by rw [Td,←A9s,List.take_of_length_le Ad]),trivial⟩ Cp A5 Cc A5
 ·have h:¬ k<4:=by have:=of_decide_eq_false h;omega
  obtain rfl:k=4:=by omega
  refine Ah A0 rfl rfl ?_
  exact C1
end Go.Proofs.YtlbmkgkmbjadcaaGreat
