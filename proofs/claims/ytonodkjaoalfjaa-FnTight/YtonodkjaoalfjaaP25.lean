/- Part 25 of the proof that each of the laws FnTight returns true for every input. No conditions. -/
import Derived.Test.YtonodkjaoalfjaaP11
import Derived.Test.YtonodkjaoalfjaaP24
import Derived.Test.YtonodkjaoalfjaaP8
import Derived.Test.YtonodkjaoalfjaaP9

set_option linter.unusedSimpArgs false
set_option linter.unusedVariables false
set_option maxRecDepth 100000
namespace Go.Proofs.Ytonodkjaoalfjaa
open Go.Sx
theorem W0 (n:Int):Bp Try.prog 30 [.one (vi n)] [.agg (Gm n).c]:=by
 refine Bm A0 false Try.func30 rfl Cb fun W=>?_
 conv=>whnf
 refine B7 (P4 n 1 4) rfl (Af ?_)
 refine B1 A0 rfl rfl ?_
 exact C1
theorem Qg {α:Type} [Inhabited α] (x:α)(n i:Nat)(h:x=default):(List.replicate n x).getD i default=x:=by
 simp only [List.getD,List.getElem?_replicate]
 split
 ·rfl
 ·exact h.symm
theorem A45:(A7.sl 4 1 fun _=>[.val (.int .i64 0)])=Ds (List.replicate 4 0):=congrArg (A7.sl 4 1) (funext fun i=>by rw [Qg (0:Int) 4 i rfl])
theorem Vf:(A7.sl 4 1 fun _=>[.val (.bool false)])=Ei (List.replicate 4 false):=congrArg (A7.sl 4 1) (funext fun i=>by rw [Qg false 4 i rfl])
theorem Ht:(A7.sl 4 5 fun _=>[.val (.bool false),.val (.int .i64 0),.val (.int .i64 0),.val (.bool false),.val (.bool false)])=Cl (List.replicate 4 default):=congrArg (A7.sl 4 5) (funext fun i=>by rw [Qg (default:Dw) 4 i rfl];rfl)
def J9 (xs:List Ac):Ad:=⟨[],[],xs,[],List.replicate 4 0,List.replicate 4 false,List.replicate 4 false,[]⟩
set_option maxHeartbeats 1600000 in
theorem S7 (xs:List Ac)(hx:xs.length≤16777216):Bp Try.prog 28 [.one (A8 xs)] [.agg (J9 xs).c]:=by
 refine Bm A0 false Try.func28 rfl Cb fun W=>?_
 conv=>whnf
 refine Y7 rfl ?_
 refine Hp A0 false 1 rfl rfl rfl A6 rfl (Aa D3) ?_
 refine Hp A0 false 3 rfl rfl rfl A6 rfl (Aa D3) ?_
 refine Hp A0 false 5 rfl rfl rfl A6 rfl (Aa D3) ?_
 refine Hp A0 false 7 rfl rfl rfl A6 rfl (Aa D3) ?_
 refine A4 [0,4,6,8] A6 ⟨?_,?_,?_,?_,trivial⟩
 focus
  refine go A0 false ?_
  conv=>whnf
  refine A5 ?_
  refine A4 [2,4,6,8] A6 ⟨?_,?_,?_,?_,trivial⟩
  focus
   refine go A0 false ?_
   conv=>whnf
   refine B4 A0 rfl rfl rfl rfl rfl rfl rfl rfl rfl rfl rfl (A8 xs) (Ah) (fun _=>Aj xs) Ag (Af ?_)
   refine A5 ?_
   refine A4 [4,6,8] A6 ⟨?_,?_,?_,trivial⟩
   focus
    refine go A0 false ?_
    conv=>whnf
    (repeat refine Ak ?_)
    refine A5 ?_
    refine A4 [6,8] A6 ⟨?_,?_,trivial⟩
    focus
     refine go A0 false ?_
     conv=>whnf
     (repeat refine Ak ?_)
     refine A5 ?_
     refine A4 [8] A6 ⟨?_,trivial⟩
     refine go A0 false ?_
     conv=>whnf
     (repeat refine Ak ?_)
     refine A5 ?_
     refine A4 [9] A6 ⟨?_,trivial⟩
     refine go A0 false ?_
     conv=>whnf
     refine A5 ?_
     refine A4 [10] A6 ⟨?_,trivial⟩
     refine go A0 false ?_
     conv=>whnf
     refine A5 ?_
     refine Ba A6 (Af ?_)
    rotate_left 1
    focus
     refine go A0 false ?_
     conv=>whnf
     (repeat refine Ak ?_)
     refine A5 ?_
     refine A4 [6] A6 ⟨?_,trivial⟩
     refine go A0 false ?_
     conv=>whnf
     (repeat refine Ak ?_)
     refine A5 ?_
     refine A4 [9] A6 ⟨?_,trivial⟩
     refine go A0 false ?_
     conv=>whnf
     refine A5 ?_
     refine A4 [10] A6 ⟨?_,trivial⟩
     refine go A0 false ?_
     conv=>whnf
     refine A5 ?_
     refine Ba A6 (Af ?_)
   rotate_left 2
   focus
    refine go A0 false ?_
    conv=>whnf
    (repeat refine Ak ?_)
    refine A5 ?_
    refine A4 [4,8] A6 ⟨?_,?_,trivial⟩
    focus
     refine go A0 false ?_
     conv=>whnf
     (repeat refine Ak ?_)
     refine A5 ?_
     refine A4 [8] A6 ⟨?_,trivial⟩
     refine go A0 false ?_
     conv=>whnf
     (repeat refine Ak ?_)
     refine A5 ?_
     refine A4 [9] A6 ⟨?_,trivial⟩
     refine go A0 false ?_
     conv=>whnf
     refine A5 ?_
     refine A4 [10] A6 ⟨?_,trivial⟩
     refine go A0 false ?_
     conv=>whnf
     refine A5 ?_
     refine Ba A6 (Af ?_)
    rotate_left 1
    focus
     refine go A0 false ?_
     conv=>whnf
     (repeat refine Ak ?_)
     refine A5 ?_
     refine A4 [4] A6 ⟨?_,trivial⟩
     refine go A0 false ?_
     conv=>whnf
     (repeat refine Ak ?_)
     refine A5 ?_
     refine A4 [9] A6 ⟨?_,trivial⟩
     refine go A0 false ?_
     conv=>whnf
     refine A5 ?_
     refine A4 [10] A6 ⟨?_,trivial⟩
     refine go A0 false ?_
     conv=>whnf
     refine A5 ?_
     refine Ba A6 (Af ?_)
   rotate_left 2
   focus
    refine go A0 false ?_
    conv=>whnf
    (repeat refine Ak ?_)
    refine A5 ?_
    refine A4 [4,6] A6 ⟨?_,?_,trivial⟩
    focus
     refine go A0 false ?_
     conv=>whnf
     (repeat refine Ak ?_)
     refine A5 ?_
     refine A4 [6] A6 ⟨?_,trivial⟩
     refine go A0 false ?_
     conv=>whnf
     (repeat refine Ak ?_)
     refine A5 ?_
     refine A4 [9] A6 ⟨?_,trivial⟩
     refine go A0 false ?_
     conv=>whnf
     refine A5 ?_
     refine A4 [10] A6 ⟨?_,trivial⟩
     refine go A0 false ?_
     conv=>whnf
     refine A5 ?_
     refine Ba A6 (Af ?_)
    rotate_left 1
    focus
     refine go A0 false ?_
     conv=>whnf
     (repeat refine Ak ?_)
     refine A5 ?_
     refine A4 [4] A6 ⟨?_,trivial⟩
     refine go A0 false ?_
     conv=>whnf
     (repeat refine Ak ?_)
     refine A5 ?_
     refine A4 [9] A6 ⟨?_,trivial⟩
     refine go A0 false ?_
     conv=>whnf
     refine A5 ?_
     refine A4 [10] A6 ⟨?_,trivial⟩
     refine go A0 false ?_
     conv=>whnf
     refine A5 ?_
     refine Ba A6 (Af ?_)
  rotate_left 6
  focus
   refine go A0 false ?_
   conv=>whnf
   (repeat refine Ak ?_)
   refine A5 ?_
   refine A4 [2,6,8] A6 ⟨?_,?_,?_,trivial⟩
   focus
    refine go A0 false ?_
    conv=>whnf
    refine B4 A0 rfl rfl rfl rfl rfl rfl rfl rfl rfl rfl rfl (A8 xs) (Ah) (fun _=>Aj xs) Ag (Af ?_)
    refine A5 ?_
    refine A4 [6,8] A6 ⟨?_,?_,trivial⟩
    focus
     refine go A0 false ?_
     conv=>whnf
     (repeat refine Ak ?_)
     refine A5 ?_
     refine A4 [8] A6 ⟨?_,trivial⟩
     refine go A0 false ?_
     conv=>whnf
     (repeat refine Ak ?_)
     refine A5 ?_
     refine A4 [9] A6 ⟨?_,trivial⟩
     refine go A0 false ?_
     conv=>whnf
     refine A5 ?_
     refine A4 [10] A6 ⟨?_,trivial⟩
     refine go A0 false ?_
     conv=>whnf
     refine A5 ?_
     refine Ba A6 (Af ?_)
    rotate_left 1
    focus
     refine go A0 false ?_
     conv=>whnf
     (repeat refine Ak ?_)
     refine A5 ?_
     refine A4 [6] A6 ⟨?_,trivial⟩
     refine go A0 false ?_
     conv=>whnf
     (repeat refine Ak ?_)
     refine A5 ?_
     refine A4 [9] A6 ⟨?_,trivial⟩
     refine go A0 false ?_
     conv=>whnf
     refine A5 ?_
     refine A4 [10] A6 ⟨?_,trivial⟩
     refine go A0 false ?_
     conv=>whnf
     refine A5 ?_
     refine Ba A6 (Af ?_)
   rotate_left 2
   focus
    refine go A0 false ?_
    conv=>whnf
    (repeat refine Ak ?_)
    refine A5 ?_
    refine A4 [2,8] A6 ⟨?_,?_,trivial⟩
    focus
     refine go A0 false ?_
     conv=>whnf
     refine B4 A0 rfl rfl rfl rfl rfl rfl rfl rfl rfl rfl rfl (A8 xs) (Ah) (fun _=>Aj xs) Ag (Af ?_)
     refine A5 ?_
     refine A4 [8] A6 ⟨?_,trivial⟩
     refine go A0 false ?_
     conv=>whnf
     (repeat refine Ak ?_)
     refine A5 ?_
     refine A4 [9] A6 ⟨?_,trivial⟩
     refine go A0 false ?_
     conv=>whnf
     refine A5 ?_
     refine A4 [10] A6 ⟨?_,trivial⟩
     refine go A0 false ?_
     conv=>whnf
     refine A5 ?_
     refine Ba A6 (Af ?_)
    rotate_left 1
    focus
     refine go A0 false ?_
     conv=>whnf
     (repeat refine Ak ?_)
     refine A5 ?_
     refine A4 [2] A6 ⟨?_,trivial⟩
     refine go A0 false ?_
     conv=>whnf
     refine B4 A0 rfl rfl rfl rfl rfl rfl rfl rfl rfl rfl rfl (A8 xs) (Ah) (fun _=>Aj xs) Ag (Af ?_)
     refine A5 ?_
     refine A4 [9] A6 ⟨?_,trivial⟩
     refine go A0 false ?_
     conv=>whnf
     refine A5 ?_
     refine A4 [10] A6 ⟨?_,trivial⟩
     refine go A0 false ?_
     conv=>whnf
     refine A5 ?_
     refine Ba A6 (Af ?_)
   rotate_left 2
   focus
    refine go A0 false ?_
    conv=>whnf
    (repeat refine Ak ?_)
    refine A5 ?_
    refine A4 [2,6] A6 ⟨?_,?_,trivial⟩
    focus
     refine go A0 false ?_
     conv=>whnf
     refine B4 A0 rfl rfl rfl rfl rfl rfl rfl rfl rfl rfl rfl (A8 xs) (Ah) (fun _=>Aj xs) Ag (Af ?_)
     refine A5 ?_
     refine A4 [6] A6 ⟨?_,trivial⟩
     refine go A0 false ?_
     conv=>whnf
     (repeat refine Ak ?_)
     refine A5 ?_
     refine A4 [9] A6 ⟨?_,trivial⟩
     refine go A0 false ?_
     conv=>whnf
     refine A5 ?_
     refine A4 [10] A6 ⟨?_,trivial⟩
     refine go A0 false ?_
     conv=>whnf
     refine A5 ?_
     refine Ba A6 (Af ?_)
    rotate_left 1
    focus
     refine go A0 false ?_
     conv=>whnf
     (repeat refine Ak ?_)
     refine A5 ?_
     refine A4 [2] A6 ⟨?_,trivial⟩
     refine go A0 false ?_
     conv=>whnf
     refine B4 A0 rfl rfl rfl rfl rfl rfl rfl rfl rfl rfl rfl (A8 xs) (Ah) (fun _=>Aj xs) Ag (Af ?_)
     refine A5 ?_
     refine A4 [9] A6 ⟨?_,trivial⟩
     refine go A0 false ?_
     conv=>whnf
     refine A5 ?_
     refine A4 [10] A6 ⟨?_,trivial⟩
     refine go A0 false ?_
     conv=>whnf
     refine A5 ?_
     refine Ba A6 (Af ?_)
  rotate_left 6
  focus
   refine go A0 false ?_
   conv=>whnf
   (repeat refine Ak ?_)
   refine A5 ?_
   refine A4 [2,4,8] A6 ⟨?_,?_,?_,trivial⟩
   focus
    refine go A0 false ?_
    conv=>whnf
    refine B4 A0 rfl rfl rfl rfl rfl rfl rfl rfl rfl rfl rfl (A8 xs) (Ah) (fun _=>Aj xs) Ag (Af ?_)
    refine A5 ?_
    refine A4 [4,8] A6 ⟨?_,?_,trivial⟩
    focus
     refine go A0 false ?_
     conv=>whnf
     (repeat refine Ak ?_)
     refine A5 ?_
     refine A4 [8] A6 ⟨?_,trivial⟩
     refine go A0 false ?_
     conv=>whnf
     (repeat refine Ak ?_)
     refine A5 ?_
     refine A4 [9] A6 ⟨?_,trivial⟩
     refine go A0 false ?_
     conv=>whnf
     refine A5 ?_
     refine A4 [10] A6 ⟨?_,trivial⟩
     refine go A0 false ?_
     conv=>whnf
     refine A5 ?_
     refine Ba A6 (Af ?_)
    rotate_left 1
    focus
     refine go A0 false ?_
     conv=>whnf
     (repeat refine Ak ?_)
     refine A5 ?_
     refine A4 [4] A6 ⟨?_,trivial⟩
     refine go A0 false ?_
     conv=>whnf
     (repeat refine Ak ?_)
     refine A5 ?_
     refine A4 [9] A6 ⟨?_,trivial⟩
     refine go A0 false ?_
     conv=>whnf
     refine A5 ?_
     refine A4 [10] A6 ⟨?_,trivial⟩
     refine go A0 false ?_
     conv=>whnf
     refine A5 ?_
     refine Ba A6 (Af ?_)
   rotate_left 2
   focus
    refine go A0 false ?_
    conv=>whnf
    (repeat refine Ak ?_)
    refine A5 ?_
    refine A4 [2,8] A6 ⟨?_,?_,trivial⟩
    focus
     refine go A0 false ?_
     conv=>whnf
     refine B4 A0 rfl rfl rfl rfl rfl rfl rfl rfl rfl rfl rfl (A8 xs) (Ah) (fun _=>Aj xs) Ag (Af ?_)
     refine A5 ?_
     refine A4 [8] A6 ⟨?_,trivial⟩
     refine go A0 false ?_
     conv=>whnf
     (repeat refine Ak ?_)
     refine A5 ?_
     refine A4 [9] A6 ⟨?_,trivial⟩
     refine go A0 false ?_
     conv=>whnf
     refine A5 ?_
     refine A4 [10] A6 ⟨?_,trivial⟩
     refine go A0 false ?_
     conv=>whnf
     refine A5 ?_
     refine Ba A6 (Af ?_)
    rotate_left 1
    focus
     refine go A0 false ?_
     conv=>whnf
     (repeat refine Ak ?_)
     refine A5 ?_
     refine A4 [2] A6 ⟨?_,trivial⟩
     refine go A0 false ?_
     conv=>whnf
     refine B4 A0 rfl rfl rfl rfl rfl rfl rfl rfl rfl rfl rfl (A8 xs) (Ah) (fun _=>Aj xs) Ag (Af ?_)
     refine A5 ?_
     refine A4 [9] A6 ⟨?_,trivial⟩
     refine go A0 false ?_
     conv=>whnf
     refine A5 ?_
     refine A4 [10] A6 ⟨?_,trivial⟩
     refine go A0 false ?_
     conv=>whnf
     refine A5 ?_
     refine Ba A6 (Af ?_)
   rotate_left 2
   focus
    refine go A0 false ?_
    conv=>whnf
    (repeat refine Ak ?_)
    refine A5 ?_
    refine A4 [2,4] A6 ⟨?_,?_,trivial⟩
    focus
     refine go A0 false ?_
     conv=>whnf
     refine B4 A0 rfl rfl rfl rfl rfl rfl rfl rfl rfl rfl rfl (A8 xs) (Ah) (fun _=>Aj xs) Ag (Af ?_)
     refine A5 ?_
     refine A4 [4] A6 ⟨?_,trivial⟩
     refine go A0 false ?_
     conv=>whnf
     (repeat refine Ak ?_)
     refine A5 ?_
     refine A4 [9] A6 ⟨?_,trivial⟩
     refine go A0 false ?_
     conv=>whnf
     refine A5 ?_
     refine A4 [10] A6 ⟨?_,trivial⟩
     refine go A0 false ?_
     conv=>whnf
     refine A5 ?_
     refine Ba A6 (Af ?_)
    rotate_left 1
    focus
     refine go A0 false ?_
     conv=>whnf
     (repeat refine Ak ?_)
     refine A5 ?_
     refine A4 [2] A6 ⟨?_,trivial⟩
     refine go A0 false ?_
     conv=>whnf
     refine B4 A0 rfl rfl rfl rfl rfl rfl rfl rfl rfl rfl rfl (A8 xs) (Ah) (fun _=>Aj xs) Ag (Af ?_)
     refine A5 ?_
     refine A4 [9] A6 ⟨?_,trivial⟩
     refine go A0 false ?_
     conv=>whnf
     refine A5 ?_
     refine A4 [10] A6 ⟨?_,trivial⟩
     refine go A0 false ?_
     conv=>whnf
     refine A5 ?_
     refine Ba A6 (Af ?_)
  rotate_left 6
  focus
   refine go A0 false ?_
   conv=>whnf
   (repeat refine Ak ?_)
   refine A5 ?_
   refine A4 [2,4,6] A6 ⟨?_,?_,?_,trivial⟩
   focus
    refine go A0 false ?_
    conv=>whnf
    refine B4 A0 rfl rfl rfl rfl rfl rfl rfl rfl rfl rfl rfl (A8 xs) (Ah) (fun _=>Aj xs) Ag (Af ?_)
    refine A5 ?_
    refine A4 [4,6] A6 ⟨?_,?_,trivial⟩
    focus
     refine go A0 false ?_
     conv=>whnf
     (repeat refine Ak ?_)
     refine A5 ?_
     refine A4 [6] A6 ⟨?_,trivial⟩
     refine go A0 false ?_
     conv=>whnf
     (repeat refine Ak ?_)
     refine A5 ?_
     refine A4 [9] A6 ⟨?_,trivial⟩
     refine go A0 false ?_
     conv=>whnf
     refine A5 ?_
     refine A4 [10] A6 ⟨?_,trivial⟩
     refine go A0 false ?_
     conv=>whnf
     refine A5 ?_
     refine Ba A6 (Af ?_)
    rotate_left 1
    focus
     refine go A0 false ?_
     conv=>whnf
     (repeat refine Ak ?_)
     refine A5 ?_
     refine A4 [4] A6 ⟨?_,trivial⟩
     refine go A0 false ?_
     conv=>whnf
     (repeat refine Ak ?_)
     refine A5 ?_
     refine A4 [9] A6 ⟨?_,trivial⟩
     refine go A0 false ?_
     conv=>whnf
     refine A5 ?_
     refine A4 [10] A6 ⟨?_,trivial⟩
     refine go A0 false ?_
     conv=>whnf
     refine A5 ?_
     refine Ba A6 (Af ?_)
   rotate_left 2
   focus
    refine go A0 false ?_
    conv=>whnf
    (repeat refine Ak ?_)
    refine A5 ?_
    refine A4 [2,6] A6 ⟨?_,?_,trivial⟩
    focus
     refine go A0 false ?_
     conv=>whnf
     refine B4 A0 rfl rfl rfl rfl rfl rfl rfl rfl rfl rfl rfl (A8 xs) (Ah) (fun _=>Aj xs) Ag (Af ?_)
     refine A5 ?_
     refine A4 [6] A6 ⟨?_,trivial⟩
     refine go A0 false ?_
     conv=>whnf
     (repeat refine Ak ?_)
     refine A5 ?_
     refine A4 [9] A6 ⟨?_,trivial⟩
     refine go A0 false ?_
     conv=>whnf
     refine A5 ?_
     refine A4 [10] A6 ⟨?_,trivial⟩
     refine go A0 false ?_
     conv=>whnf
     refine A5 ?_
     refine Ba A6 (Af ?_)
    rotate_left 1
    focus
     refine go A0 false ?_
     conv=>whnf
     (repeat refine Ak ?_)
     refine A5 ?_
     refine A4 [2] A6 ⟨?_,trivial⟩
     refine go A0 false ?_
     conv=>whnf
     refine B4 A0 rfl rfl rfl rfl rfl rfl rfl rfl rfl rfl rfl (A8 xs) (Ah) (fun _=>Aj xs) Ag (Af ?_)
     refine A5 ?_
     refine A4 [9] A6 ⟨?_,trivial⟩
     refine go A0 false ?_
     conv=>whnf
     refine A5 ?_
     refine A4 [10] A6 ⟨?_,trivial⟩
     refine go A0 false ?_
     conv=>whnf
     refine A5 ?_
     refine Ba A6 (Af ?_)
   rotate_left 2
   focus
    refine go A0 false ?_
    conv=>whnf
    (repeat refine Ak ?_)
    refine A5 ?_
    refine A4 [2,4] A6 ⟨?_,?_,trivial⟩
    focus
     refine go A0 false ?_
     conv=>whnf
     refine B4 A0 rfl rfl rfl rfl rfl rfl rfl rfl rfl rfl rfl (A8 xs) (Ah) (fun _=>Aj xs) Ag (Af ?_)
     refine A5 ?_
     refine A4 [4] A6 ⟨?_,trivial⟩
     refine go A0 false ?_
     conv=>whnf
     (repeat refine Ak ?_)
     refine A5 ?_
     refine A4 [9] A6 ⟨?_,trivial⟩
     refine go A0 false ?_
     conv=>whnf
     refine A5 ?_
     refine A4 [10] A6 ⟨?_,trivial⟩
     refine go A0 false ?_
     conv=>whnf
     refine A5 ?_
     refine Ba A6 (Af ?_)
    rotate_left 1
    focus
     refine go A0 false ?_
     conv=>whnf
     (repeat refine Ak ?_)
     refine A5 ?_
     refine A4 [2] A6 ⟨?_,trivial⟩
     refine go A0 false ?_
     conv=>whnf
     refine B4 A0 rfl rfl rfl rfl rfl rfl rfl rfl rfl rfl rfl (A8 xs) (Ah) (fun _=>Aj xs) Ag (Af ?_)
     refine A5 ?_
     refine A4 [9] A6 ⟨?_,trivial⟩
     refine go A0 false ?_
     conv=>whnf
     refine A5 ?_
     refine A4 [10] A6 ⟨?_,trivial⟩
     refine go A0 false ?_
     conv=>whnf
     refine A5 ?_
     refine Ba A6 (Af ?_)
 rotate_left 24
 focus
  refine go A0 false ?_
  conv=>whnf
  (repeat refine Ak ?_)
  refine A5 ?_
  refine A4 [0,6,8] A6 ⟨?_,?_,?_,trivial⟩
  focus
   refine go A0 false ?_
   conv=>whnf
   refine A5 ?_
   refine A4 [2,6,8] A6 ⟨?_,?_,?_,trivial⟩
   focus
    refine go A0 false ?_
    conv=>whnf
    refine B4 A0 rfl rfl rfl rfl rfl rfl rfl rfl rfl rfl rfl (A8 xs) (Ah) (fun _=>Aj xs) Ag (Af ?_)
    refine A5 ?_
    refine A4 [6,8] A6 ⟨?_,?_,trivial⟩
    focus
     refine go A0 false ?_
     conv=>whnf
     (repeat refine Ak ?_)
     refine A5 ?_
     refine A4 [8] A6 ⟨?_,trivial⟩
     refine go A0 false ?_
     conv=>whnf
     (repeat refine Ak ?_)
     refine A5 ?_
     refine A4 [9] A6 ⟨?_,trivial⟩
     refine go A0 false ?_
     conv=>whnf
     refine A5 ?_
     refine A4 [10] A6 ⟨?_,trivial⟩
     refine go A0 false ?_
     conv=>whnf
     refine A5 ?_
     refine Ba A6 (Af ?_)
    rotate_left 1
    focus
     refine go A0 false ?_
     conv=>whnf
     (repeat refine Ak ?_)
     refine A5 ?_
     refine A4 [6] A6 ⟨?_,trivial⟩
     refine go A0 false ?_
     conv=>whnf
     (repeat refine Ak ?_)
     refine A5 ?_
     refine A4 [9] A6 ⟨?_,trivial⟩
     refine go A0 false ?_
     conv=>whnf
     refine A5 ?_
     refine A4 [10] A6 ⟨?_,trivial⟩
     refine go A0 false ?_
     conv=>whnf
     refine A5 ?_
     refine Ba A6 (Af ?_)
   rotate_left 2
   focus
    refine go A0 false ?_
    conv=>whnf
    (repeat refine Ak ?_)
    refine A5 ?_
    refine A4 [2,8] A6 ⟨?_,?_,trivial⟩
    focus
     refine go A0 false ?_
     conv=>whnf
     refine B4 A0 rfl rfl rfl rfl rfl rfl rfl rfl rfl rfl rfl (A8 xs) (Ah) (fun _=>Aj xs) Ag (Af ?_)
     refine A5 ?_
     refine A4 [8] A6 ⟨?_,trivial⟩
     refine go A0 false ?_
     conv=>whnf
     (repeat refine Ak ?_)
     refine A5 ?_
     refine A4 [9] A6 ⟨?_,trivial⟩
     refine go A0 false ?_
     conv=>whnf
     refine A5 ?_
     refine A4 [10] A6 ⟨?_,trivial⟩
     refine go A0 false ?_
     conv=>whnf
     refine A5 ?_
     refine Ba A6 (Af ?_)
    rotate_left 1
    focus
     refine go A0 false ?_
     conv=>whnf
     (repeat refine Ak ?_)
     refine A5 ?_
     refine A4 [2] A6 ⟨?_,trivial⟩
     refine go A0 false ?_
     conv=>whnf
     refine B4 A0 rfl rfl rfl rfl rfl rfl rfl rfl rfl rfl rfl (A8 xs) (Ah) (fun _=>Aj xs) Ag (Af ?_)
     refine A5 ?_
     refine A4 [9] A6 ⟨?_,trivial⟩
     refine go A0 false ?_
     conv=>whnf
     refine A5 ?_
     refine A4 [10] A6 ⟨?_,trivial⟩
     refine go A0 false ?_
     conv=>whnf
     refine A5 ?_
     refine Ba A6 (Af ?_)
   rotate_left 2
   focus
    refine go A0 false ?_
    conv=>whnf
    (repeat refine Ak ?_)
    refine A5 ?_
    refine A4 [2,6] A6 ⟨?_,?_,trivial⟩
    focus
     refine go A0 false ?_
     conv=>whnf
     refine B4 A0 rfl rfl rfl rfl rfl rfl rfl rfl rfl rfl rfl (A8 xs) (Ah) (fun _=>Aj xs) Ag (Af ?_)
     refine A5 ?_
     refine A4 [6] A6 ⟨?_,trivial⟩
     refine go A0 false ?_
     conv=>whnf
     (repeat refine Ak ?_)
     refine A5 ?_
     refine A4 [9] A6 ⟨?_,trivial⟩
     refine go A0 false ?_
     conv=>whnf
     refine A5 ?_
     refine A4 [10] A6 ⟨?_,trivial⟩
     refine go A0 false ?_
     conv=>whnf
     refine A5 ?_
     refine Ba A6 (Af ?_)
    rotate_left 1
    focus
     refine go A0 false ?_
     conv=>whnf
     (repeat refine Ak ?_)
     refine A5 ?_
     refine A4 [2] A6 ⟨?_,trivial⟩
     refine go A0 false ?_
     conv=>whnf
     refine B4 A0 rfl rfl rfl rfl rfl rfl rfl rfl rfl rfl rfl (A8 xs) (Ah) (fun _=>Aj xs) Ag (Af ?_)
     refine A5 ?_
     refine A4 [9] A6 ⟨?_,trivial⟩
     refine go A0 false ?_
     conv=>whnf
     refine A5 ?_
     refine A4 [10] A6 ⟨?_,trivial⟩
     refine go A0 false ?_
     conv=>whnf
     refine A5 ?_
     refine Ba A6 (Af ?_)
  rotate_left 6
  focus
   refine go A0 false ?_
   conv=>whnf
   (repeat refine Ak ?_)
   refine A5 ?_
   refine A4 [0,8] A6 ⟨?_,?_,trivial⟩
   focus
    refine go A0 false ?_
    conv=>whnf
    refine A5 ?_
    refine A4 [2,8] A6 ⟨?_,?_,trivial⟩
    focus
     refine go A0 false ?_
     conv=>whnf
     refine B4 A0 rfl rfl rfl rfl rfl rfl rfl rfl rfl rfl rfl (A8 xs) (Ah) (fun _=>Aj xs) Ag (Af ?_)
     refine A5 ?_
     refine A4 [8] A6 ⟨?_,trivial⟩
     refine go A0 false ?_
     conv=>whnf
     (repeat refine Ak ?_)
     refine A5 ?_
     refine A4 [9] A6 ⟨?_,trivial⟩
     refine go A0 false ?_
     conv=>whnf
     refine A5 ?_
     refine A4 [10] A6 ⟨?_,trivial⟩
     refine go A0 false ?_
     conv=>whnf
     refine A5 ?_
     refine Ba A6 (Af ?_)
    rotate_left 1
    focus
     refine go A0 false ?_
     conv=>whnf
     (repeat refine Ak ?_)
     refine A5 ?_
     refine A4 [2] A6 ⟨?_,trivial⟩
     refine go A0 false ?_
     conv=>whnf
     refine B4 A0 rfl rfl rfl rfl rfl rfl rfl rfl rfl rfl rfl (A8 xs) (Ah) (fun _=>Aj xs) Ag (Af ?_)
     refine A5 ?_
     refine A4 [9] A6 ⟨?_,trivial⟩
     refine go A0 false ?_
     conv=>whnf
     refine A5 ?_
     refine A4 [10] A6 ⟨?_,trivial⟩
     refine go A0 false ?_
     conv=>whnf
     refine A5 ?_
     refine Ba A6 (Af ?_)
   rotate_left 2
   focus
    refine go A0 false ?_
    conv=>whnf
    (repeat refine Ak ?_)
    refine A5 ?_
    refine A4 [0] A6 ⟨?_,trivial⟩
    refine go A0 false ?_
    conv=>whnf
    refine A5 ?_
    refine A4 [2] A6 ⟨?_,trivial⟩
    refine go A0 false ?_
    conv=>whnf
    refine B4 A0 rfl rfl rfl rfl rfl rfl rfl rfl rfl rfl rfl (A8 xs) (Ah) (fun _=>Aj xs) Ag (Af ?_)
    refine A5 ?_
    refine A4 [9] A6 ⟨?_,trivial⟩
    refine go A0 false ?_
    conv=>whnf
    refine A5 ?_
    refine A4 [10] A6 ⟨?_,trivial⟩
    refine go A0 false ?_
    conv=>whnf
    refine A5 ?_
    refine Ba A6 (Af ?_)
  rotate_left 3
  focus
   refine go A0 false ?_
   conv=>whnf
   (repeat refine Ak ?_)
   refine A5 ?_
   refine A4 [0,6] A6 ⟨?_,?_,trivial⟩
   focus
    refine go A0 false ?_
    conv=>whnf
    refine A5 ?_
    refine A4 [2,6] A6 ⟨?_,?_,trivial⟩
    focus
     refine go A0 false ?_
     conv=>whnf
     refine B4 A0 rfl rfl rfl rfl rfl rfl rfl rfl rfl rfl rfl (A8 xs) (Ah) (fun _=>Aj xs) Ag (Af ?_)
     refine A5 ?_
     refine A4 [6] A6 ⟨?_,trivial⟩
     refine go A0 false ?_
     conv=>whnf
     (repeat refine Ak ?_)
     refine A5 ?_
     refine A4 [9] A6 ⟨?_,trivial⟩
     refine go A0 false ?_
     conv=>whnf
     refine A5 ?_
     refine A4 [10] A6 ⟨?_,trivial⟩
     refine go A0 false ?_
     conv=>whnf
     refine A5 ?_
     refine Ba A6 (Af ?_)
    rotate_left 1
    focus
     refine go A0 false ?_
     conv=>whnf
     (repeat refine Ak ?_)
     refine A5 ?_
     refine A4 [2] A6 ⟨?_,trivial⟩
     refine go A0 false ?_
     conv=>whnf
     refine B4 A0 rfl rfl rfl rfl rfl rfl rfl rfl rfl rfl rfl (A8 xs) (Ah) (fun _=>Aj xs) Ag (Af ?_)
     refine A5 ?_
     refine A4 [9] A6 ⟨?_,trivial⟩
     refine go A0 false ?_
     conv=>whnf
     refine A5 ?_
     refine A4 [10] A6 ⟨?_,trivial⟩
     refine go A0 false ?_
     conv=>whnf
     refine A5 ?_
     refine Ba A6 (Af ?_)
   rotate_left 2
   focus
    refine go A0 false ?_
    conv=>whnf
    (repeat refine Ak ?_)
    refine A5 ?_
    refine A4 [0] A6 ⟨?_,trivial⟩
    refine go A0 false ?_
    conv=>whnf
    refine A5 ?_
    refine A4 [2] A6 ⟨?_,trivial⟩
    refine go A0 false ?_
    conv=>whnf
    refine B4 A0 rfl rfl rfl rfl rfl rfl rfl rfl rfl rfl rfl (A8 xs) (Ah) (fun _=>Aj xs) Ag (Af ?_)
    refine A5 ?_
    refine A4 [9] A6 ⟨?_,trivial⟩
    refine go A0 false ?_
    conv=>whnf
    refine A5 ?_
    refine A4 [10] A6 ⟨?_,trivial⟩
    refine go A0 false ?_
    conv=>whnf
    refine A5 ?_
    refine Ba A6 (Af ?_)
 rotate_left 12
 focus
  refine go A0 false ?_
  conv=>whnf
  (repeat refine Ak ?_)
  refine A5 ?_
  refine A4 [0,4,8] A6 ⟨?_,?_,?_,trivial⟩
  focus
   refine go A0 false ?_
   conv=>whnf
   refine A5 ?_
   refine A4 [2,4,8] A6 ⟨?_,?_,?_,trivial⟩
   focus
    refine go A0 false ?_
    conv=>whnf
    refine B4 A0 rfl rfl rfl rfl rfl rfl rfl rfl rfl rfl rfl (A8 xs) (Ah) (fun _=>Aj xs) Ag (Af ?_)
    refine A5 ?_
    refine A4 [4,8] A6 ⟨?_,?_,trivial⟩
    focus
     refine go A0 false ?_
     conv=>whnf
     (repeat refine Ak ?_)
     refine A5 ?_
     refine A4 [8] A6 ⟨?_,trivial⟩
     refine go A0 false ?_
     conv=>whnf
     (repeat refine Ak ?_)
     refine A5 ?_
     refine A4 [9] A6 ⟨?_,trivial⟩
     refine go A0 false ?_
     conv=>whnf
     refine A5 ?_
     refine A4 [10] A6 ⟨?_,trivial⟩
     refine go A0 false ?_
     conv=>whnf
     refine A5 ?_
     refine Ba A6 (Af ?_)
    rotate_left 1
    focus
     refine go A0 false ?_
     conv=>whnf
     (repeat refine Ak ?_)
     refine A5 ?_
     refine A4 [4] A6 ⟨?_,trivial⟩
     refine go A0 false ?_
     conv=>whnf
     (repeat refine Ak ?_)
     refine A5 ?_
     refine A4 [9] A6 ⟨?_,trivial⟩
     refine go A0 false ?_
     conv=>whnf
     refine A5 ?_
     refine A4 [10] A6 ⟨?_,trivial⟩
     refine go A0 false ?_
     conv=>whnf
     refine A5 ?_
     refine Ba A6 (Af ?_)
   rotate_left 2
   focus
    refine go A0 false ?_
    conv=>whnf
    (repeat refine Ak ?_)
    refine A5 ?_
    refine A4 [2,8] A6 ⟨?_,?_,trivial⟩
    focus
     refine go A0 false ?_
     conv=>whnf
     refine B4 A0 rfl rfl rfl rfl rfl rfl rfl rfl rfl rfl rfl (A8 xs) (Ah) (fun _=>Aj xs) Ag (Af ?_)
     refine A5 ?_
     refine A4 [8] A6 ⟨?_,trivial⟩
     refine go A0 false ?_
     conv=>whnf
     (repeat refine Ak ?_)
     refine A5 ?_
     refine A4 [9] A6 ⟨?_,trivial⟩
     refine go A0 false ?_
     conv=>whnf
     refine A5 ?_
     refine A4 [10] A6 ⟨?_,trivial⟩
     refine go A0 false ?_
     conv=>whnf
     refine A5 ?_
     refine Ba A6 (Af ?_)
    rotate_left 1
    focus
     refine go A0 false ?_
     conv=>whnf
     (repeat refine Ak ?_)
     refine A5 ?_
     refine A4 [2] A6 ⟨?_,trivial⟩
     refine go A0 false ?_
     conv=>whnf
     refine B4 A0 rfl rfl rfl rfl rfl rfl rfl rfl rfl rfl rfl (A8 xs) (Ah) (fun _=>Aj xs) Ag (Af ?_)
     refine A5 ?_
     refine A4 [9] A6 ⟨?_,trivial⟩
     refine go A0 false ?_
     conv=>whnf
     refine A5 ?_
     refine A4 [10] A6 ⟨?_,trivial⟩
     refine go A0 false ?_
     conv=>whnf
     refine A5 ?_
     refine Ba A6 (Af ?_)
   rotate_left 2
   focus
    refine go A0 false ?_
    conv=>whnf
    (repeat refine Ak ?_)
    refine A5 ?_
    refine A4 [2,4] A6 ⟨?_,?_,trivial⟩
    focus
     refine go A0 false ?_
     conv=>whnf
     refine B4 A0 rfl rfl rfl rfl rfl rfl rfl rfl rfl rfl rfl (A8 xs) (Ah) (fun _=>Aj xs) Ag (Af ?_)
     refine A5 ?_
     refine A4 [4] A6 ⟨?_,trivial⟩
     refine go A0 false ?_
     conv=>whnf
     (repeat refine Ak ?_)
     refine A5 ?_
     refine A4 [9] A6 ⟨?_,trivial⟩
     refine go A0 false ?_
     conv=>whnf
     refine A5 ?_
     refine A4 [10] A6 ⟨?_,trivial⟩
     refine go A0 false ?_
     conv=>whnf
     refine A5 ?_
     refine Ba A6 (Af ?_)
    rotate_left 1
    focus
     refine go A0 false ?_
     conv=>whnf
     (repeat refine Ak ?_)
     refine A5 ?_
     refine A4 [2] A6 ⟨?_,trivial⟩
     refine go A0 false ?_
     conv=>whnf
     refine B4 A0 rfl rfl rfl rfl rfl rfl rfl rfl rfl rfl rfl (A8 xs) (Ah) (fun _=>Aj xs) Ag (Af ?_)
     refine A5 ?_
     refine A4 [9] A6 ⟨?_,trivial⟩
     refine go A0 false ?_
     conv=>whnf
     refine A5 ?_
     refine A4 [10] A6 ⟨?_,trivial⟩
     refine go A0 false ?_
     conv=>whnf
     refine A5 ?_
     refine Ba A6 (Af ?_)
  rotate_left 6
  focus
   refine go A0 false ?_
   conv=>whnf
   (repeat refine Ak ?_)
   refine A5 ?_
   refine A4 [0,8] A6 ⟨?_,?_,trivial⟩
   focus
    refine go A0 false ?_
    conv=>whnf
    refine A5 ?_
    refine A4 [2,8] A6 ⟨?_,?_,trivial⟩
    focus
     refine go A0 false ?_
     conv=>whnf
     refine B4 A0 rfl rfl rfl rfl rfl rfl rfl rfl rfl rfl rfl (A8 xs) (Ah) (fun _=>Aj xs) Ag (Af ?_)
     refine A5 ?_
     refine A4 [8] A6 ⟨?_,trivial⟩
     refine go A0 false ?_
     conv=>whnf
     (repeat refine Ak ?_)
     refine A5 ?_
     refine A4 [9] A6 ⟨?_,trivial⟩
     refine go A0 false ?_
     conv=>whnf
     refine A5 ?_
     refine A4 [10] A6 ⟨?_,trivial⟩
     refine go A0 false ?_
     conv=>whnf
     refine A5 ?_
     refine Ba A6 (Af ?_)
    rotate_left 1
    focus
     refine go A0 false ?_
     conv=>whnf
     (repeat refine Ak ?_)
     refine A5 ?_
     refine A4 [2] A6 ⟨?_,trivial⟩
     refine go A0 false ?_
     conv=>whnf
     refine B4 A0 rfl rfl rfl rfl rfl rfl rfl rfl rfl rfl rfl (A8 xs) (Ah) (fun _=>Aj xs) Ag (Af ?_)
     refine A5 ?_
     refine A4 [9] A6 ⟨?_,trivial⟩
     refine go A0 false ?_
     conv=>whnf
     refine A5 ?_
     refine A4 [10] A6 ⟨?_,trivial⟩
     refine go A0 false ?_
     conv=>whnf
     refine A5 ?_
     refine Ba A6 (Af ?_)
   rotate_left 2
   focus
    refine go A0 false ?_
    conv=>whnf
    (repeat refine Ak ?_)
    refine A5 ?_
    refine A4 [0] A6 ⟨?_,trivial⟩
    refine go A0 false ?_
    conv=>whnf
    refine A5 ?_
    refine A4 [2] A6 ⟨?_,trivial⟩
    refine go A0 false ?_
    conv=>whnf
    refine B4 A0 rfl rfl rfl rfl rfl rfl rfl rfl rfl rfl rfl (A8 xs) (Ah) (fun _=>Aj xs) Ag (Af ?_)
    refine A5 ?_
    refine A4 [9] A6 ⟨?_,trivial⟩
    refine go A0 false ?_
    conv=>whnf
    refine A5 ?_
    refine A4 [10] A6 ⟨?_,trivial⟩
    refine go A0 false ?_
    conv=>whnf
    refine A5 ?_
    refine Ba A6 (Af ?_)
  rotate_left 3
  focus
   refine go A0 false ?_
   conv=>whnf
   (repeat refine Ak ?_)
   refine A5 ?_
   refine A4 [0,4] A6 ⟨?_,?_,trivial⟩
   focus
    refine go A0 false ?_
    conv=>whnf
    refine A5 ?_
    refine A4 [2,4] A6 ⟨?_,?_,trivial⟩
    focus
     refine go A0 false ?_
     conv=>whnf
     refine B4 A0 rfl rfl rfl rfl rfl rfl rfl rfl rfl rfl rfl (A8 xs) (Ah) (fun _=>Aj xs) Ag (Af ?_)
     refine A5 ?_
     refine A4 [4] A6 ⟨?_,trivial⟩
     refine go A0 false ?_
     conv=>whnf
     (repeat refine Ak ?_)
     refine A5 ?_
     refine A4 [9] A6 ⟨?_,trivial⟩
     refine go A0 false ?_
     conv=>whnf
     refine A5 ?_
     refine A4 [10] A6 ⟨?_,trivial⟩
     refine go A0 false ?_
     conv=>whnf
     refine A5 ?_
     refine Ba A6 (Af ?_)
    rotate_left 1
    focus
     refine go A0 false ?_
     conv=>whnf
     (repeat refine Ak ?_)
     refine A5 ?_
     refine A4 [2] A6 ⟨?_,trivial⟩
     refine go A0 false ?_
     conv=>whnf
     refine B4 A0 rfl rfl rfl rfl rfl rfl rfl rfl rfl rfl rfl (A8 xs) (Ah) (fun _=>Aj xs) Ag (Af ?_)
     refine A5 ?_
     refine A4 [9] A6 ⟨?_,trivial⟩
     refine go A0 false ?_
     conv=>whnf
     refine A5 ?_
     refine A4 [10] A6 ⟨?_,trivial⟩
     refine go A0 false ?_
     conv=>whnf
     refine A5 ?_
     refine Ba A6 (Af ?_)
   rotate_left 2
   focus
    refine go A0 false ?_
    conv=>whnf
    (repeat refine Ak ?_)
    refine A5 ?_
    refine A4 [0] A6 ⟨?_,trivial⟩
    refine go A0 false ?_
    conv=>whnf
    refine A5 ?_
    refine A4 [2] A6 ⟨?_,trivial⟩
    refine go A0 false ?_
    conv=>whnf
    refine B4 A0 rfl rfl rfl rfl rfl rfl rfl rfl rfl rfl rfl (A8 xs) (Ah) (fun _=>Aj xs) Ag (Af ?_)
    refine A5 ?_
    refine A4 [9] A6 ⟨?_,trivial⟩
    refine go A0 false ?_
    conv=>whnf
    refine A5 ?_
    refine A4 [10] A6 ⟨?_,trivial⟩
    refine go A0 false ?_
    conv=>whnf
    refine A5 ?_
    refine Ba A6 (Af ?_)
 rotate_left 12
 focus
  refine go A0 false ?_
  conv=>whnf
  (repeat refine Ak ?_)
  refine A5 ?_
  refine A4 [0,4,6] A6 ⟨?_,?_,?_,trivial⟩
  focus
   refine go A0 false ?_
   conv=>whnf
   refine A5 ?_
   refine A4 [2,4,6] A6 ⟨?_,?_,?_,trivial⟩
   focus
    refine go A0 false ?_
    conv=>whnf
    refine B4 A0 rfl rfl rfl rfl rfl rfl rfl rfl rfl rfl rfl (A8 xs) (Ah) (fun _=>Aj xs) Ag (Af ?_)
    refine A5 ?_
    refine A4 [4,6] A6 ⟨?_,?_,trivial⟩
    focus
     refine go A0 false ?_
     conv=>whnf
     (repeat refine Ak ?_)
     refine A5 ?_
     refine A4 [6] A6 ⟨?_,trivial⟩
     refine go A0 false ?_
     conv=>whnf
     (repeat refine Ak ?_)
     refine A5 ?_
     refine A4 [9] A6 ⟨?_,trivial⟩
     refine go A0 false ?_
     conv=>whnf
     refine A5 ?_
     refine A4 [10] A6 ⟨?_,trivial⟩
     refine go A0 false ?_
     conv=>whnf
     refine A5 ?_
     refine Ba A6 (Af ?_)
    rotate_left 1
    focus
     refine go A0 false ?_
     conv=>whnf
     (repeat refine Ak ?_)
     refine A5 ?_
     refine A4 [4] A6 ⟨?_,trivial⟩
     refine go A0 false ?_
     conv=>whnf
     (repeat refine Ak ?_)
     refine A5 ?_
     refine A4 [9] A6 ⟨?_,trivial⟩
     refine go A0 false ?_
     conv=>whnf
     refine A5 ?_
     refine A4 [10] A6 ⟨?_,trivial⟩
     refine go A0 false ?_
     conv=>whnf
     refine A5 ?_
     refine Ba A6 (Af ?_)
   rotate_left 2
   focus
    refine go A0 false ?_
    conv=>whnf
    (repeat refine Ak ?_)
    refine A5 ?_
    refine A4 [2,6] A6 ⟨?_,?_,trivial⟩
    focus
     refine go A0 false ?_
     conv=>whnf
     refine B4 A0 rfl rfl rfl rfl rfl rfl rfl rfl rfl rfl rfl (A8 xs) (Ah) (fun _=>Aj xs) Ag (Af ?_)
     refine A5 ?_
     refine A4 [6] A6 ⟨?_,trivial⟩
     refine go A0 false ?_
     conv=>whnf
     (repeat refine Ak ?_)
     refine A5 ?_
     refine A4 [9] A6 ⟨?_,trivial⟩
     refine go A0 false ?_
     conv=>whnf
     refine A5 ?_
     refine A4 [10] A6 ⟨?_,trivial⟩
     refine go A0 false ?_
     conv=>whnf
     refine A5 ?_
     refine Ba A6 (Af ?_)
    rotate_left 1
    focus
     refine go A0 false ?_
     conv=>whnf
     (repeat refine Ak ?_)
     refine A5 ?_
     refine A4 [2] A6 ⟨?_,trivial⟩
     refine go A0 false ?_
     conv=>whnf
     refine B4 A0 rfl rfl rfl rfl rfl rfl rfl rfl rfl rfl rfl (A8 xs) (Ah) (fun _=>Aj xs) Ag (Af ?_)
     refine A5 ?_
     refine A4 [9] A6 ⟨?_,trivial⟩
     refine go A0 false ?_
     conv=>whnf
     refine A5 ?_
     refine A4 [10] A6 ⟨?_,trivial⟩
     refine go A0 false ?_
     conv=>whnf
     refine A5 ?_
     refine Ba A6 (Af ?_)
   rotate_left 2
   focus
    refine go A0 false ?_
    conv=>whnf
    (repeat refine Ak ?_)
    refine A5 ?_
    refine A4 [2,4] A6 ⟨?_,?_,trivial⟩
    focus
     refine go A0 false ?_
     conv=>whnf
     refine B4 A0 rfl rfl rfl rfl rfl rfl rfl rfl rfl rfl rfl (A8 xs) (Ah) (fun _=>Aj xs) Ag (Af ?_)
     refine A5 ?_
     refine A4 [4] A6 ⟨?_,trivial⟩
     refine go A0 false ?_
     conv=>whnf
     (repeat refine Ak ?_)
     refine A5 ?_
     refine A4 [9] A6 ⟨?_,trivial⟩
     refine go A0 false ?_
     conv=>whnf
     refine A5 ?_
     refine A4 [10] A6 ⟨?_,trivial⟩
     refine go A0 false ?_
     conv=>whnf
     refine A5 ?_
     refine Ba A6 (Af ?_)
    rotate_left 1
    focus
     refine go A0 false ?_
     conv=>whnf
     (repeat refine Ak ?_)
     refine A5 ?_
     refine A4 [2] A6 ⟨?_,trivial⟩
     refine go A0 false ?_
     conv=>whnf
     refine B4 A0 rfl rfl rfl rfl rfl rfl rfl rfl rfl rfl rfl (A8 xs) (Ah) (fun _=>Aj xs) Ag (Af ?_)
     refine A5 ?_
     refine A4 [9] A6 ⟨?_,trivial⟩
     refine go A0 false ?_
     conv=>whnf
     refine A5 ?_
     refine A4 [10] A6 ⟨?_,trivial⟩
     refine go A0 false ?_
     conv=>whnf
     refine A5 ?_
     refine Ba A6 (Af ?_)
  rotate_left 6
  focus
   refine go A0 false ?_
   conv=>whnf
   (repeat refine Ak ?_)
   refine A5 ?_
   refine A4 [0,6] A6 ⟨?_,?_,trivial⟩
   focus
    refine go A0 false ?_
    conv=>whnf
    refine A5 ?_
    refine A4 [2,6] A6 ⟨?_,?_,trivial⟩
    focus
     refine go A0 false ?_
     conv=>whnf
     refine B4 A0 rfl rfl rfl rfl rfl rfl rfl rfl rfl rfl rfl (A8 xs) (Ah) (fun _=>Aj xs) Ag (Af ?_)
     refine A5 ?_
     refine A4 [6] A6 ⟨?_,trivial⟩
     refine go A0 false ?_
     conv=>whnf
     (repeat refine Ak ?_)
     refine A5 ?_
     refine A4 [9] A6 ⟨?_,trivial⟩
     refine go A0 false ?_
     conv=>whnf
     refine A5 ?_
     refine A4 [10] A6 ⟨?_,trivial⟩
     refine go A0 false ?_
     conv=>whnf
     refine A5 ?_
     refine Ba A6 (Af ?_)
    rotate_left 1
    focus
     refine go A0 false ?_
     conv=>whnf
     (repeat refine Ak ?_)
     refine A5 ?_
     refine A4 [2] A6 ⟨?_,trivial⟩
     refine go A0 false ?_
     conv=>whnf
     refine B4 A0 rfl rfl rfl rfl rfl rfl rfl rfl rfl rfl rfl (A8 xs) (Ah) (fun _=>Aj xs) Ag (Af ?_)
     refine A5 ?_
     refine A4 [9] A6 ⟨?_,trivial⟩
     refine go A0 false ?_
     conv=>whnf
     refine A5 ?_
     refine A4 [10] A6 ⟨?_,trivial⟩
     refine go A0 false ?_
     conv=>whnf
     refine A5 ?_
     refine Ba A6 (Af ?_)
   rotate_left 2
   focus
    refine go A0 false ?_
    conv=>whnf
    (repeat refine Ak ?_)
    refine A5 ?_
    refine A4 [0] A6 ⟨?_,trivial⟩
    refine go A0 false ?_
    conv=>whnf
    refine A5 ?_
    refine A4 [2] A6 ⟨?_,trivial⟩
    refine go A0 false ?_
    conv=>whnf
    refine B4 A0 rfl rfl rfl rfl rfl rfl rfl rfl rfl rfl rfl (A8 xs) (Ah) (fun _=>Aj xs) Ag (Af ?_)
    refine A5 ?_
    refine A4 [9] A6 ⟨?_,trivial⟩
    refine go A0 false ?_
    conv=>whnf
    refine A5 ?_
    refine A4 [10] A6 ⟨?_,trivial⟩
    refine go A0 false ?_
    conv=>whnf
    refine A5 ?_
    refine Ba A6 (Af ?_)
  rotate_left 3
  focus
   refine go A0 false ?_
   conv=>whnf
   (repeat refine Ak ?_)
   refine A5 ?_
   refine A4 [0,4] A6 ⟨?_,?_,trivial⟩
   focus
    refine go A0 false ?_
    conv=>whnf
    refine A5 ?_
    refine A4 [2,4] A6 ⟨?_,?_,trivial⟩
    focus
     refine go A0 false ?_
     conv=>whnf
     refine B4 A0 rfl rfl rfl rfl rfl rfl rfl rfl rfl rfl rfl (A8 xs) (Ah) (fun _=>Aj xs) Ag (Af ?_)
     refine A5 ?_
     refine A4 [4] A6 ⟨?_,trivial⟩
     refine go A0 false ?_
     conv=>whnf
     (repeat refine Ak ?_)
     refine A5 ?_
     refine A4 [9] A6 ⟨?_,trivial⟩
     refine go A0 false ?_
     conv=>whnf
     refine A5 ?_
     refine A4 [10] A6 ⟨?_,trivial⟩
     refine go A0 false ?_
     conv=>whnf
     refine A5 ?_
     refine Ba A6 (Af ?_)
    rotate_left 1
    focus
     refine go A0 false ?_
     conv=>whnf
     (repeat refine Ak ?_)
     refine A5 ?_
     refine A4 [2] A6 ⟨?_,trivial⟩
     refine go A0 false ?_
     conv=>whnf
     refine B4 A0 rfl rfl rfl rfl rfl rfl rfl rfl rfl rfl rfl (A8 xs) (Ah) (fun _=>Aj xs) Ag (Af ?_)
     refine A5 ?_
     refine A4 [9] A6 ⟨?_,trivial⟩
     refine go A0 false ?_
     conv=>whnf
     refine A5 ?_
     refine A4 [10] A6 ⟨?_,trivial⟩
     refine go A0 false ?_
     conv=>whnf
     refine A5 ?_
     refine Ba A6 (Af ?_)
   rotate_left 2
   focus
    refine go A0 false ?_
    conv=>whnf
    (repeat refine Ak ?_)
    refine A5 ?_
    refine A4 [0] A6 ⟨?_,trivial⟩
    refine go A0 false ?_
    conv=>whnf
    refine A5 ?_
    refine A4 [2] A6 ⟨?_,trivial⟩
    refine go A0 false ?_
    conv=>whnf
    refine B4 A0 rfl rfl rfl rfl rfl rfl rfl rfl rfl rfl rfl (A8 xs) (Ah) (fun _=>Aj xs) Ag (Af ?_)
    refine A5 ?_
    refine A4 [9] A6 ⟨?_,trivial⟩
    refine go A0 false ?_
    conv=>whnf
    refine A5 ?_
    refine A4 [10] A6 ⟨?_,trivial⟩
    refine go A0 false ?_
    conv=>whnf
    refine A5 ?_
    refine Ba A6 (Af ?_)
 all_goals
  refine B1 A0 rfl rfl ⟨⟨.inr ⟨rfl,rfl,_,_,rfl⟩,.inr ⟨rfl,rfl,_,_,rfl⟩,?_,.inr ⟨rfl,rfl,_,_,rfl⟩,?_,?_,?_,.inr ⟨rfl,rfl,_,_,rfl⟩,trivial⟩,trivial⟩
  ·exact (rfl:A8 xs=A8 xs)
  ·exact A45
  ·exact Vf
  ·exact Vf
def Ka (n:Int) (l:List Ac) (w:Int) (k:Nat):List Ac:=(List.range k).flatMap fun (e:Nat)=>(G7 l e).filter fun r=>De r.key n==w
theorem Sy (n:Int)(l:List Ac)(w:Int)(k:Nat):Ka n l w (k+1)=Ka n l w k++(G7 l k).filter fun r=>De r.key n==w:=by
 rw [Ka,List.range_succ,List.flatMap_append]
 simp [Ka]
theorem Qt (n:Int)(l:List Ac)(w:Int)(k:Nat):(Ka n l w k).length≤k * l.length:=by
 induction k with
 |zero=>simp [Ka]
 |succ k ih=>
  rw [Sy,List.length_append,Nat.succ_mul]
  have h1:=List.length_filter_le (fun r:Ac=>De r.key n==w) (G7 l k)
  have h2:=M7 l k
  omega
def oP (n:Int) (w:Int) (e:Nat) (r:Ac):Bool:=(r.stamp.epoch==(e:Int))&&(De r.key n==w)
theorem A0n (n:Int)(l:List Ac)(w:Int)(e:Nat):l.filter (oP n w e)=(G7 l e).filter fun r=>De r.key n==w:=by
 show _=List.filter _ (List.filter _ l)
 rw [List.filter_filter]
 congr 1
 funext r
 rw [oP,Bool.and_comm]
set_option maxHeartbeats 1600000 in
theorem A5v (g:An)(l:List Ac)(w:Int)(hl:l.length≤20)(hg:g.workers≤4):Bp Try.prog 29 [.agg g.c,.one (A8 l),.one (vi w)] [.one (A8 (Ka g.workers l w 4))]:=by
 refine Bm A0 false Try.func29 rfl Cb fun W=>?_
 conv=>whnf
 refine Du 1 (A8 []) rfl Da ?_
 refine Cc A0 false [9,10] (fun k:Nat=>[(8,.c (vi k))]) (fun k=>[⟨0,[.c (Bt g.nodes),.c (vi g.workers),.c (vi g.cap)]⟩]) (fun k=>[⟨1,A8 (Ka g.workers l w k)⟩])
  (fun k=>k≤4) (fun k=>4-k) 0 (Nat.zero_le _) ⟨by first|rfl|simp [Dc,ren2,ren1,ren0],trivial⟩ D8 ⟨by first|rfl|exact (congrArg (fun l=>Dz _ _ l) (List.append_nil _)).symm|(show (_:A7)=_;simp)|simp,trivial⟩ Dg A6 (fun k hk=>?_)
 conv=>whnf
 refine ⟨fun h=>?_,fun h=>?_⟩<;>conv=>whnf
 ·have h:k<4:=by have:=of_decide_eq_true h;omega
  have hk1:=Qt g.workers l w k
  have hk2:k * l.length≤80:=Nat.le_trans (Nat.mul_le_mul (show k≤4 by omega) hl) Cb
  refine Cc A0 false [] (fun j:Nat=>[(9,.c (vi j))]) (fun j=>[⟨0,[.c (Bt g.nodes),.c (vi g.workers),.c (vi g.cap)]⟩]) (fun j=>[⟨1,A8 (Ka g.workers l w k++(l.take j).filter (oP g.workers w k))⟩])
   (fun j=>j≤l.length) (fun j=>l.length-j) 0 (Nat.zero_le _) ⟨by first|rfl|simp [Dc,ren2,ren1,ren0],trivial⟩ D8 ⟨by first|rfl|exact (congrArg (fun l=>Dz _ _ l) (List.append_nil _)).symm|(show (_:A7)=_;simp)|simp,trivial⟩ Dg A6 (fun j hj=>?_)
  conv=>whnf
  conv=>whnf
  refine G2 (fun h2=>?_) fun h2=>?_<;>conv=>whnf
  ·have h2:j<l.length:=by omega
   have hs:=Ev (oP g.workers w k) l j h2
   have hb:=Dh (oP g.workers w k) l j
   first|(refine At 8 rfl [0,1,2,3,4,5,6,7,8,9,10,11,12,13,14,15,17,16,18,19] A6 (Af ?_))
   (repeat refine Ak ?_)
   refine ⟨fun h3=>?_,fun h3=>?_⟩<;>conv=>whnf
   ·rw [Int.toNat_natCast] at h3
    repeat refine Bg ?_
    (repeat refine Ak ?_)
    refine B7 (Ky (l.getD j default).key g.workers Ag) rfl (Af ?_)
    repeat refine Bg ?_
    refine ⟨fun h4=>?_,fun h4=>?_⟩<;>conv=>whnf
    ·have h5:oP g.workers w k (l.getD j default)=true:=by rw [oP,h3,h4];rfl
     (repeat refine Ak ?_)
     refine B4 A0 rfl rfl rfl rfl rfl rfl rfl rfl rfl rfl rfl (A8 (Ka g.workers l w k++(l.take j).filter (oP g.workers w k)++[l.getD j default])) (B5 rfl) Rt (by (rw [List.length_append];omega)) (Af ?_)
     (repeat refine Ak ?_)
     refine B8 [(1,3)] (j+1) Ag Ag ⟨rfl,trivial⟩ ⟨congrArg A8 (by rw [hs,if_pos h5,List.append_assoc]),trivial⟩ D8 A6 Dg A6
    ·have h5:oP g.workers w k (l.getD j default)=false:=by rw [oP,h4,Bool.and_false]
     repeat refine Bg ?_
     refine B8 [] (j+1) Ag Ag ⟨rfl,trivial⟩ ⟨congrArg A8 (by rw [hs,if_neg (by rw [h5];decide),List.append_nil]),trivial⟩ D8 A6 Dg A6
   ·rw [Int.toNat_natCast] at h3
    have h5:oP g.workers w k (l.getD j default)=false:=by rw [oP,h3,Bool.false_and]
    repeat refine Bg ?_
    refine B8 [] (j+1) Ag Ag ⟨rfl,trivial⟩ ⟨congrArg A8 (by rw [hs,if_neg (by rw [h5];decide),List.append_nil]),trivial⟩ D8 A6 Dg A6
  ·(repeat refine Ak ?_)
   refine B8 [] (k+1) Ag Ag ⟨rfl,trivial⟩ ⟨congrArg A8 (by rw [Sy,←A0n,List.take_of_length_le Ag]),trivial⟩ D8 A6 Dg A6
 ·have h:¬ k<4:=by have:=of_decide_eq_false h;omega
  obtain rfl:k=4:=by omega
  refine B1 A0 rfl rfl ?_
  exact C1
end Go.Proofs.Ytonodkjaoalfjaa
