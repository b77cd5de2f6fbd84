/- Part 12 of the proof that each of the laws FnColours returns true for every input. No conditions. -/
import Derived.Test.YtdendlkeiaccpaaGreatDoorP4
import Derived.Test.YtdendlkeiaccpaaGreatDoorP6

set_option linter.unusedSimpArgs false
set_option linter.unusedVariables false
set_option maxRecDepth 100000
namespace Go.Proofs.YtdendlkeiaccpaaGreatDoor
open Go.Sx
theorem Il (l:List Ae)(h:l.length≤16777216):Be Tryz.prog 163 [.one (Ag l)] [.one (Ag l)]:=by
 refine B5 A0 false Tryz.func163 rfl Az fun W=>?_
 conv=>whnf
 refine B6 A0 rfl rfl rfl rfl rfl rfl rfl rfl rfl rfl rfl (Ag l) (C1) (fun _=>F7 l) Ac (A8 ?_)
 exact Ap A0 rfl rfl ⟨rfl,trivial⟩
theorem Y3 (l:List Bj)(h:l.length≤16777216):Be Tryz.prog 164 [.one (Bm l)] [.one (Bm l)]:=by
 refine B5 A0 false Tryz.func164 rfl Az fun W=>?_
 conv=>whnf
 refine B6 A0 rfl rfl rfl rfl rfl rfl rfl rfl rfl rfl rfl (Bm l) (C1) (fun _=>Es l) Ac (A8 ?_)
 exact Ap A0 rfl rfl ⟨rfl,trivial⟩
theorem A06 (l:Bz)(h:l.w≤16777216):Be Tryz.prog 125 [.agg l.c] [.agg l.c]:=by
 have h:l.queue.length≤16777216:=h
 refine B5 A0 false Tryz.func125 rfl Az fun W=>?_
 conv=>whnf
 refine Cn (Il l.queue h) rfl (A8 ?_)
 exact Ap A0 rfl rfl ⟨⟨rfl,rfl,rfl,rfl,rfl,rfl,trivial⟩,trivial⟩
theorem L0 (l:Bz)(h:l.w≤16777216):Be Tryz.prog 136 [.agg l.c] [.agg l.c]:=by
 have h:l.queue.length≤16777216:=h
 refine B5 A0 false Tryz.func136 rfl Az fun W=>?_
 conv=>whnf
 refine B6 A0 rfl rfl rfl rfl rfl rfl rfl rfl rfl rfl rfl (Ag l.queue) (C1) (fun _=>F7 l.queue) Ac (A8 ?_)
 exact Ap A0 rfl rfl ⟨⟨rfl,rfl,rfl,rfl,rfl,rfl,trivial⟩,trivial⟩
set_option maxHeartbeats 8000000 in
theorem Wb (x:Aa)(h:x.w≤16777216):Be Tryz.prog 124 [.agg x.c] [.agg x.c]:=by
 simp only [Aa.w] at h
 refine A0y A0 false Tryz.func124 rfl Az fun W us hul huv huo hp=>?_
 match us,hul with
 | [v0,v1,v2,v3,v4,v5,v6,v7],_=>
 conv=>whnf
 refine Ks rfl ?_
 refine Ca A0 false 0 rfl rfl A7 rfl (A5 Bb) ?_
 refine Ca A0 false 3 rfl rfl A7 rfl (A5 Bb) ?_
 refine Ca A0 false 6 rfl rfl A7 rfl (A5 Bb) ?_
 refine Ca A0 false 9 rfl rfl A7 rfl (A5 Bb) ?_
 refine Ca A0 false 12 rfl rfl A7 rfl (A5 Bb) ?_
 refine Ca A0 false 15 rfl rfl A7 rfl (A5 Bb) ?_
 refine Ca A0 false 18 rfl rfl A7 rfl (A5 Bb) ?_
 refine Ca A0 false 21 rfl rfl A7 rfl (A5 Bb) ?_
 refine Mq [2,5,8,11,14,17,20,23,24,25] [⟨1,4,.rd v0⟩,⟨4,7,.rd v1⟩,⟨7,10,.rd v2⟩,⟨10,13,.rd v3⟩,⟨13,16,.rd v4⟩,⟨16,19,.rd v5⟩,⟨19,22,.rd v6⟩,⟨22,25,.rd v7⟩] A7 ?_
 refine Bk (s':=?_) A0 rfl A7 Dl ?_ ?_
 rotate_left
 refine A8 ?_
 refine A1w hp 0 0 rfl rfl ?_
 refine Cn (Il x.queue Ac) rfl (A8 ?_)
 exact Bh
 refine Bk (s':=?_) A0 rfl A7 Dl ?_ ?_
 rotate_left
 refine A8 ?_
 refine A1w hp 0 1 rfl rfl ?_
 refine Cn (Il x.staged Ac) rfl (A8 ?_)
 exact Bh
 refine Bk (s':=?_) A0 rfl A7 Dl ?_ ?_
 rotate_left
 refine A8 ?_
 refine A1w hp 0 2 rfl rfl ?_
 refine Cn (Il x.inputs Ac) rfl (A8 ?_)
 exact Bh
 refine Bk (s':=?_) A0 rfl A7 Dl ?_ ?_
 rotate_left
 refine A8 ?_
 refine A1w hp 0 3 rfl rfl ?_
 refine Cn (Y3 x.cells Ac) rfl (A8 ?_)
 exact Bh
 refine Bk (s':=?_) A0 rfl A7 Dl ?_ ?_
 rotate_left
 refine A8 ?_
 refine Gx hp 4 rfl 16 rfl ?_
 refine B6 A0 rfl rfl rfl rfl rfl rfl rfl rfl rfl rfl rfl (Au x.sums) (C1) (fun _=>Mn x.sums) Ac (A8 ?_)
 exact Bh
 refine Bk (s':=?_) A0 rfl A7 Dl ?_ ?_
 rotate_left
 refine A8 ?_
 refine Gx hp 5 rfl 19 rfl ?_
 refine B6 A0 rfl rfl rfl rfl rfl rfl rfl rfl rfl rfl rfl (Dq x.black) (C1) (fun _=>Nb x.black) Ac (A8 ?_)
 exact Bh
 refine Bk (s':=?_) A0 rfl A7 Dl ?_ ?_
 rotate_left
 refine A8 ?_
 refine Gx hp 6 rfl 22 rfl ?_
 refine B6 A0 rfl rfl rfl rfl rfl rfl rfl rfl rfl rfl rfl (Dq x.caps) (C1) (fun _=>Nb x.caps) Ac (A8 ?_)
 exact Bh
 refine Bk (s':=?_) A0 rfl A7 Dl ?_ ?_
 rotate_left
 refine A8 ?_
 refine Gx hp 7 rfl 25 rfl ?_
 refine B6 A0 rfl rfl rfl rfl rfl rfl rfl rfl rfl rfl rfl (G1 x.dones) (C1) (fun _=>W0 x.dones) Ac (A8 ?_)
 exact Bh
 refine Bk (s':=?_) A0 rfl A7 Dl ?_ ?_
 rotate_left
 refine A8 ?_
 (repeat refine An ?_)
 exact Bh
 refine Bk (s':=?_) A0 rfl A7 Dl ?_ ?_
 rotate_left
 refine A8 ?_
 (repeat refine An ?_)
 exact Bh
 refine Jt A0 A7 Dl (GW.out (I5 ?_))
 conv=>whnf
 exact Ap A0 rfl rfl ⟨⟨rfl,rfl,rfl,rfl,rfl,rfl,rfl,rfl,trivial⟩,trivial⟩
set_option maxHeartbeats 8000000 in
theorem Hr (x:Aa)(h:x.w≤16777216):Be Tryz.prog 135 [.agg x.c] [.agg x.c]:=by
 simp only [Aa.w] at h
 refine A0y A0 false Tryz.func135 rfl Az fun W us hul huv huo hp=>?_
 match us,hul with
 | [v0,v1,v2,v3,v4,v5,v6,v7],_=>
 conv=>whnf
 refine Ks rfl ?_
 refine Ca A0 false 1 rfl rfl A7 rfl (A5 Bb) ?_
 refine Ca A0 false 5 rfl rfl A7 rfl (A5 Bb) ?_
 refine Ca A0 false 9 rfl rfl A7 rfl (A5 Bb) ?_
 refine Ca A0 false 13 rfl rfl A7 rfl (A5 Bb) ?_
 refine Ca A0 false 17 rfl rfl A7 rfl (A5 Bb) ?_
 refine Ca A0 false 21 rfl rfl A7 rfl (A5 Bb) ?_
 refine Ca A0 false 25 rfl rfl A7 rfl (A5 Bb) ?_
 refine Ca A0 false 29 rfl rfl A7 rfl (A5 Bb) ?_
 refine Mq [3,7,11,15,19,23,27,31,32,33] [⟨0,3,.emp 5⟩,⟨2,5,.rd v0⟩,⟨4,7,.emp 5⟩,⟨6,9,.rd v1⟩,⟨8,11,.emp 5⟩,⟨10,13,.rd v2⟩,⟨12,15,.emp 4⟩,⟨14,17,.rd v3⟩,⟨16,19,.emp 1⟩,⟨18,21,.rd v4⟩,⟨20,23,.emp 1⟩,⟨22,25,.rd v5⟩,⟨24,27,.emp 1⟩,⟨26,29,.rd v6⟩,⟨28,31,.emp 2⟩,⟨30,33,.rd v7⟩] A7 ?_
 refine Bk (s':=?_) A0 rfl A7 Dl ?_ ?_
 rotate_left
 refine A8 ?_
 refine Gx hp 0 rfl 5 rfl ?_
 refine B6 A0 rfl rfl rfl rfl rfl rfl rfl rfl rfl rfl rfl (Ag x.queue) (C1) (fun _=>F7 x.queue) Ac (A8 ?_)
 exact Bh
 refine Bk (s':=?_) A0 rfl A7 Dl ?_ ?_
 rotate_left
 refine A8 ?_
 refine Gx hp 1 rfl 9 rfl ?_
 refine B6 A0 rfl rfl rfl rfl rfl rfl rfl rfl rfl rfl rfl (Ag x.staged) (C1) (fun _=>F7 x.staged) Ac (A8 ?_)
 exact Bh
 refine Bk (s':=?_) A0 rfl A7 Dl ?_ ?_
 rotate_left
 refine A8 ?_
 refine Gx hp 2 rfl 13 rfl ?_
 refine B6 A0 rfl rfl rfl rfl rfl rfl rfl rfl rfl rfl rfl (Ag x.inputs) (C1) (fun _=>F7 x.inputs) Ac (A8 ?_)
 exact Bh
 refine Bk (s':=?_) A0 rfl A7 Dl ?_ ?_
 rotate_left
 refine A8 ?_
 refine Gx hp 3 rfl 17 rfl ?_
 refine B6 A0 rfl rfl rfl rfl rfl rfl rfl rfl rfl rfl rfl (Bm x.cells) (C1) (fun _=>Es x.cells) Ac (A8 ?_)
 exact Bh
 refine Bk (s':=?_) A0 rfl A7 Dl ?_ ?_
 rotate_left
 refine A8 ?_
 refine Gx hp 4 rfl 21 rfl ?_
 refine B6 A0 rfl rfl rfl rfl rfl rfl rfl rfl rfl rfl rfl (Au x.sums) (C1) (fun _=>Mn x.sums) Ac (A8 ?_)
 exact Bh
 refine Bk (s':=?_) A0 rfl A7 Dl ?_ ?_
 rotate_left
 refine A8 ?_
 refine Gx hp 5 rfl 25 rfl ?_
 refine B6 A0 rfl rfl rfl rfl rfl rfl rfl rfl rfl rfl rfl (Dq x.black) (C1) (fun _=>Nb x.black) Ac (A8 ?_)
 exact Bh
 refine Bk (s':=?_) A0 rfl A7 Dl ?_ ?_
 rotate_left
 refine A8 ?_
 refine Gx hp 6 rfl 29 rfl ?_
 refine B6 A0 rfl rfl rfl rfl rfl rfl rfl rfl rfl rfl rfl (Dq x.caps) (C1) (fun _=>Nb x.caps) Ac (A8 ?_)
 exact Bh
 refine Bk (s':=?_) A0 rfl A7 Dl ?_ ?_
 rotate_left
 refine A8 ?_
 refine Gx hp 7 rfl 33 rfl ?_
 refine B6 A0 rfl rfl rfl rfl rfl rfl rfl rfl rfl rfl rfl (G1 x.dones) (C1) (fun _=>W0 x.dones) Ac (A8 ?_)
 exact Bh
 refine Bk (s':=?_) A0 rfl A7 Dl ?_ ?_
 rotate_left
 refine A8 ?_
 (repeat refine An ?_)
 exact Bh
 refine Bk (s':=?_) A0 rfl A7 Dl ?_ ?_
 rotate_left
 refine A8 ?_
 (repeat refine An ?_)
 exact Bh
 refine Jt A0 A7 Dl (GW.out (I5 ?_))
 conv=>whnf
 exact Ap A0 rfl rfl ⟨⟨rfl,rfl,rfl,rfl,rfl,rfl,rfl,rfl,trivial⟩,trivial⟩
end Go.Proofs.YtdendlkeiaccpaaGreatDoor
