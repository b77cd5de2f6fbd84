/- Part 14 of the proof that each of the laws FnExactRunScriptOf, FnExactSpreadResult returns true for every input. No conditions. -/
import Derived.Test.YtlbmkgkmbjadcaaGreatP4
import Derived.Test.YtlbmkgkmbjadcaaGreatP7

set_option linter.unusedSimpArgs false
set_option linter.unusedVariables false
set_option maxRecDepth 100000
namespace Go.Proofs.YtlbmkgkmbjadcaaGreat
open Go.Sx
theorem C4 (l:List A3)(h:l.length≤16777216):Aq Tryz.prog 154 [.one (A9 l)] [.one (A9 l)]:=by
 refine Aj A0 false Tryz.func154 rfl Bs fun W=>?_
 conv=>whnf
 refine Bm A0 rfl rfl rfl rfl rfl rfl rfl rfl rfl rfl rfl (A9 l) (B1) (fun _=>Ba l) Ad (Ae ?_)
 exact Ah A0 rfl rfl ⟨rfl,trivial⟩
theorem Ex (l:List Aa)(h:l.length≤16777216):Aq Tryz.prog 199 [.one (Ao l)] [.one (Ao l)]:=by
 refine Aj A0 false Tryz.func199 rfl Bs fun W=>?_
 conv=>whnf
 refine Bm A0 rfl rfl rfl rfl rfl rfl rfl rfl rfl rfl rfl (Ao l) (B1) (fun _=>Fa l) Ad (Ae ?_)
 exact Ah A0 rfl rfl ⟨rfl,trivial⟩
theorem Ky (l:As)(h:l.w≤16777216):Aq Tryz.prog 156 [.agg l.c] [.agg l.c]:=by
 have h:l.queue.length≤16777216:=h
 refine Aj A0 false Tryz.func156 rfl Bs fun W=>?_
 conv=>whnf
 refine Av (C4 l.queue h) rfl (Ae ?_)
 exact Ah A0 rfl rfl ⟨⟨rfl,rfl,rfl,rfl,rfl,rfl,trivial⟩,trivial⟩
theorem L3 (l:As)(h:l.w≤16777216):Aq Tryz.prog 187 [.agg l.c] [.agg l.c]:=by
 have h:l.queue.length≤16777216:=h
 refine Aj A0 false Tryz.func187 rfl Bs fun W=>?_
 conv=>whnf
 refine Bm A0 rfl rfl rfl rfl rfl rfl rfl rfl rfl rfl rfl (A9 l.queue) (B1) (fun _=>Ba l.queue) Ad (Ae ?_)
 exact Ah A0 rfl rfl ⟨⟨rfl,rfl,rfl,rfl,rfl,rfl,trivial⟩,trivial⟩
set_option maxHeartbeats 8000000 in
theorem Gn (x:A6)(h:x.w≤16777216):Aq Tryz.prog 155 [.agg x.c] [.agg x.c]:=by
 simp only [A6.w] at h
 refine A0n A0 false Tryz.func155 rfl Bs fun W us hul huv huo hp=>?_
 match us,hul with
 | [v0,v1,v2,v3,v4,v5,v6,v7],_=>
 conv=>whnf
 refine Gl rfl ?_
 refine Bk A0 false 0 rfl rfl A5 rfl (Af D7) ?_
 refine Bk A0 false 3 rfl rfl A5 rfl (Af D7) ?_
 refine Bk A0 false 6 rfl rfl A5 rfl (Af D7) ?_
 refine Bk A0 false 9 rfl rfl A5 rfl (Af D7) ?_
 refine Bk A0 false 12 rfl rfl A5 rfl (Af D7) ?_
 refine Bk A0 false 15 rfl rfl A5 rfl (Af D7) ?_
 refine Bk A0 false 18 rfl rfl A5 rfl (Af D7) ?_
 refine Bk A0 false 21 rfl rfl A5 rfl (Af D7) ?_
 refine Jo [2,5,8,11,14,17,20,23,24,25] [⟨1,4,.rd v0⟩,⟨4,7,.rd v1⟩,⟨7,10,.rd v2⟩,⟨10,13,.rd v3⟩,⟨13,16,.rd v4⟩,⟨16,19,.rd v5⟩,⟨19,22,.rd v6⟩,⟨22,25,.rd v7⟩] A5 ?_
 refine Bf (s':=?_) A0 rfl A5 F1 ?_ ?_
 rotate_left
 refine go A0 false ?_
 conv=>whnf
 refine A1r hp 0 0 rfl rfl ?_
 refine Av (C4 x.queue Ad) rfl (Ae ?_)
 exact Ax
 refine Bf (s':=?_) A0 rfl A5 F1 ?_ ?_
 rotate_left
 refine go A0 false ?_
 conv=>whnf
 refine A1r hp 0 1 rfl rfl ?_
 refine Av (C4 x.staged Ad) rfl (Ae ?_)
 exact Ax
 refine Bf (s':=?_) A0 rfl A5 F1 ?_ ?_
 rotate_left
 refine go A0 false ?_
 conv=>whnf
 refine A1r hp 0 2 rfl rfl ?_
 refine Av (C4 x.inputs Ad) rfl (Ae ?_)
 exact Ax
 refine Bf (s':=?_) A0 rfl A5 F1 ?_ ?_
 rotate_left
 refine go A0 false ?_
 conv=>whnf
 refine A1r hp 0 3 rfl rfl ?_
 refine Av (Ex x.cells Ad) rfl (Ae ?_)
 exact Ax
 refine Bf (s':=?_) A0 rfl A5 F1 ?_ ?_
 rotate_left
 refine go A0 false ?_
 conv=>whnf
 refine H0 hp 4 rfl 16 rfl ?_
 refine Bm A0 rfl rfl rfl rfl rfl rfl rfl rfl rfl rfl rfl (Eu x.sums) (B1) (fun _=>Mx x.sums) Ad (Ae ?_)
 exact Ax
 refine Bf (s':=?_) A0 rfl A5 F1 ?_ ?_
 rotate_left
 refine go A0 false ?_
 conv=>whnf
 refine H0 hp 5 rfl 19 rfl ?_
 refine Bm A0 rfl rfl rfl rfl rfl rfl rfl rfl rfl rfl rfl (Cx x.black) (B1) (fun _=>Nk x.black) Ad (Ae ?_)
 exact Ax
 refine Bf (s':=?_) A0 rfl A5 F1 ?_ ?_
 rotate_left
 refine go A0 false ?_
 conv=>whnf
 refine H0 hp 6 rfl 22 rfl ?_
 refine Bm A0 rfl rfl rfl rfl rfl rfl rfl rfl rfl rfl rfl (Cx x.caps) (B1) (fun _=>Nk x.caps) Ad (Ae ?_)
 exact Ax
 refine Bf (s':=?_) A0 rfl A5 F1 ?_ ?_
 rotate_left
 refine go A0 false ?_
 conv=>whnf
 refine H0 hp 7 rfl 25 rfl ?_
 refine Bm A0 rfl rfl rfl rfl rfl rfl rfl rfl rfl rfl rfl (Er x.dones) (B1) (fun _=>W4 x.dones) Ad (Ae ?_)
 exact Ax
 refine Bf (s':=?_) A0 rfl A5 F1 ?_ ?_
 rotate_left
 refine go A0 false ?_
 conv=>whnf
 (repeat refine An ?_)
 exact Ax
 refine Bf (s':=?_) A0 rfl A5 F1 ?_ ?_
 rotate_left
 refine go A0 false ?_
 conv=>whnf
 (repeat refine An ?_)
 exact Ax
 refine I7 A0 A5 F1 (GW.out (Iy ?_))
 conv=>whnf
 exact Ah A0 rfl rfl ⟨⟨rfl,rfl,rfl,rfl,rfl,rfl,rfl,rfl,trivial⟩,trivial⟩
set_option maxHeartbeats 8000000 in
theorem Xp (x:A6)(h:x.w≤16777216):Aq Tryz.prog 186 [.agg x.c] [.agg x.c]:=by
 simp only [A6.w] at h
 refine A0n A0 false Tryz.func186 rfl Bs fun W us hul huv huo hp=>?_
 match us,hul with
 | [v0,v1,v2,v3,v4,v5,v6,v7],_=>
 conv=>whnf
 refine Gl rfl ?_
 refine Bk A0 false 1 rfl rfl A5 rfl (Af D7) ?_
 refine Bk A0 false 5 rfl rfl A5 rfl (Af D7) ?_
 refine Bk A0 false 9 rfl rfl A5 rfl (Af D7) ?_
 refine Bk A0 false 13 rfl rfl A5 rfl (Af D7) ?_
 refine Bk A0 false 17 rfl rfl A5 rfl (Af D7) ?_
 refine Bk A0 false 21 rfl rfl A5 rfl (Af D7) ?_
 refine Bk A0 false 25 rfl rfl A5 rfl (Af D7) ?_
 refine Bk A0 false 29 rfl rfl A5 rfl (Af D7) ?_
 refine Jo [3,7,11,15,19,23,27,31,32,33] [⟨0,3,.emp 5⟩,⟨2,5,.rd v0⟩,⟨4,7,.emp 5⟩,⟨6,9,.rd v1⟩,⟨8,11,.emp 5⟩,⟨10,13,.rd v2⟩,⟨12,15,.emp 4⟩,⟨14,17,.rd v3⟩,⟨16,19,.emp 1⟩,⟨18,21,.rd v4⟩,⟨20,23,.emp 1⟩,⟨22,25,.rd v5⟩,⟨24,27,.emp 1⟩,⟨26,29,.rd v6⟩,⟨28,31,.emp 2⟩,⟨30,33,.rd v7⟩] A5 ?_
 refine Bf (s':=?_) A0 rfl A5 F1 ?_ ?_
 rotate_left
 refine go A0 false ?_
 conv=>whnf
 refine H0 hp 0 rfl 5 rfl ?_
 refine Bm A0 rfl rfl rfl rfl rfl rfl rfl rfl rfl rfl rfl (A9 x.queue) (B1) (fun _=>Ba x.queue) Ad (Ae ?_)
 exact Ax
 refine Bf (s':=?_) A0 rfl A5 F1 ?_ ?_
 rotate_left
 refine go A0 false ?_
 conv=>whnf
 refine H0 hp 1 rfl 9 rfl ?_
 refine Bm A0 rfl rfl rfl rfl rfl rfl rfl rfl rfl rfl rfl (A9 x.staged) (B1) (fun _=>Ba x.staged) Ad (Ae ?_)
 exact Ax
 refine Bf (s':=?_) A0 rfl A5 F1 ?_ ?_
 rotate_left
 refine go A0 false ?_
 conv=>whnf
 refine H0 hp 2 rfl 13 rfl ?_
 refine Bm A0 rfl rfl rfl rfl rfl rfl rfl rfl rfl rfl rfl (A9 x.inputs) (B1) (fun _=>Ba x.inputs) Ad (Ae ?_)
 exact Ax
 refine Bf (s':=?_) A0 rfl A5 F1 ?_ ?_
 rotate_left
 refine go A0 false ?_
 conv=>whnf
 refine H0 hp 3 rfl 17 rfl ?_
 refine Bm A0 rfl rfl rfl rfl rfl rfl rfl rfl rfl rfl rfl (Ao x.cells) (B1) (fun _=>Fa x.cells) Ad (Ae ?_)
 exact Ax
 refine Bf (s':=?_) A0 rfl A5 F1 ?_ ?_
 rotate_left
 refine go A0 false ?_
 conv=>whnf
 refine H0 hp 4 rfl 21 rfl ?_
 refine Bm A0 rfl rfl rfl rfl rfl rfl rfl rfl rfl rfl rfl (Eu x.sums) (B1) (fun _=>Mx x.sums) Ad (Ae ?_)
 exact Ax
 refine Bf (s':=?_) A0 rfl A5 F1 ?_ ?_
 rotate_left
 refine go A0 false ?_
 conv=>whnf
 refine H0 hp 5 rfl 25 rfl ?_
 refine Bm A0 rfl rfl rfl rfl rfl rfl rfl rfl rfl rfl rfl (Cx x.black) (B1) (fun _=>Nk x.black) Ad (Ae ?_)
 exact Ax
 refine Bf (s':=?_) A0 rfl A5 F1 ?_ ?_
 rotate_left
 refine go A0 false ?_
 conv=>whnf
 refine H0 hp 6 rfl 29 rfl ?_
 refine Bm A0 rfl rfl rfl rfl rfl rfl rfl rfl rfl rfl rfl (Cx x.caps) (B1) (fun _=>Nk x.caps) Ad (Ae ?_)
 exact Ax
 refine Bf (s':=?_) A0 rfl A5 F1 ?_ ?_
 rotate_left
 refine go A0 false ?_
 conv=>whnf
 refine H0 hp 7 rfl 33 rfl ?_
 refine Bm A0 rfl rfl rfl rfl rfl rfl rfl rfl rfl rfl rfl (Er x.dones) (B1) (fun _=>W4 x.dones) Ad (Ae ?_)
 exact Ax
 refine Bf (s':=?_) A0 rfl A5 F1 ?_ ?_
 rotate_left
 refine go A0 false ?_
 conv=>whnf
 (repeat refine An ?_)
 exact Ax
 refine Bf (s':=?_) A0 rfl A5 F1 ?_ ?_
 rotate_left
 refine go A0 false ?_
 conv=>whnf
 (repeat refine An ?_)
 exact Ax
 refine I7 A0 A5 F1 (GW.out (Iy ?_))
 conv=>whnf
 exact Ah A0 rfl rfl ⟨⟨rfl,rfl,rfl,rfl,rfl,rfl,rfl,rfl,trivial⟩,trivial⟩
end Go.Proofs.YtlbmkgkmbjadcaaGreat
