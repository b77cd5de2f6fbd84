/- Part 25 of the proof that each of the laws FnSpread returns true for every input. No conditions. -/
import Derived.Test.YtdendlkeiaccpaaGreatQ22
import Derived.Test.YtdendlkeiaccpaaGreatQ24
import Derived.Test.YtdendlkeiaccpaaGreatQ21
import Derived.Test.YtdendlkeiaccpaaGreatQ5
import Derived.Test.YtdendlkeiaccpaaGreatQ6
import Derived.Test.YtdendlkeiaccpaaGreatQ7
import Derived.Test.YtdendlkeiaccpaaGreatQ15
import Derived.Test.YtdendlkeiaccpaaGreatQ3
import Derived.Test.YtdendlkeiaccpaaGreatQ23
import Derived.Test.YtdendlkeiaccpaaGreatQ17
import Derived.Test.YtdendlkeiaccpaaGreatQ19

set_option linter.unusedSimpArgs false
set_option linter.unusedVariables false
set_option maxRecDepth 100000
namespace Go.Proofs.YtdendlkeiaccpaaGreat
open Go.Sx
def B39 (c:A3):Prop:=c.w≤7000∧c.ok
theorem Ol {c:A3}(h:Z4 c):c.ok:=by
 have hs:=Pi h;obtain ⟨g,ins,pk,m,⟨hgd,hgs⟩,hin,hpk,hm,rfl⟩:=h;have hN:=Vc hgs hin;have hw:=hs.w;exact C37 (B72 m (A9m (C11 (by rw [J3 hN])))) Ad
set_option maxHeartbeats 8000000 in
theorem B7n (d:Ey)(i h:Int)(hi:0≤i∧i≤d.n):E3 Tryz.prog HT 54 d.pins (d.cur i h) [] (fun r:Int×Int×A3=>(0≤r.1∧r.1≤d.n)∧B39 r.2.2) (fun r=>d.cur r.1 r.2.1) (fun r=>[.agg r.2.2.c]):=by
 refine Em A0 false Tryz.func54 rfl B5 fun B b hH hp=>?_;conv=>whnf
 refine Ay (A0d d i h hi) hH hp rfl B0 rfl rfl (fun r hr=>go A0 false ?_);conv=>whnf
 have hs:=Pi hr.2;have hcw:=hs.w;have hck:=hs.k;have hcl:=hs.l;have hct:=hs.t;have hcg:=hs.g;have ocl:r.2.2.ok:=Ol hr.2;have hwl:=A3.workers_le hcw;have hll:=A3.links_le hcw;have hnl:r.2.2.news.length≤r.2.2.w:=by unfold A3.w;omega
 refine Ay (Au d r.1 r.2.1 r.2.2.workers.length hr.1 Ad) hH hp rfl B0 rfl rfl (fun t ht=>go A0 false ?_);conv=>whnf
 have ht2:=ht.2.2.2 Ad;have ht3:=ht.2.1;have htk:t.2.2.toNat<r.2.2.workers.length:=by omega
 refine Ay (Au d t.1 t.2.1 20 ht.1 B5) hH hp rfl B0 rfl rfl (fun u hu=>go A0 false ?_);conv=>whnf
 refine ⟨fun c0=>?_,fun c0=>?_⟩<;>conv=>whnf
 ·refine Gs rfl ?_
  refine Bt A0 false 0 rfl rfl rfl A6 rfl (A4 Br) ?_;refine Bt A0 false 2 rfl rfl rfl A6 rfl (A4 Br) ?_;refine Bt A0 false 3 rfl rfl rfl A6 rfl (A4 Br) ?_;refine Bt A0 false 4 rfl rfl rfl A6 rfl (A4 Br) ?_;refine A5 [1,5] A6 ⟨?_,?_,trivial⟩
  focus
   refine A7 ?_;refine Ag (A5 [5] A6 ⟨A7 ?_,trivial⟩);refine Ag (A5 [6] A6 ⟨A7 ?_,trivial⟩);refine Ay (Pg d u.1 u.2.1 r.2.2.graph hu.1 Ad) hH hp rfl B0 rfl rfl (fun r9 hr9=>go A0 false ?_)
  rotate_left 1
  focus
   refine A7 ?_;refine Ag ?_;refine A5 [1,6] A6 ⟨?_,?_,trivial⟩
   focus
    refine A7 ?_;refine Ag (A5 [6] A6 ⟨A7 ?_,trivial⟩);refine Ay (Pg d u.1 u.2.1 r.2.2.graph hu.1 Ad) hH hp rfl B0 rfl rfl (fun r9 hr9=>go A0 false ?_)
   rotate_left 1
   focus
    refine A7 ?_;refine Ay (Pg d u.1 u.2.1 r.2.2.graph hu.1 Ad) hH hp rfl B0 rfl rfl (fun r9 hr9=>go A0 false ?_);conv=>whnf
    refine Ag ?_;refine A5 [1] A6 ⟨?_,trivial⟩;refine go A0 false ?_
  all_goals
   conv=>whnf
   refine Ag (A5 [7] A6 ⟨A7 ?_,trivial⟩);(repeat refine Ap ?_);refine Ag (A5 [8] A6 ⟨A7 ?_,trivial⟩);refine Bv (j:=t.2.2) A0 rfl rfl rfl rfl rfl rfl rfl rfl _ (Ck (j:=t.2.2.toNat) (xs:=r.2.2.workers) (e:=Ab.c) (x:=r9.2.2) htk rfl) (A7 ?_);refine Ag (Gr A6 (A7 ?_))
  all_goals
   have hsw:=Jh (c:=r.2.2) (j:=t.2.2) (w:=r9.2.2) ⟨by omega,by omega⟩;have h9:=hr9.2.1;exact C3 A0 (r9.1,r9.2.1,Av r.2.2 t.2.2 r9.2.2) ⟨hr9.1,by show (Av r.2.2 t.2.2 r9.2.2).w≤7000;omega,B5n ocl (C38 hr9.2.2 Ad)⟩ rfl rfl rfl rfl B0
 repeat refine B2 ?_
 refine ⟨fun c1=>?_,fun c1=>?_⟩<;>conv=>whnf
 ·refine Gs rfl ?_
  refine Bt A0 false 0 rfl rfl rfl A6 rfl (A4 Br) ?_;refine Bt A0 false 2 rfl rfl rfl A6 rfl (A4 Br) ?_;refine Bt A0 false 3 rfl rfl rfl A6 rfl (A4 Br) ?_;refine Bt A0 false 7 rfl rfl rfl A6 rfl (A4 Br) ?_;refine A5 [1,4] A6 ⟨?_,?_,trivial⟩
  focus
   refine A7 ?_;refine Ag (A5 [4] A6 ⟨A7 ?_,trivial⟩);refine Ag (A5 [5] A6 ⟨A7 ?_,trivial⟩);refine Ag (A5 [6] A6 ⟨A7 ?_,trivial⟩);refine Ay (Au d u.1 u.2.1 r.2.2.links.length hu.1 Ad) hH hp rfl B0 rfl rfl (fun r8 hr8=>go A0 false ?_);conv=>whnf
   have hk8:=hr8.2.2.2 Ad;have hk7:=hr8.2.1;refine Ag (A5 [8] A6 ⟨A7 ?_,trivial⟩);refine Ay (Mz d r8.1 r8.2.1 hr8.1) hH hp rfl B0 rfl rfl (fun r9 hr9=>go A0 false ?_)
  rotate_left 1
  focus
   refine A7 ?_;refine Ag ?_;refine A5 [1,5] A6 ⟨?_,?_,trivial⟩
   focus
    refine A7 ?_;refine Ag (A5 [5] A6 ⟨A7 ?_,trivial⟩);refine Ag (A5 [6] A6 ⟨A7 ?_,trivial⟩);refine Ay (Au d u.1 u.2.1 r.2.2.links.length hu.1 Ad) hH hp rfl B0 rfl rfl (fun r8 hr8=>go A0 false ?_);conv=>whnf
    have hk8:=hr8.2.2.2 Ad;have hk7:=hr8.2.1;refine Ag (A5 [8] A6 ⟨A7 ?_,trivial⟩);refine Ay (Mz d r8.1 r8.2.1 hr8.1) hH hp rfl B0 rfl rfl (fun r9 hr9=>go A0 false ?_)
   rotate_left 1
   focus
    refine A7 ?_;refine Ag ?_;refine A5 [1,6] A6 ⟨?_,?_,trivial⟩
    focus
     refine A7 ?_;refine Ag (A5 [6] A6 ⟨A7 ?_,trivial⟩);refine Ay (Au d u.1 u.2.1 r.2.2.links.length hu.1 Ad) hH hp rfl B0 rfl rfl (fun r8 hr8=>go A0 false ?_);conv=>whnf
     have hk8:=hr8.2.2.2 Ad;have hk7:=hr8.2.1;refine Ag (A5 [8] A6 ⟨A7 ?_,trivial⟩);refine Ay (Mz d r8.1 r8.2.1 hr8.1) hH hp rfl B0 rfl rfl (fun r9 hr9=>go A0 false ?_)
    rotate_left 1
    focus
     refine A7 ?_;refine Ay (Au d u.1 u.2.1 r.2.2.links.length hu.1 Ad) hH hp rfl B0 rfl rfl (fun r8 hr8=>go A0 false ?_);conv=>whnf
     have hk8:=hr8.2.2.2 Ad;have hk7:=hr8.2.1;refine Ag ?_;refine A5 [1,8] A6 ⟨?_,?_,trivial⟩
     focus
      refine A7 ?_;refine Ag (A5 [8] A6 ⟨A7 ?_,trivial⟩);refine Ay (Mz d r8.1 r8.2.1 hr8.1) hH hp rfl B0 rfl rfl (fun r9 hr9=>go A0 false ?_)
     rotate_left 1
     focus
      refine A7 ?_;refine Ay (Mz d r8.1 r8.2.1 hr8.1) hH hp rfl B0 rfl rfl (fun r9 hr9=>go A0 false ?_);conv=>whnf
      refine Ag ?_;refine A5 [1] A6 ⟨?_,trivial⟩;refine go A0 false ?_
  all_goals
   conv=>whnf
   refine Ag (A5 [9] A6 ⟨A7 ?_,trivial⟩);(repeat refine Ap ?_);refine Ag (A5 [10] A6 ⟨A7 ?_,trivial⟩);refine Bv (j:=r8.2.2) A0 rfl rfl rfl rfl rfl rfl rfl rfl _ (Ck (j:=r8.2.2.toNat) (xs:=r.2.2.links) (e:=Ca.c) (x:=r9.2.2) Ad rfl) (A7 ?_);refine Ag (Gr A6 (A7 ?_))
  all_goals
   have hsw:=Vu (c:=r.2.2) (k:=r8.2.2) (l:=r9.2.2) ⟨by omega,by omega⟩;have h9:r9.2.2.w≤10:=hr9.2.1;exact C3 A0 (r9.1,r9.2.1,Bi r.2.2 r8.2.2 r9.2.2) ⟨hr9.1,by show (Bi r.2.2 r8.2.2 r9.2.2).w≤7000;omega,B5m ocl (C36 hr9.2.2 (by have:=hr9.2.1;omega))⟩ rfl rfl rfl rfl B0
 repeat refine B2 ?_
 refine ⟨fun c2=>?_,fun c2=>?_⟩<;>conv=>whnf
 ·refine Gs rfl ?_
  refine Bt A0 false 0 rfl rfl rfl A6 rfl (A4 Br) ?_;refine Bt A0 false 2 rfl rfl rfl A6 rfl (A4 Br) ?_;refine Bt A0 false 4 rfl rfl rfl A6 rfl (A4 Br) ?_;refine A5 [1,3] A6 ⟨?_,?_,trivial⟩
  focus
   refine A7 ?_;refine Ag (A5 [3] A6 ⟨A7 ?_,trivial⟩);refine Ay (Au d u.1 u.2.1 4 hu.1 B5) hH hp rfl B0 rfl rfl (fun r8 hr8=>go A0 false ?_);conv=>whnf
   have hk8:=hr8.2.2.2 B5;have hk7:=hr8.2.1;refine Ag (A5 [5] A6 ⟨A7 ?_,trivial⟩);refine Ay (Au d r8.1 r8.2.1 6 hr8.1 B5) hH hp rfl B0 rfl rfl (fun r9 hr9=>go A0 false ?_);conv=>whnf
   refine Ag ?_;refine Bt A0 false 6 rfl rfl rfl A6 rfl (A4 Br) ?_
  rotate_left 1
  focus
   refine A7 ?_;refine Ay (Au d u.1 u.2.1 4 hu.1 B5) hH hp rfl B0 rfl rfl (fun r8 hr8=>go A0 false ?_);conv=>whnf
   have hk8:=hr8.2.2.2 B5;have hk7:=hr8.2.1;refine Ag ?_;refine A5 [1,5] A6 ⟨?_,?_,trivial⟩
   focus
    refine A7 ?_;refine Ag (A5 [5] A6 ⟨A7 ?_,trivial⟩);refine Ay (Au d r8.1 r8.2.1 6 hr8.1 B5) hH hp rfl B0 rfl rfl (fun r9 hr9=>go A0 false ?_);conv=>whnf
    refine Ag ?_;refine Bt A0 false 6 rfl rfl rfl A6 rfl (A4 Br) ?_
   rotate_left 1
   focus
    refine A7 ?_;refine Ay (Au d r8.1 r8.2.1 6 hr8.1 B5) hH hp rfl B0 rfl rfl (fun r9 hr9=>go A0 false ?_);conv=>whnf
    refine Ag ?_;refine Bt A0 false 6 rfl rfl rfl A6 rfl (A4 Br) ?_;refine A5 [1] A6 ⟨A7 ?_,trivial⟩;refine Ag ?_
  all_goals
   refine A5 [7] A6 ⟨A7 ?_,trivial⟩;(repeat refine Ap ?_);refine Ag ?_;refine Bt A0 false 8 rfl rfl rfl A6 rfl (A4 Br) ?_;refine A5 [9] A6 ⟨A7 ?_,trivial⟩;refine Bv (j:=r8.2.2) A0 rfl rfl rfl rfl rfl rfl rfl rfl _ (Ck (j:=r8.2.2.toNat) (xs:=r.2.2.tokens) (e:=Fs.c) (x:=⟨(r.2.2.tokens.getD r8.2.2.toNat default).going,r9.2.2-1,(r.2.2.tokens.getD r8.2.2.toNat default).sum,(r.2.2.tokens.getD r8.2.2.toNat default).black,(r.2.2.tokens.getD r8.2.2.toNat default).capped⟩) Ad rfl) (A7 ?_);refine Ag (Gr A6 (A7 ?_))
  all_goals
   have hsw:=P0 (c:=r.2.2) (e:=r8.2.2) (t:=⟨(r.2.2.tokens.getD r8.2.2.toNat default).going,r9.2.2-1,(r.2.2.tokens.getD r8.2.2.toNat default).sum,(r.2.2.tokens.getD r8.2.2.toNat default).black,(r.2.2.tokens.getD r8.2.2.toNat default).capped⟩);exact C3 A0 (r9.1,r9.2.1,De r.2.2 r8.2.2 ⟨(r.2.2.tokens.getD r8.2.2.toNat default).going,r9.2.2-1,(r.2.2.tokens.getD r8.2.2.toNat default).sum,(r.2.2.tokens.getD r8.2.2.toNat default).black,(r.2.2.tokens.getD r8.2.2.toNat default).capped⟩) ⟨hr9.1,by show (De r.2.2 r8.2.2 ⟨(r.2.2.tokens.getD r8.2.2.toNat default).going,r9.2.2-1,(r.2.2.tokens.getD r8.2.2.toNat default).sum,(r.2.2.tokens.getD r8.2.2.toNat default).black,(r.2.2.tokens.getD r8.2.2.toNat default).capped⟩).w≤7000;omega,A4c ocl ⟨Gu (by have:=hr9.2.1;show _≤r9.2.2-1;omega) (by have:=hr9.2.2.2 B5;show r9.2.2-1≤_;omega),(B0a ocl Ad).2⟩⟩ rfl rfl rfl rfl B0
 repeat refine B2 ?_
 refine ⟨fun c3=>?_,fun c3=>?_⟩<;>conv=>whnf
 ·refine Gs rfl ?_
  refine Bt A0 false 0 rfl rfl rfl A6 rfl (A4 Br) ?_;refine Bt A0 false 2 rfl rfl rfl A6 rfl (A4 Br) ?_;refine A5 [1,3] A6 ⟨?_,?_,trivial⟩
  focus
   refine A7 ?_;refine Ag (A5 [3] A6 ⟨A7 ?_,trivial⟩);refine Ag (A5 [4] A6 ⟨A7 ?_,trivial⟩);refine Fx 8 (Bh [1000000,1000001,-1000001,3]) rfl (Bu rfl (by repeat' (first|exact trivial|exact rfl|refine ⟨?_,?_⟩))) ?_;refine Ay (Dt d u.1 u.2.1 [1000000,1000001,-1000001,3] hu.1 B5) hH hp rfl B0 rfl rfl (fun r9 hr9=>go A0 false ?_)
  rotate_left 1
  focus
   refine A7 ?_;refine Ag ?_;refine A5 [1,4] A6 ⟨?_,?_,trivial⟩
   focus
    refine A7 ?_;refine Ag (A5 [4] A6 ⟨A7 ?_,trivial⟩);refine Fx 8 (Bh [1000000,1000001,-1000001,3]) rfl (Bu rfl (by repeat' (first|exact trivial|exact rfl|refine ⟨?_,?_⟩))) ?_;refine Ay (Dt d u.1 u.2.1 [1000000,1000001,-1000001,3] hu.1 B5) hH hp rfl B0 rfl rfl (fun r9 hr9=>go A0 false ?_)
   rotate_left 1
   focus
    refine A7 ?_;refine Fx 8 (Bh [1000000,1000001,-1000001,3]) rfl (Bu rfl (by repeat' (first|exact trivial|exact rfl|refine ⟨?_,?_⟩))) ?_;refine Ay (Dt d u.1 u.2.1 [1000000,1000001,-1000001,3] hu.1 B5) hH hp rfl B0 rfl rfl (fun r9 hr9=>go A0 false ?_);conv=>whnf
    refine Ag ?_;refine A5 [1] A6 ⟨?_,trivial⟩;refine go A0 false ?_
  all_goals
   conv=>whnf
   refine Ag (A5 [5] A6 ⟨A7 ?_,trivial⟩);(repeat refine Ap ?_);refine Ag ?_;refine Bt A0 false 6 rfl rfl rfl A6 rfl (A4 Br) ?_;refine A5 [7] A6 ⟨A7 ?_,trivial⟩;refine Bv (j:=0) A0 rfl rfl rfl rfl rfl rfl rfl rfl _ (Ck (j:=0) (xs:=r.2.2.tokens) (e:=Fs.c) (x:=⟨(r.2.2.tokens.getD 0 default).going,(r.2.2.tokens.getD 0 default).at_,[1000000,1000001,-1000001,3].getD r9.2.2 0,(r.2.2.tokens.getD 0 default).black,(r.2.2.tokens.getD 0 default).capped⟩) Ad rfl) (A7 ?_);refine Ag (Gr A6 (A7 ?_))
  all_goals
   have hsw:=P0 (c:=r.2.2) (e:=0) (t:=⟨(r.2.2.tokens.getD 0 default).going,(r.2.2.tokens.getD 0 default).at_,[1000000,1000001,-1000001,3].getD r9.2.2 0,(r.2.2.tokens.getD 0 default).black,(r.2.2.tokens.getD 0 default).capped⟩);exact C3 A0 (r9.1,r9.2.1,De r.2.2 0 ⟨(r.2.2.tokens.getD 0 default).going,(r.2.2.tokens.getD 0 default).at_,[1000000,1000001,-1000001,3].getD r9.2.2 0,(r.2.2.tokens.getD 0 default).black,(r.2.2.tokens.getD 0 default).capped⟩) ⟨hr9.1,by show (De r.2.2 0 ⟨(r.2.2.tokens.getD 0 default).going,(r.2.2.tokens.getD 0 default).at_,[1000000,1000001,-1000001,3].getD r9.2.2 0,(r.2.2.tokens.getD 0 default).black,(r.2.2.tokens.getD 0 default).capped⟩).w≤7000;omega,A4c ocl ⟨(B0a ocl Ad).1,Ha _ _ (by intro x hx;simp only [List.mem_cons,List.not_mem_nil,or_false] at hx;show _∧_;omega)⟩⟩ rfl rfl rfl rfl B0
 repeat refine B2 ?_
 refine ⟨fun c4=>?_,fun c4=>?_⟩<;>conv=>whnf
 ·refine Gs rfl ?_
  refine Bt A0 false 0 rfl rfl rfl A6 rfl (A4 Br) ?_;refine Bt A0 false 2 rfl rfl rfl A6 rfl (A4 Br) ?_;refine Bt A0 false 5 rfl rfl rfl A6 rfl (A4 Br) ?_;refine A5 [1,3] A6 ⟨?_,?_,trivial⟩
  focus
   refine A7 ?_;refine Ag (A5 [3] A6 ⟨A7 ?_,trivial⟩);refine Ay (Au d u.1 u.2.1 6 hu.1 B5) hH hp rfl B0 rfl rfl (fun r8 hr8=>go A0 false ?_);conv=>whnf
   refine Ag ?_;refine Bt A0 false 4 rfl rfl rfl A6 rfl (A4 Br) ?_;refine A5 [6] A6 ⟨A7 ?_,trivial⟩;refine Ay (Au d r8.1 r8.2.1 6 hr8.1 B5) hH hp rfl B0 rfl rfl (fun r9 hr9=>go A0 false ?_);conv=>whnf
   refine Ag ?_;refine Bt A0 false 7 rfl rfl rfl A6 rfl (A4 Br) ?_;refine A5 [8] A6 ⟨A7 ?_,trivial⟩;refine Ag ?_;refine A5 [9] A6 ⟨?_,trivial⟩
  rotate_left 1
  focus
   refine A7 ?_;refine Ay (Au d u.1 u.2.1 6 hu.1 B5) hH hp rfl B0 rfl rfl (fun r8 hr8=>go A0 false ?_);conv=>whnf
   refine Ag ?_;refine Bt A0 false 4 rfl rfl rfl A6 rfl (A4 Br) ?_;refine A5 [1,6] A6 ⟨?_,?_,trivial⟩
   focus
    refine A7 ?_;refine Ag (A5 [6] A6 ⟨A7 ?_,trivial⟩);refine Ay (Au d r8.1 r8.2.1 6 hr8.1 B5) hH hp rfl B0 rfl rfl (fun r9 hr9=>go A0 false ?_);conv=>whnf
    refine Ag ?_;refine Bt A0 false 7 rfl rfl rfl A6 rfl (A4 Br) ?_;refine A5 [8] A6 ⟨A7 ?_,trivial⟩;refine Ag ?_;refine A5 [9] A6 ⟨?_,trivial⟩
   rotate_left 1
   focus
    refine A7 ?_;refine Ay (Au d r8.1 r8.2.1 6 hr8.1 B5) hH hp rfl B0 rfl rfl (fun r9 hr9=>go A0 false ?_);conv=>whnf
    refine Ag ?_;refine Bt A0 false 7 rfl rfl rfl A6 rfl (A4 Br) ?_;refine A5 [1,8] A6 ⟨?_,?_,trivial⟩
    focus
     refine A7 ?_;refine Ag (A5 [8] A6 ⟨A7 ?_,trivial⟩);refine Ag ?_;refine A5 [9] A6 ⟨?_,trivial⟩
    rotate_left 1
    focus
     refine A7 ?_;refine Ag ?_;refine A5 [1,9] A6 ⟨?_,?_,trivial⟩
     focus
      refine A7 ?_;refine Ag ?_;refine A5 [9] A6 ⟨?_,trivial⟩
     rotate_left 1
     focus
      refine A7 ?_;refine Ag ?_;refine A5 [1] A6 ⟨?_,trivial⟩
  all_goals
   refine A7 ?_;refine Ag (A5 [10] A6 ⟨A7 ?_,trivial⟩);refine Bj A0 rfl rfl rfl rfl rfl rfl rfl rfl rfl rfl rfl (Cc (r.2.2.news++[⟨r8.2.2-1,r9.2.2-1,false⟩])) (An rfl) C6 Ad (A7 ?_);refine Ag ?_;refine Bt A0 false 11 rfl rfl rfl A6 rfl (A4 Br) ?_;refine A5 [12] A6 ⟨A7 ?_,trivial⟩;refine Ag (Gr A6 (A7 ?_))
  all_goals
   exact C3 A0 (r9.1,r9.2.1,⟨r.2.2.graph,r.2.2.workers,r.2.2.links,r.2.2.tokens,r.2.2.news++[⟨r8.2.2-1,r9.2.2-1,false⟩]⟩) ⟨hr9.1,by have:=hcw;simp only [A3.w,List.length_append,List.length_cons,List.length_nil] at this ⊢;omega,ocl.1,ocl.2.1,ocl.2.2.1,ocl.2.2.2.1,⟨by rw [List.length_append];show _+1≤maxLen;simp only [maxLen];omega,Ke ocl.2.2.2.2.2 ⟨Gu (by have:=hr8.2.1;show _≤r8.2.2-1;omega) (by have:=hr8.2.2.2 B5;show r8.2.2-1≤_;omega),Gu (by have:=hr9.2.1;show _≤r9.2.2-1;omega) (by have:=hr9.2.2.2 B5;show r9.2.2-1≤_;omega)⟩⟩⟩ rfl rfl rfl rfl B0
 repeat refine B2 ?_
 refine ⟨fun c5=>?_,fun c5=>?_⟩<;>conv=>whnf
 ·refine Ay (Xo d u.1 u.2.1 hu.1) hH hp rfl B0 rfl rfl (fun r9 hr9=>go A0 false ?_)
  conv=>whnf
  have h9:=hr9.2.2;exact C3 A0 (r9.1,r9.2.1,⟨r9.2.2,r.2.2.workers,r.2.2.links,r.2.2.tokens,r.2.2.news⟩) ⟨hr9.1,by have:=hcw;simp only [A3.w] at this ⊢;omega,hr9.2.1,ocl.2⟩ rfl rfl rfl rfl B0
 repeat refine B2 ?_
 refine ⟨fun c6=>?_,fun c6=>?_⟩<;>conv=>whnf
 ·refine B9q A0 rfl rfl rfl rfl rfl rfl rfl rfl rfl ⟨by decide,by omega⟩ Ad _ rfl (A7 ?_)
  refine Jc 8 (Bm (r.2.2.tokens.take 3)) rfl (Zs (es:=5) (e:=Fs.c) (xs:=r.2.2.tokens) (m:=3) Ad) ?_;exact C3 A0 (u.1,u.2.1,⟨r.2.2.graph,r.2.2.workers,r.2.2.links,r.2.2.tokens.take 3,r.2.2.news⟩) ⟨hu.1,by have:=hcw;simp only [A3.w,List.length_take] at this ⊢;omega,ocl.1,ocl.2.1,ocl.2.2.1,⟨by rw [List.length_take];simp only [maxLen];omega,B2s ocl.2.2.2.1.2⟩,ocl.2.2.2.2⟩ rfl rfl rfl rfl B0
 repeat refine B2 ?_
 exact C3 A0 (u.1,u.2.1,r.2.2) ⟨hu.1,by show r.2.2.w≤7000;omega,ocl⟩ rfl rfl rfl rfl B0
theorem C3j (d:Ey):J6 Tryz.prog HT 53 d.pins [] [.one (.val d.v)] (fun r:A3×Int=>B39 r.1) (fun r=>[.agg r.1.c,.one (vi r.2)]):=by
 refine O6 A0 false Tryz.func53 rfl B5 fun B hH hp=>?_;conv=>whnf
 refine Xn (Wq d) hp rfl (fun h0 _=>go A0 false ?_);conv=>whnf
 refine Ay (B7n d 0 h0 ⟨Int.le_refl _,Int.natCast_nonneg _⟩) hH hp rfl B0 rfl rfl (fun r hr=>go A0 false ?_);conv=>whnf
 refine Fx 7 (Bh [0,0,1,1,2,3,-1,9223372036854775807]) rfl (Bu rfl C2) ?_;refine Ay (Dt d r.1 r.2.1 [0,0,1,1,2,3,-1,9223372036854775807] hr.1 B5) hH hp rfl B0 rfl rfl (fun r2 hr2=>go A0 false ?_);conv=>whnf
 exact Vq A0 (r.2.2,[0,0,1,1,2,3,-1,9223372036854775807].getD r2.2.2 0) hr.2 rfl rfl B0
structure JLs where
 k:Nat
 i:Int
 h:Int
 xs:List Aa
set_option maxHeartbeats 1000000 in
theorem C03 (d:Ey)(i h:Int)(hi:0≤i∧i≤d.n):E3 Tryz.prog HT 56 d.pins (d.cur i h) [] (fun r:Int×Int×List Aa=>(0≤r.1∧r.1≤d.n)∧r.2.2.length≤7) (fun r=>d.cur r.1 r.2.1) (fun r=>[.one (Af r.2.2)]):=by
 refine Em A0 false Tryz.func56 rfl B5 fun B b hH hp=>?_;conv=>whnf
 refine Es 1 (Af []) rfl (Bu rfl C2) ?_;refine Bk A0 false [5] (fun j:JLs=>[(4,.c (vi j.k))]) (fun j=>[⟨0,[.c (.val d.v),.c (vi j.i),.c (vi j.h)]⟩]) (fun j=>[⟨1,Af j.xs⟩]) (fun j=>(0≤j.i∧j.i≤d.n)∧j.k≤6∧j.xs.length=j.k) (fun j=>7-j.k) (⟨0,i,h,[]⟩) (⟨hi,Nat.zero_le _,rfl⟩) ⟨F0,trivial⟩ C2 ⟨Dm,trivial⟩ C1 A6 (fun j hj=>?_);conv=>whnf
 obtain ⟨hi2,hk2,hx2⟩:=hj;refine Ay (Au d j.i j.h 7 hi2 B5) hH hp rfl B0 rfl rfl (fun r hr=>go A0 false ?_);conv=>whnf
 refine Eo (fun hlt=>?_) fun hlt=>?_<;>conv=>whnf
 ·have hlt2:r.2.2<7:=hr.2.2.2 B5
  have hk3:j.k≤5:=by omega
  refine ⟨fun hg=>?_,fun hg=>?_⟩<;>conv=>whnf
  ·have hg:0<j.xs.length:=by have:=of_decide_eq_true hg;omega
   repeat refine B2 ?_
   refine Ay (Up d r.1 r.2.1 5 hr.1 B5) hH hp rfl B0 rfl rfl (fun s hs=>go A0 false ?_);conv=>whnf
   repeat refine B2 ?_
   refine ⟨fun hc=>?_,fun hc=>?_⟩<;>conv=>whnf
   ·refine Ay (Au d s.1 s.2.1 j.xs.length hs Ad) hH hp rfl B0 rfl rfl (fun t ht=>go A0 false ?_)
    conv=>whnf
    have ht2:=ht.2.2.2 Ad;have ht3:=ht.2.1;(repeat refine Ap ?_);refine Bj A0 rfl rfl rfl rfl rfl rfl rfl rfl rfl rfl rfl (Af (j.xs++[j.xs.getD t.2.2.toNat default])) (An rfl) C6 Ad (A7 ?_);(repeat refine Ap ?_);refine Az [(1,3)] (⟨j.k+1,t.1,t.2.1,j.xs++[j.xs.getD t.2.2.toNat default]⟩) (⟨ht.1,by show j.k+1≤6;omega,by simp [hx2]⟩) (by show 7-(j.k+1)<_;omega) ⟨rfl,trivial⟩ ⟨rfl,trivial⟩ C2 A6 C1 A6
   refine Ay (Mj d s.1 s.2.1 hs) hH hp rfl B0 rfl rfl (fun t ht=>go A0 false ?_);conv=>whnf
   refine Bj A0 rfl rfl rfl rfl rfl rfl rfl rfl rfl rfl rfl (Af (j.xs++[t.2.2])) (An rfl) C6 Ad (A7 ?_);(repeat refine Ap ?_);refine Az [(1,3)] (⟨j.k+1,t.1,t.2.1,j.xs++[t.2.2]⟩) (⟨ht.1,by show j.k+1≤6;omega,by simp [hx2]⟩) (by show 7-(j.k+1)<_;omega) ⟨rfl,trivial⟩ ⟨rfl,trivial⟩ C2 A6 C1 A6
  repeat refine B2 ?_
  refine Ay (Mj d r.1 r.2.1 hr.1) hH hp rfl B0 rfl rfl (fun t ht=>go A0 false ?_);conv=>whnf
  refine Bj A0 rfl rfl rfl rfl rfl rfl rfl rfl rfl rfl rfl (Af (j.xs++[t.2.2])) (An rfl) C6 Ad (A7 ?_);(repeat refine Ap ?_);refine Az [(1,3)] (⟨j.k+1,t.1,t.2.1,j.xs++[t.2.2]⟩) (⟨ht.1,by show j.k+1≤6;omega,by simp [hx2]⟩) (by show 7-(j.k+1)<_;omega) ⟨rfl,trivial⟩ ⟨rfl,trivial⟩ C2 A6 C1 A6
 exact C3 A0 (r.1,r.2.1,j.xs) ⟨hr.1,by show j.xs.length≤7;omega⟩ rfl rfl rfl rfl B0
theorem C3m (d:Ey):J6 Tryz.prog HT 6 d.pins [] [.one (.val d.v)] (fun r:Ah×List Aa×Int×Int×Int=>(Z5 r.1∧Wc r.1)∧Ui r.2.1∧(0≤r.2.2.1∧r.2.2.1≤3)) (fun r=>[.agg r.1.c,.one (Af r.2.1),.one (vi r.2.2.1),.one (vi r.2.2.2.1),.one (vi r.2.2.2.2)]):=by
 refine O6 A0 false Tryz.func6 rfl B5 fun B hH hp=>?_;conv=>whnf
 refine Xn (Wq d) hp rfl (fun h0 _=>go A0 false ?_);conv=>whnf
 first|
 refine Ay (Wo d 0 h0 ⟨Int.le_refl _,Int.natCast_nonneg _⟩) hH hp rfl B0 rfl rfl (fun r hr=>go A0 false ?_);conv=>whnf
 refine Ay (Wp d r.1 r.2.1 hr.1) hH hp rfl B0 rfl rfl (fun r2 hr2=>go A0 false ?_);conv=>whnf
 refine Ay (Au d r2.1 r2.2.1 4 hr2.1 B5) hH hp rfl B0 rfl rfl (fun r3 hr3=>go A0 false ?_);conv=>whnf
 refine Fx 4 (Bh [1,2,3,4,0]) rfl (Bu rfl C2) ?_;refine Ay (Dt d r3.1 r3.2.1 [1,2,3,4,0] hr3.1 B5) hH hp rfl B0 rfl rfl (fun r4 hr4=>go A0 false ?_);conv=>whnf
 refine Ay (Au d r4.1 r4.2.1 4 hr4.1 B5) hH hp rfl B0 rfl rfl (fun r5 hr5=>go A0 false ?_);conv=>whnf
 have hk9:=hr5.2.2.2 B5;have hk8:=hr5.2.1;have he9:=hr3.2.2.2 B5;(repeat refine Ap ?_);exact Vq A0 (r.2.2,r2.2.2,r3.2.2,[1,2,3,4,0].getD r4.2.2 0,1+r5.2.2) ⟨hr.2,hr2.2,hr3.2.1,by show r3.2.2≤3;omega⟩ rfl rfl B0
theorem C3n (d:Ey):J6 Tryz.prog HT 12 d.pins [] [.one (.val d.v)] (fun r:Ah×Int=>A41 r.1) (fun r=>[.agg r.1.c,.one (vi r.2)]):=by
 refine O6 A0 false Tryz.func12 rfl B5 fun B hH hp=>?_;conv=>whnf
 refine Xn (Wq d) hp rfl (fun h0 _=>go A0 false ?_);conv=>whnf
 refine Ay (Xo d 0 h0 ⟨Int.le_refl _,Int.natCast_nonneg _⟩) hH hp rfl B0 rfl rfl (fun r hr=>go A0 false ?_);conv=>whnf
 refine Ay (Au d r.1 r.2.1 7 hr.1 B5) hH hp rfl B0 rfl rfl (fun r2 hr2=>go A0 false ?_);conv=>whnf
 have hk9:=hr2.2.2.2 B5;have hk8:=hr2.2.1;(repeat refine Ap ?_);exact Vq A0 (r.2.2,r2.2.2-1) hr.2 rfl rfl B0
theorem C3l (d:Ey):J6 Tryz.prog HT 13 d.pins [] [.one (.val d.v)] (fun r:List Aa×Int=>r.1.length≤7) (fun r=>[.one (Af r.1),.one (vi r.2)]):=by
 refine O6 A0 false Tryz.func13 rfl B5 fun B hH hp=>?_;conv=>whnf
 refine Xn (Wq d) hp rfl (fun h0 _=>go A0 false ?_);conv=>whnf
 refine Ay (C03 d 0 h0 ⟨Int.le_refl _,Int.natCast_nonneg _⟩) hH hp rfl B0 rfl rfl (fun r hr=>go A0 false ?_);conv=>whnf
 refine Ay (Au d r.1 r.2.1 7 hr.1 B5) hH hp rfl B0 rfl rfl (fun r2 hr2=>go A0 false ?_);conv=>whnf
 have hk9:=hr2.2.2.2 B5;have hk8:=hr2.2.1;(repeat refine Ap ?_);exact Vq A0 (r.2.2,r2.2.2-1) hr.2 rfl rfl B0
theorem C3k (d:Ey):J6 Tryz.prog HT 10 d.pins [] [.one (.val d.v)] (fun r:A3×Int=>B39 r.1) (fun r=>[.agg r.1.c,.one (vi r.2)]):=by
 refine O6 A0 false Tryz.func10 rfl B5 fun B hH hp=>?_;conv=>whnf
 refine Tm (C3j d) hH hp rfl (fun r hr=>go A0 false ?_);conv=>whnf
 exact Vq A0 r hr rfl rfl B0
theorem C3i (d:Ey):J6 Tryz.prog HT 11 d.pins [] [.one (.val d.v)] (fun r:A3=>B39 r) (fun r=>[.agg r.c]):=by
 refine O6 A0 false Tryz.func11 rfl B5 fun B hH hp=>?_;conv=>whnf
 refine Xn (Wq d) hp rfl (fun h0 _=>go A0 false ?_);conv=>whnf
 refine Ay (B7n d 0 h0 ⟨Int.le_refl _,Int.natCast_nonneg _⟩) hH hp rfl B0 rfl rfl (fun r hr=>go A0 false ?_);conv=>whnf
 exact Vq A0 r.2.2 hr.2 rfl rfl B0
theorem A7z (d:Ey):J6 Tryz.prog HT 26 d.pins [] [.one (.val d.v)] (fun r:A3=>Z4 r) (fun r=>[.agg r.c]):=by
 refine O6 A0 false Tryz.func26 rfl B5 fun B hH hp=>?_;conv=>whnf
 refine Xn (Wq d) hp rfl (fun h0 _=>go A0 false ?_);conv=>whnf
 refine Ay (A0d d 0 h0 ⟨Int.le_refl _,Int.natCast_nonneg _⟩) hH hp rfl B0 rfl rfl (fun r hr=>go A0 false ?_);conv=>whnf
 exact Vq A0 r.2.2 hr.2 rfl rfl B0
theorem B91 (a b:List Int)(ha:a.length≤16777216)(hb:b.length≤16777216):B3 Tryz.prog 126 [.one (Bh a),.one (Bh b)] [.one (vb (decide (a=b)))]:=by
 refine Aw A0 false Tryz.func126 rfl B5 fun W=>?_;conv=>whnf
 refine ⟨fun hn=>have hn:=bne_iff_ne.1 hn;?_,fun hn=>have hn:=bne_eq_false_iff_eq.1 hn;?_⟩<;>conv=>whnf
 ·exact Am A0 rfl rfl ⟨congrArg vb (decide_eq_false fun e=>hn (by rw [e])),trivial⟩
 refine Bk A0 false [] (fun k:Nat=>[(5,.c (vi k))]) (fun k=>[]) (fun k=>[])
  (fun k=>k≤a.length∧a.take k=b.take k) (fun k=>a.length-k) 0 ⟨Nat.zero_le _,by first|rfl|assumption|simp⟩ ⟨F0,trivial⟩ trivial trivial C1 A6 (fun k hk=>?_)
 obtain ⟨hk,he⟩:=hk;conv=>whnf
 refine Eo (fun h=>?_) fun h=>?_<;>conv=>whnf
 ·have h:k<a.length:=by omega
  have hs:=Qf a b k he h Ad;(repeat refine Ap ?_)
  first|(refine Ax 6 rfl [0,1,2,3,4,5,6,7,8] A6 (A7 ?_))
  (repeat refine Ap ?_);refine ⟨fun hc=>?_,fun hc=>?_⟩<;>conv=>whnf
  ·have hc:(!decide (a.getD k default=b.getD k default))=true:=by rw [←B29];exact hc
   exact Am A0 rfl rfl ⟨congrArg vb (decide_eq_false fun e=>by subst e;simp at hc),trivial⟩
  have hc:(!decide (a.getD k default=b.getD k default))=false:=by rw [←B29];exact hc
  (repeat refine Ap ?_);refine Az [] (k+1) ⟨by omega,hs.2 (by simpa using hc)⟩ Ad ⟨rfl,trivial⟩ trivial trivial A6 C1 A6
 exact Am A0 rfl rfl ⟨congrArg vb (decide_eq_true (by rw [←Da a k Ad,he,Da b k Ad])),trivial⟩
theorem B92 (a b:Bw)(ha:a.outs.length≤16777216)(hb:b.outs.length≤16777216):B3 Tryz.prog 92 [.agg a.c,.agg b.c] [.one (vb (decide (a=b)))]:=by
 obtain ⟨k,x,y,l⟩:=a;obtain ⟨k2,x2,y2,l2⟩:=b;refine Aw A0 false Tryz.func92 rfl B5 fun W=>?_;conv=>whnf
 repeat' (first|(refine L4 ?_;conv=>whnf)|(refine L5 ?_;conv=>whnf)|(refine ⟨fun h=>?_,fun h=>?_⟩<;>conv=>whnf)|(refine As (B91 l l2 ha hb) rfl (A7 ?_))|(refine Ft ?_;conv=>whnf)|fail)
 all_goals (refine Am A0 rfl rfl ⟨congrArg vb ?_,trivial⟩;simp_all [Bw.mk.injEq])
theorem B1x (l:List Bw)(hl:l.length≤16777216)(ho:∀x∈l,x.outs.length≤16777216):B3 Tryz.prog 63 [.one (Bg l),.one (Bg l)] [.one (vb true)]:=by
 refine Aw A0 false Tryz.func63 rfl B5 fun W=>?_;conv=>whnf
 refine ⟨fun hn=>have hn:=bne_iff_ne.1 hn;?_,fun hn=>have hn:=bne_eq_false_iff_eq.1 hn;?_⟩<;>conv=>whnf
 ·omega
 refine Bk A0 false [] (fun k:Nat=>[(5,.c (vi k))]) (fun k=>[]) (fun k=>[])
  (fun k=>k≤l.length) (fun k=>l.length-k) 0 (Nat.zero_le _) ⟨F0,trivial⟩ trivial trivial C1 A6 (fun k hk=>?_)
 conv=>whnf
 refine Eo (fun h=>?_) fun h=>?_<;>conv=>whnf
 ·have h:k<l.length:=by omega
  have hk:=ho _ (At (d:=default) h)
  first|(refine Ax 6 rfl [0,1,2,3,4,5,6,7,8,9] A6 (A7 ?_))
  (repeat refine Ap ?_);refine As (B92 (l.getD k default) (l.getD k default) hk hk) rfl (A7 ?_)
  repeat refine B2 ?_
  refine Az [] (k+1) Ad Ad ⟨rfl,trivial⟩ trivial trivial A6 C1 A6
 refine Am A0 rfl rfl ?_;exact B0
theorem A18 (x:Ah)(h:x.w≤16777216):B3 Tryz.prog 20 [.agg x.c,.agg x.c] [.one (vb true)]:=by
 have hl:=Ah.nodes_le h
 have ho:∀n∈x.nodes,n.outs.length≤16777216:=fun n hn=>by
  obtain ⟨k,hk,rfl⟩:=List.getElem_of_mem hn;have h1:=Ah.node_le h hk;rw [show x.nodes.getD k default=x.nodes[k] by simp [List.getD,hk]] at h1
  exact Nat.le_trans (by simp only [Bw.w];omega) h1
 refine Aw A0 false Tryz.func20 rfl B5 fun W=>?_;conv=>whnf
 first|
 refine As (B1x x.nodes Ad ho) rfl (A7 ?_)
 repeat refine B2 ?_
 exact Am A0 rfl rfl ⟨congrArg vb C8,trivial⟩
theorem Zu (x:Ab):x.cells.length≤x.w:=by simp only [Ab.w];omega
theorem Vz (x:A3)(w:Int)(hx:x.w≤16777216)(ox:x.ok):B3 Tryz.prog 17 [.agg x.c,.one (vi w)] [.one (Ak (G0 x w))]:=by
 have hl:=A3.workers_le hx;have hg:x.graph.workers≤9223372036854775807:=ox.1.2.1.2;refine Aw A0 false Tryz.func17 rfl B5 fun W=>?_;conv=>whnf
 (repeat refine Ap ?_);refine As (G9 w 0 (x.workers.length-1)) rfl (A7 ?_)
 by_cases h1:E6 w 0 (x.workers.length-1)=true
 ·have h2:=Go.Sx.Al.1 h1
  have hw:=A3.worker_le hx (show w.toNat<x.workers.length by omega)
  have hq:(x.workers.getD w.toNat default).cells.length≤16777216:=Nat.le_trans (Zu _) Ad;have ho:G0 x w=(x.workers.getD w.toNat default).cells.filter fun y=>Bn y.key x.graph.workers==w:=by rw [G0,if_pos h1]
  refine ⟨fun h=>?_,fun h=>?_⟩<;>conv=>whnf
  ·rw [h1] at h;cases h
  (repeat refine Ap ?_);refine Es 1 (Ak []) rfl Cq ?_;rw [ho]
  refine Bk A0 false [7] (fun k:Nat=>[(6,.c (vi k))]) (fun k=>[⟨0,[.c (Bg x.graph.nodes),.c (vi x.graph.workers),.c (vi x.graph.cap),.c (Ar x.workers),.c (C4 x.links),.c (Bm x.tokens),.c (Cc x.news)]⟩]) (fun k=>[⟨1,Ak (((x.workers.getD w.toNat default).cells.take k).filter fun y=>Bn y.key x.graph.workers==w)⟩])
   (fun k=>k≤(x.workers.getD w.toNat default).cells.length) (fun k=>(x.workers.getD w.toNat default).cells.length-k) 0 (Nat.zero_le _) ⟨F0,trivial⟩ C2 ⟨Dm,trivial⟩ C1 A6 (fun k hk=>?_)
  conv=>whnf
  (repeat refine Ap ?_);refine Eo (fun h=>?_) fun h=>?_<;>conv=>whnf
  ·have h:k<(x.workers.getD w.toNat default).cells.length:=by omega
   have hs:=E4 (fun y=>Bn y.key x.graph.workers==w) (x.workers.getD w.toNat default).cells k h;have hb:=Dd (fun y=>Bn y.key x.graph.workers==w) (x.workers.getD w.toNat default).cells k
   first|(refine Ax 7 rfl [0,1,2,3,4,5,6,7,8,9,10,11,12,14,13,15] A6 (A7 ?_))
   (repeat refine Ap ?_);refine As (O2 ((x.workers.getD w.toNat default).cells.getD k default).key x.graph.workers hg) rfl (A7 ?_);refine ⟨fun hc=>?_,fun hc=>?_⟩<;>conv=>whnf
   ·(repeat refine Ap ?_)
    refine Bj A0 rfl rfl rfl rfl rfl rfl rfl rfl rfl rfl rfl (Ak (((x.workers.getD w.toNat default).cells.take k).filter (fun y=>Bn y.key x.graph.workers==w)++[(x.workers.getD w.toNat default).cells.getD k default])) (An rfl) C6 Ad (A7 ?_);(repeat refine Ap ?_);refine Az [(1,3)] (k+1) Ad Ad ⟨rfl,trivial⟩ ⟨congrArg Ak (by rw [hs,if_pos hc]),trivial⟩ C2 A6 C1 A6
   (repeat refine Ap ?_);refine Az [] (k+1) Ad Ad ⟨rfl,trivial⟩ ⟨congrArg Ak (by rw [hs,if_neg (by rw [hc];decide),List.append_nil]),trivial⟩ C2 A6 C1 A6
  (repeat refine Ap ?_);refine Am A0 rfl rfl ⟨?_,trivial⟩;exact congrArg (fun l=>Ak (List.filter _ l)) (Da _ k Ad)
 refine ⟨fun h=>?_,fun h=>?_⟩<;>conv=>whnf
 ·refine Jc 1 (Ak []) rfl Cq ?_
  exact Am A0 rfl rfl ⟨by (conv=>whnf);exact congrArg Ak (by rw [G0,if_neg h1]),trivial⟩
 rw [Bool.not_eq_true] at h1;rw [h1] at h;cases h
theorem V1 (x:A3)(w:Int)(hx:x.w≤16777216)(ox:x.ok):B3 Tryz.prog 16 [.agg x.c,.one (vi w)] [.one (Ak (G0 x w))]:=by
 have hl:=A3.workers_le hx;have hg:x.graph.workers≤9223372036854775807:=ox.1.2.1.2;refine Aw A0 false Tryz.func16 rfl B5 fun W=>?_;conv=>whnf
 (repeat refine Ap ?_);refine As (Ik w 0 (x.workers.length-1)) rfl (A7 ?_)
 by_cases h1:E6 w 0 (x.workers.length-1)=true
 ·have h2:=Go.Sx.Al.1 h1
  have hw:=A3.worker_le hx (show w.toNat<x.workers.length by omega)
  have hq:(x.workers.getD w.toNat default).cells.length≤16777216:=Nat.le_trans (Zu _) Ad;have ho:G0 x w=(x.workers.getD w.toNat default).cells.filter fun y=>Bn y.key x.graph.workers==w:=by rw [G0,if_pos h1]
  refine ⟨fun h=>?_,fun h=>?_⟩<;>conv=>whnf
  ·rw [h1] at h;cases h
  (repeat refine Ap ?_);refine Yl 5 4 (fun i=>Ae.c (([]:List Ae).getD i default)) rfl ?_;rw [ho]
  refine Bk A0 false [] (fun k:Nat=>[(22,.c (vi k))]) (fun k=>[⟨0,[.c (Bg x.graph.nodes),.c (vi x.graph.workers),.c (vi x.graph.cap),.c (Ar x.workers),.c (C4 x.links),.c (Bm x.tokens),.c (Cc x.news)]⟩]) (fun k=>[⟨1,Ak (((x.workers.getD w.toNat default).cells.take k).filter fun y=>Bn y.key x.graph.workers==w)⟩])
   (fun k=>k≤(x.workers.getD w.toNat default).cells.length) (fun k=>(x.workers.getD w.toNat default).cells.length-k) 0 (Nat.zero_le _) ⟨F0,trivial⟩ C2 ⟨Dm,trivial⟩ C1 A6 (fun k hk=>?_)
  conv=>whnf
  conv=>whnf
  refine Eo (fun h=>?_) fun h=>?_<;>conv=>whnf
  ·have h:k<(x.workers.getD w.toNat default).cells.length:=by omega
   have hs:=E4 (fun y=>Bn y.key x.graph.workers==w) (x.workers.getD w.toNat default).cells k h;have hb:=Dd (fun y=>Bn y.key x.graph.workers==w) (x.workers.getD w.toNat default).cells k
   first|
   (repeat refine Ap ?_);refine As (Nx ((x.workers.getD w.toNat default).cells.getD k default).key x.graph.workers hg) rfl (A7 ?_);refine ⟨fun hc=>?_,fun hc=>?_⟩<;>conv=>whnf
   ·(repeat refine Ap ?_)
    refine Bj A0 rfl rfl rfl rfl rfl rfl rfl rfl rfl rfl rfl (Ak (((x.workers.getD w.toNat default).cells.take k).filter (fun y=>Bn y.key x.graph.workers==w)++[(x.workers.getD w.toNat default).cells.getD k default])) (An rfl) C6 Ad (A7 ?_);(repeat refine Ap ?_);refine Az [(1,4)] (k+1) Ad Ad ⟨rfl,trivial⟩ ⟨congrArg Ak (by rw [hs,if_pos hc]),trivial⟩ C2 A6 C1 A6
   (repeat refine Ap ?_);refine Az [] (k+1) Ad Ad ⟨rfl,trivial⟩ ⟨congrArg Ak (by rw [hs,if_neg (by rw [hc];decide),List.append_nil]),trivial⟩ C2 A6 C1 A6
  (repeat refine Ap ?_);refine Am A0 rfl rfl ⟨?_,trivial⟩;exact congrArg (fun l=>Ak (List.filter _ l)) (Da _ k Ad)
 refine ⟨fun h=>?_,fun h=>?_⟩<;>conv=>whnf
 ·refine C59 4 4 (fun i=>Ae.c (([]:List Ae).getD i default)) rfl ?_
  exact Am A0 rfl rfl ⟨by (conv=>whnf);rw [show G0 x w=[] by rw [G0,if_neg h1]];rfl,trivial⟩
 rw [Bool.not_eq_true] at h1;rw [h1] at h;cases h
theorem Ym (x:A3)(hx:x.w≤16777216)(ox:x.ok):B3 Tryz.prog 19 [.agg x.c] [.one (vb (H9 x))]:=by
 have hl:=A3.workers_le hx;refine Aw A0 false Tryz.func19 rfl B5 fun W=>?_;conv=>whnf
 refine Bk A0 false [] (fun k:Nat=>[(3,.c (vi k))]) (fun k=>[⟨0,[.c (Bg x.graph.nodes),.c (vi x.graph.workers),.c (vi x.graph.cap),.c (Ar x.workers),.c (C4 x.links),.c (Bm x.tokens),.c (Cc x.news)]⟩]) (fun k=>[])
  (fun k=>k≤x.workers.length∧Lm x k=true) (fun k=>x.workers.length-k) 0 ⟨Nat.zero_le _,by first|rfl|assumption|simp⟩ ⟨F0,trivial⟩ C2 trivial C1 A6 (fun k hk=>?_)
 obtain ⟨hk,he⟩:=hk;conv=>whnf
 refine Eo (fun h=>?_) fun h=>?_<;>conv=>whnf
 ·have h:k<x.workers.length:=by omega
  first|(refine Ax 4 rfl [0,1,4,5,6,7,8,9,10,2,3,11] A6 (A7 ?_))
  (repeat refine Ap ?_);refine Bd (Vz x k hx ox) rfl (A7 ?_);(repeat refine Ap ?_);refine ⟨fun hc=>?_,fun hc=>?_⟩<;>conv=>whnf
  ·exact Am A0 rfl rfl ⟨congrArg vb (Tf x h (by simp at hc ⊢;omega)),trivial⟩
  (repeat refine Ap ?_);refine Az [] (k+1) ⟨by omega,by (rw [W3,he];simp at hc ⊢;omega)⟩ Ad ⟨rfl,trivial⟩ trivial C2 A6 C1 A6
 exact Am A0 rfl rfl ⟨congrArg vb (by rw [H9,←he];exact congrArg (Lm x) Ad),trivial⟩
theorem I8 (x:A3)(hx:x.w≤16777216)(ox:x.ok):B3 Tryz.prog 18 [.agg x.c] [.one (vb (H9 x))]:=by
 have hl:=A3.workers_le hx;refine Aw A0 false Tryz.func18 rfl B5 fun W=>?_;conv=>whnf
 refine Bk A0 false [] (fun k:Nat=>[(8,.c (vi k))]) (fun k=>[⟨0,[.c (Bg x.graph.nodes),.c (vi x.graph.workers),.c (vi x.graph.cap),.c (Ar x.workers),.c (C4 x.links),.c (Bm x.tokens),.c (Cc x.news)]⟩]) (fun k=>[])
  (fun k=>k≤x.workers.length∧Lm x k=true) (fun k=>x.workers.length-k) 0 ⟨Nat.zero_le _,by first|rfl|assumption|simp⟩ ⟨F0,trivial⟩ C2 trivial C1 A6 (fun k hk=>?_)
 obtain ⟨hk,he⟩:=hk;conv=>whnf
 refine Eo (fun h=>?_) fun h=>?_<;>conv=>whnf
 ·have h:k<x.workers.length:=by omega
  (repeat refine Ap ?_)
  first|(refine Ax 4 rfl [0,1,4,5,6,2,3,7] A6 (A7 ?_))
  (repeat refine Ap ?_);refine Bd (V1 x k hx ox) rfl (A7 ?_);(repeat refine Ap ?_);refine ⟨fun hc=>?_,fun hc=>?_⟩<;>conv=>whnf
  ·exact Am A0 rfl rfl ⟨congrArg vb (Tf x h (by simp at hc ⊢;omega)),trivial⟩
  (repeat refine Ap ?_);refine Az [] (k+1) ⟨by omega,by (rw [W3,he];simp at hc ⊢;omega)⟩ Ad ⟨rfl,trivial⟩ trivial C2 A6 C1 A6
 exact Am A0 rfl rfl ⟨congrArg vb (by rw [H9,←he];exact congrArg (Lm x) Ad),trivial⟩
theorem A9n (a b:List Aa)(ha:a.length≤16777216)(hb:b.length≤16777216):B3 Tryz.prog 25 [.one (Af a),.one (Af b)] [.one (vb (decide (a=b)))]:=by
 refine Aw A0 false Tryz.func25 rfl B5 fun W=>?_;conv=>whnf
 refine ⟨fun hn=>have hn:=bne_iff_ne.1 hn;?_,fun hn=>have hn:=bne_eq_false_iff_eq.1 hn;?_⟩<;>conv=>whnf
 ·exact Am A0 rfl rfl ⟨congrArg vb (decide_eq_false fun e=>hn (by rw [e])),trivial⟩
 refine Bk A0 false [] (fun k:Nat=>[(5,.c (vi k))]) (fun k=>[]) (fun k=>[])
  (fun k=>k≤a.length∧a.take k=b.take k) (fun k=>a.length-k) 0 ⟨Nat.zero_le _,by first|rfl|assumption|simp⟩ ⟨F0,trivial⟩ trivial trivial C1 A6 (fun k hk=>?_)
 obtain ⟨hk,he⟩:=hk;conv=>whnf
 refine Eo (fun h=>?_) fun h=>?_<;>conv=>whnf
 ·have h:k<a.length:=by omega
  have hs:=Qf a b k he h Ad;(repeat refine Ap ?_)
  first|(refine Ax 6 rfl [0,1,2,3,4,5,6,7,8] A6 (A7 ?_))
  (repeat refine Ap ?_);refine ⟨fun hc=>?_,fun hc=>?_⟩<;>conv=>whnf
  ·have hc:(!decide (a.getD k default=b.getD k default))=true:=by rw [←Aa.eqv];exact hc
   exact Am A0 rfl rfl ⟨congrArg vb (decide_eq_false fun e=>by subst e;simp at hc),trivial⟩
  have hc:(!decide (a.getD k default=b.getD k default))=false:=by rw [←Aa.eqv];exact hc
  (repeat refine Ap ?_);refine Az [] (k+1) ⟨by omega,hs.2 (by simpa using hc)⟩ Ad ⟨rfl,trivial⟩ trivial trivial A6 C1 A6
 exact Am A0 rfl rfl ⟨congrArg vb (decide_eq_true (by rw [←Da a k Ad,he,Da b k Ad])),trivial⟩
theorem C30 (a:Option Addr)(n cp:Nat):B3 Tryz.prog 5 [.one (.val (.slice a n cp))] [.one (vb (decide ((n:Int)>1_048_576)))]:=by
 refine Aw A0 false Tryz.func5 rfl B5 fun W=>?_;conv=>whnf
 exact Am A0 rfl rfl ⟨by rfl,trivial⟩
theorem Xa (a b:List Ae)(ha:a.length≤16777216)(hb:b.length≤16777216):B3 Tryz.prog 9 [.one (Ak a),.one (Ak b)] [.one (vb (decide (a=b)))]:=by
 refine Aw A0 false Tryz.func9 rfl B5 fun W=>?_;conv=>whnf
 refine ⟨fun hn=>have hn:=bne_iff_ne.1 hn;?_,fun hn=>have hn:=bne_eq_false_iff_eq.1 hn;?_⟩<;>conv=>whnf
 ·exact Am A0 rfl rfl ⟨congrArg vb (decide_eq_false fun e=>hn (by rw [e])),trivial⟩
 refine Bk A0 false [] (fun k:Nat=>[(5,.c (vi k))]) (fun k=>[]) (fun k=>[])
  (fun k=>k≤a.length∧a.take k=b.take k) (fun k=>a.length-k) 0 ⟨Nat.zero_le _,by first|rfl|assumption|simp⟩ ⟨F0,trivial⟩ trivial trivial C1 A6 (fun k hk=>?_)
 obtain ⟨hk,he⟩:=hk;conv=>whnf
 refine Eo (fun h=>?_) fun h=>?_<;>conv=>whnf
 ·have h:k<a.length:=by omega
  have hs:=Qf a b k he h Ad;(repeat refine Ap ?_)
  first|(refine Ax 6 rfl [0,1,2,3,4,5,6,7,8] A6 (A7 ?_))
  (repeat refine Ap ?_);refine ⟨fun hc=>?_,fun hc=>?_⟩<;>conv=>whnf
  ·have hc:(!decide (a.getD k default=b.getD k default))=true:=by rw [←Ae.eqv];exact hc
   exact Am A0 rfl rfl ⟨congrArg vb (decide_eq_false fun e=>by subst e;simp at hc),trivial⟩
  have hc:(!decide (a.getD k default=b.getD k default))=false:=by rw [←Ae.eqv];exact hc
  (repeat refine Ap ?_);refine Az [] (k+1) ⟨by omega,hs.2 (by simpa using hc)⟩ Ad ⟨rfl,trivial⟩ trivial trivial A6 C1 A6
 exact Am A0 rfl rfl ⟨congrArg vb (decide_eq_true (by rw [←Da a k Ad,he,Da b k Ad])),trivial⟩
set_option maxHeartbeats 4000000 in
theorem B76 (xs:List UInt8):B3 Tryz.prog 3 [.one (B90 xs)] [.one (vb true)]:=by
 refine C3r A0 false Tryz.func3 rfl B5 fun W a cp hp=>?_;conv=>whnf
 have hH:∀w,Be.rel ⟨W,fun _=>False⟩ w→HT w:=fun _ _=>trivial
 refine As (C30 a xs.length cp) rfl (A7 ?_);refine ⟨fun hb=>?_,fun hb=>?_⟩<;>conv=>whnf
 ·exact Am A0 rfl rfl ⟨rfl,trivial⟩
 have hb:(xs.length:Int)≤16777216:=by have:=of_decide_eq_false hb;omega
 let d:Ey:=⟨a,xs.length,cp,fun i=>(xs.getD i default).toNat,fun i=>by have:=(xs.getD i default).toNat_lt;omega,by omega⟩
 have hp:M6 ⟨W,fun _=>False⟩ d.pins:=hp
 refine Tm (C3m d) hH hp rfl (fun r hr=>go A0 false ?_);conv=>whnf
 obtain ⟨g,ins,e,w,k⟩:=r;obtain ⟨⟨hgd,hgs⟩,hin,he⟩:(Z5 g∧Wc g)∧Ui ins∧(0≤e∧e≤3):=hr;have hgw:g.w≤64:=hgd.1;have hil:=hin.1;have hN:=Vc hgs hin;have hSl:=A9z (g:=g) (l:=ins) (e:=e) (w:=w) (k:=k);have hSL:=fun (best:List Ae) (hF:Sp g ins e best [])=>B2a (w:=w) (k:=k) hgs.2.2 hin he hF;refine As (Oq g ins e w k Ad Ad) rfl (A7 ?_);refine As (Xf g ins e w k Ad Ad) rfl (A7 ?_);generalize hSR:F8 g ins e w k=SR at *;obtain ⟨A,ok⟩:=SR
 simp only at hSl hSL
 repeat refine B2 ?_
 refine As (Xa A A Ad Ad) rfl (A7 ?_)
 repeat refine B2 ?_
 refine Tm (C3k d) hH hp rfl (fun o ho=>go A0 false ?_);conv=>whnf
 refine Tm (C3i d) hH hp rfl (fun c hc=>go A0 false ?_);conv=>whnf
 refine Tm (C3n d) hH hp rfl (fun h hh=>go A0 false ?_);conv=>whnf
 refine Tm (C3l d) hH hp rfl (fun s hs=>go A0 false ?_);conv=>whnf
 obtain ⟨o1,o2⟩:=o;obtain ⟨how,hoo⟩:B39 o1:=ho;obtain ⟨hcw,hco⟩:B39 c:=hc;obtain ⟨h1,h2⟩:=h;obtain ⟨hho,hhw⟩:A41 h1:=hh;obtain ⟨s1,s2⟩:=s;have hsl:s1.length≤7:=hs;have hou:=C2h (c:=o1) (w:=o2) (by omega:o1.w≤7000);refine As (Yk s1 s2 Ad) rfl (A7 ?_);refine As (Yo s1 s2 Ad) rfl (A7 ?_);have hL4:(Dh s1 (Cx s2 0 4).toNat).length≤4:=by rw [A4o];exact B4j s2
 have hLe:∀l∈Dh s1 (Cx s2 0 4).toNat,l.length≤7:=fun l hl=>Nat.le_trans (B19 hl) hsl;have hLs:=B6a s1 (Cx s2 0 4).toNat;generalize Dh s1 (Cx s2 0 4).toNat=L at *
 first|(refine Ax 14 rfl [0,1,2,3,4,5,6,7,9,10,8,11,12,13,14,15,16,18,17,19,20,21,22,23,24,26,27,25,28,29,30,31,32,33,34,36,37,35,38,39,40,41] A6 (A7 ?_))|(refine Ax 20 rfl [0,1,2,3,4,5,6,7,8,9] A6 (A7 ?_))
 repeat refine B2 ?_
 refine As (V1 o1 o2 Ad hoo) rfl (A7 ?_)
 repeat refine B2 ?_
 refine As (Vz o1 o2 Ad hoo) rfl (A7 ?_)
 repeat refine B2 ?_
 refine As (Xa (G0 o1 o2) (G0 o1 o2) Ad Ad) rfl (A7 ?_)
 repeat refine B2 ?_
 refine As (I8 c Ad hco) rfl (A7 ?_)
 repeat refine B2 ?_
 refine As (Ym c Ad hco) rfl (A7 ?_)
 repeat refine B2 ?_
 refine Bd (Ql h1 h2 Ad) rfl (A7 ?_)
 repeat refine B2 ?_
 refine Bd (Qn h1 h2 Ad) rfl (A7 ?_)
 repeat refine B2 ?_
 refine As (A18 {h1 with workers:=h2} (by show h1.w≤_;omega)) rfl (A7 ?_)
 repeat refine B2 ?_
 refine Bd (Xw h1 h2 Ad) rfl (A7 ?_)
 repeat refine B2 ?_
 refine Bd (Yf h1 h2 Ad) rfl (A7 ?_)
 repeat refine B2 ?_
 refine As (A18 {h1 with cap:=h2} (by show h1.w≤_;omega)) rfl (A7 ?_)
 repeat refine B2 ?_
 refine Bk A0 false [] (fun k:Nat=>[(21,.c (vi ((((L.take k).map List.length).sum:Nat):Int))),(22,.c (vi k))]) (fun k=>[⟨2,[.own 0,.c (vi g.workers),.c (vi g.cap)]⟩]) (fun k=>[⟨0,Bg g.nodes⟩,⟨1,Af ins⟩,⟨17,Af s1⟩])
  (fun k=>k≤L.length) (fun k=>L.length-k) 0 (Nat.zero_le _) ⟨F0,F0,trivial⟩ C2 ⟨Dm,Dm,Dm,trivial⟩ C1 A6 (fun k hk=>?_)
 conv=>whnf
 conv=>whnf
 refine Eo (fun hlt=>?_) fun hlt=>?_<;>conv=>whnf
 ·have hlt:k<L.length:=by omega
  have hel:=hLe _ (At (d:=default) hlt);have hsm:(((L.take (k+1)).map List.length).sum:Nat)=((L.take k).map List.length).sum+(L.getD k default).length:=B37 List.length L k hlt;have hsl2:((L.take k).map List.length).sum≤7 * 4:=A96 hLe hL4 k
  first|(refine Ax 14 rfl [0,1,2,3,4,5,6,7,9,10,8,11,12,13,14,15,16,18,17,19,20,21,22,23,24,26,27,25,28,29,30,31,32,33,34,36,37,35,38,39,40,41] A6 (A7 ?_))|(refine Ax 20 rfl [0,1,2,3,4,5,6,7,8,9] A6 (A7 ?_))
  (repeat refine Ap ?_);refine As (A9n (L.getD k default) (L.getD k default) Ad Ad) rfl (A7 ?_)
  repeat refine B2 ?_
  refine Az [] (k+1) Ad Ad ⟨congrArg (fun n=>AV.c (vi n)) (by simp only [Int.toNat_natCast];omega),rfl,trivial⟩ ⟨rfl,rfl,rfl,trivial⟩ C2 A6 C1 A6
 refine Tm (A7z d) hH hp rfl (fun x hx=>go A0 false ?_);conv=>whnf
 refine Es 28 (Bh [1]) rfl (Bu rfl C2) ?_;refine Kg A0 rfl rfl rfl rfl rfl rfl (l:=[.c (vi 1),.c (vi 0),.c (vi 0),.own 28,.c (vi 8),.c (vi 0),.c (vi 0),.c (.val (.slice none 0 0))]) A6 (cs:=[vi 1,vi 0,vi 0,Bh [1],vi 8,vi 0,vi 0,.val (.slice none 0 0)]) (ks:=[28]) A6 A6 (A7 ?_);refine Fx 29 (Bg [⟨1,0,0,[1]⟩,⟨8,0,0,[]⟩]) rfl (Hx rfl A44) ?_;refine Fx 31 (Af [⟨0,⟨0,0⟩,5,0⟩]) rfl (Bu rfl C2) ?_;have hT:=C0k;refine As (Oq C3x B9u 0 3 2 B5 B5) rfl (A7 ?_);generalize F8 C3x B9u 0 3 2=T at *;obtain ⟨T1,T2⟩:=T;obtain rfl:T2=true:=hT;have hsh:=Pi hx;have hxw:=hsh.w
 repeat refine B2 ?_
 cases ok
 ·repeat refine B2 ?_
  refine ⟨fun h3=>have h3:=eq_of_beq h3;?_,fun h3=>have h3:=beq_eq_false_iff_ne.1 h3;?_⟩<;>conv=>whnf
  ·repeat refine B2 ?_
   refine As (I8 x Ad (Ol hx)) rfl (A7 ?_);rw [Lh hx]
   repeat refine B2 ?_
   exact Am A0 rfl rfl ⟨rfl,trivial⟩
  have h4:L.length=0:=by
   rw [Da L k Ad] at h3
   rcases hLs with h5|h5
   ·exact absurd (congrArg (fun n:Nat=>(n:Int)) h5) h3
   exact h5
  repeat refine B2 ?_
  refine ⟨fun h6=>have h6:=eq_of_beq h6;?_,fun h6=>have h6:=beq_eq_false_iff_ne.1 h6;?_⟩<;>conv=>whnf
  ·repeat refine B2 ?_
   refine As (I8 x Ad (Ol hx)) rfl (A7 ?_);rw [Lh hx]
   repeat refine B2 ?_
   exact Am A0 rfl rfl ⟨rfl,trivial⟩
  omega
 repeat refine B2 ?_
 refine B7d (A6w g e ins Ad hN.1 (B28 hN) he Ad) (fun _ _ _ _=>trivial) trivial rfl (fun l hl=>go A0 false ?_);conv=>whnf
 obtain ⟨best,hF,hlo,hll⟩:=hl;have hsame:A=l:=(hSL best hF rfl).trans hlo.symm;rw [hsame]
 repeat refine B2 ?_
 refine As (Xa l l Ad Ad) rfl (A7 ?_)
 repeat refine B2 ?_
 refine ⟨fun h3=>have h3:=eq_of_beq h3;?_,fun h3=>have h3:=beq_eq_false_iff_ne.1 h3;?_⟩<;>conv=>whnf
 ·repeat refine B2 ?_
  refine As (I8 x Ad (Ol hx)) rfl (A7 ?_);rw [Lh hx]
  repeat refine B2 ?_
  exact Am A0 rfl rfl ⟨rfl,trivial⟩
 have h4:L.length=0:=by
  rw [Da L k Ad] at h3
  rcases hLs with h5|h5
  ·exact absurd (congrArg (fun n:Nat=>(n:Int)) h5) h3
  exact h5
 repeat refine B2 ?_
 refine ⟨fun h6=>have h6:=eq_of_beq h6;?_,fun h6=>have h6:=beq_eq_false_iff_ne.1 h6;?_⟩<;>conv=>whnf
 ·repeat refine B2 ?_
  refine As (I8 x Ad (Ol hx)) rfl (A7 ?_);rw [Lh hx]
  repeat refine B2 ?_
  exact Am A0 rfl rfl ⟨rfl,trivial⟩
 omega
end Go.Proofs.YtdendlkeiaccpaaGreat
