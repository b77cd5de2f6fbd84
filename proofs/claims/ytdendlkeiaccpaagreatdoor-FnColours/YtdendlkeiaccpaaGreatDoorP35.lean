/- Part 35 of the proof that each of the laws FnColours returns true for every input. No conditions. -/
import Derived.Test.YtdendlkeiaccpaaGreatDoorP32
import Derived.Test.YtdendlkeiaccpaaGreatDoorP34

set_option linter.unusedSimpArgs false
set_option linter.unusedVariables false
set_option maxRecDepth 100000
namespace Go.Proofs.YtdendlkeiaccpaaGreatDoor
open Go.Sx
def A5a (c:A3):Prop:=c.w≤7000∧c.ok
theorem A7b {n:Int}(h:1≤n∧n≤3):Eu .i64 n:=⟨by omega,by omega⟩
theorem A9j {c:A3}(h:Qi c):c.ok:=by
 have hs:=Kx h
 obtain ⟨g,ins,pk,m,⟨hgd,hgs⟩,hin,hpk,hm,rfl⟩:=h
 have hN:=Uw hgs hin
 have hw:=hs.w
 exact B3n (B2l m (A4h (B6b (by rw [Jz hN])))) Ac
set_option maxHeartbeats 8000000 in
theorem B14 (d:E4)(i h:Int)(hi:0≤i∧i≤d.n):Dd Tryz.prog HT 88 d.pins (d.cur i h) [] (fun r:Int×Int×A3=>(0≤r.1∧r.1≤d.n)∧A5a r.2.2) (fun r=>d.cur r.1 r.2.1) (fun r=>[.agg r.2.2.c]):=by
 refine Dp A0 false Tryz.func88 rfl Az fun B b hH hp=>?_
 conv=>whnf
 refine Ak (Qr d i h hi) hH hp rfl B1 rfl rfl (fun r hr=>go A0 false ?_)
 conv=>whnf
 have hs:=Kx hr.2
 have hcw:=hs.w
 have hck:=hs.k
 have hcl:=hs.l
 have hct:=hs.t
 have hcg:=hs.g
 have ocl:r.2.2.ok:=A9j hr.2
 have hwl:=A3.workers_le hcw
 have hll:=A3.links_le hcw
 have hnl:r.2.2.news.length≤r.2.2.w:=by unfold A3.w;omega
 refine Ak (Ai d r.1 r.2.1 r.2.2.workers.length hr.1 Ac) hH hp rfl B1 rfl rfl (fun t ht=>go A0 false ?_)
 conv=>whnf
 have ht2:=ht.2.2.2 Ac
 have ht3:=ht.2.1
 have htk:t.2.2.toNat<r.2.2.workers.length:=by omega
 refine Ak (Ai d t.1 t.2.1 20 ht.1 Az) hH hp rfl B1 rfl rfl (fun u hu=>go A0 false ?_)
 conv=>whnf
 refine ⟨fun c0=>?_,fun c0=>?_⟩<;>conv=>whnf
 ·refine Fx rfl ?_
  refine Ao A0 false 0 rfl rfl rfl A7 rfl (A5 Bb) ?_
  refine Ao A0 false 2 rfl rfl rfl A7 rfl (A5 Bb) ?_
  refine Ao A0 false 3 rfl rfl rfl A7 rfl (A5 Bb) ?_
  refine Ao A0 false 4 rfl rfl rfl A7 rfl (A5 Bb) ?_
  refine A4 [1,5] A7 ⟨?_,?_,trivial⟩
  focus
   refine A8 ?_
   refine A6 (A4 [5] A7 ⟨A8 ?_,trivial⟩)
   refine A6 (A4 [6] A7 ⟨A8 ?_,trivial⟩)
   refine Ak (N7 d u.1 u.2.1 r.2.2.graph hu.1 Ac) hH hp rfl B1 rfl rfl (fun r9 hr9=>go A0 false ?_)
   conv=>whnf
   refine A6 (A4 [7] A7 ⟨A8 ?_,trivial⟩)
   (repeat refine An ?_)
   refine A6 (A4 [8] A7 ⟨A8 ?_,trivial⟩)
   refine Am (j:=t.2.2) A0 rfl rfl rfl rfl rfl rfl rfl rfl _ (C6 (j:=t.2.2.toNat) (xs:=r.2.2.workers) (e:=Aa.c) (x:=r9.2.2) htk rfl) (A8 ?_)
   refine A6 (B2 A7 (A8 ?_))
  rotate_left 1
  focus
   refine A8 ?_
   refine A6 ?_
   refine A4 [1,6] A7 ⟨?_,?_,trivial⟩
   focus
    refine A8 ?_
    refine A6 (A4 [6] A7 ⟨A8 ?_,trivial⟩)
    refine Ak (N7 d u.1 u.2.1 r.2.2.graph hu.1 Ac) hH hp rfl B1 rfl rfl (fun r9 hr9=>go A0 false ?_)
    conv=>whnf
    refine A6 (A4 [7] A7 ⟨A8 ?_,trivial⟩)
    (repeat refine An ?_)
    refine A6 (A4 [8] A7 ⟨A8 ?_,trivial⟩)
    refine Am (j:=t.2.2) A0 rfl rfl rfl rfl rfl rfl rfl rfl _ (C6 (j:=t.2.2.toNat) (xs:=r.2.2.workers) (e:=Aa.c) (x:=r9.2.2) htk rfl) (A8 ?_)
    refine A6 (B2 A7 (A8 ?_))
   rotate_left 1
   focus
    refine A8 ?_
    refine Ak (N7 d u.1 u.2.1 r.2.2.graph hu.1 Ac) hH hp rfl B1 rfl rfl (fun r9 hr9=>go A0 false ?_)
    conv=>whnf
    refine A6 (A4 [1] A7 ⟨A8 ?_,trivial⟩)
    refine A6 (A4 [7] A7 ⟨A8 ?_,trivial⟩)
    (repeat refine An ?_)
    refine A6 (A4 [8] A7 ⟨A8 ?_,trivial⟩)
    refine Am (j:=t.2.2) A0 rfl rfl rfl rfl rfl rfl rfl rfl _ (C6 (j:=t.2.2.toNat) (xs:=r.2.2.workers) (e:=Aa.c) (x:=r9.2.2) htk rfl) (A8 ?_)
    refine A6 (B2 A7 (A8 ?_))
  all_goals
   have hsw:=Ic (c:=r.2.2) (j:=t.2.2) (w:=r9.2.2) ⟨by omega,by omega⟩
   have h9:=hr9.2.1
   exact Bu A0 (r9.1,r9.2.1,B3 r.2.2 t.2.2 r9.2.2) ⟨hr9.1,by show (B3 r.2.2 t.2.2 r9.2.2).w≤7000;omega,A99 ocl (B8c hr9.2.2 Ac)⟩ rfl rfl rfl rfl B1
 repeat refine Bd ?_
 refine ⟨fun c1=>?_,fun c1=>?_⟩<;>conv=>whnf
 ·refine Fx rfl ?_
  refine Ao A0 false 0 rfl rfl rfl A7 rfl (A5 Bb) ?_
  refine Ao A0 false 2 rfl rfl rfl A7 rfl (A5 Bb) ?_
  refine Ao A0 false 3 rfl rfl rfl A7 rfl (A5 Bb) ?_
  refine Ao A0 false 7 rfl rfl rfl A7 rfl (A5 Bb) ?_
  refine A4 [1,4] A7 ⟨?_,?_,trivial⟩
  focus
   refine A8 ?_
   refine A6 (A4 [4] A7 ⟨A8 ?_,trivial⟩)
   refine A6 (A4 [5] A7 ⟨A8 ?_,trivial⟩)
   refine A6 (A4 [6] A7 ⟨A8 ?_,trivial⟩)
   refine Ak (Ai d u.1 u.2.1 r.2.2.links.length hu.1 Ac) hH hp rfl B1 rfl rfl (fun r8 hr8=>go A0 false ?_)
   conv=>whnf
   have hk8:=hr8.2.2.2 Ac
   have hk7:=hr8.2.1
   refine A6 (A4 [8] A7 ⟨A8 ?_,trivial⟩)
   refine Ak (Lc d r8.1 r8.2.1 hr8.1) hH hp rfl B1 rfl rfl (fun r9 hr9=>go A0 false ?_)
   conv=>whnf
   refine A6 (A4 [9] A7 ⟨A8 ?_,trivial⟩)
   (repeat refine An ?_)
   refine A6 (A4 [10] A7 ⟨A8 ?_,trivial⟩)
   refine Am (j:=r8.2.2) A0 rfl rfl rfl rfl rfl rfl rfl rfl _ (C6 (j:=r8.2.2.toNat) (xs:=r.2.2.links) (e:=Bz.c) (x:=r9.2.2) Ac rfl) (A8 ?_)
   refine A6 (B2 A7 (A8 ?_))
  rotate_left 1
  focus
   refine A8 ?_
   refine A6 ?_
   refine A4 [1,5] A7 ⟨?_,?_,trivial⟩
   focus
    refine A8 ?_
    refine A6 (A4 [5] A7 ⟨A8 ?_,trivial⟩)
    refine A6 (A4 [6] A7 ⟨A8 ?_,trivial⟩)
    refine Ak (Ai d u.1 u.2.1 r.2.2.links.length hu.1 Ac) hH hp rfl B1 rfl rfl (fun r8 hr8=>go A0 false ?_)
    conv=>whnf
    have hk8:=hr8.2.2.2 Ac
    have hk7:=hr8.2.1
    refine A6 (A4 [8] A7 ⟨A8 ?_,trivial⟩)
    refine Ak (Lc d r8.1 r8.2.1 hr8.1) hH hp rfl B1 rfl rfl (fun r9 hr9=>go A0 false ?_)
    conv=>whnf
    refine A6 (A4 [9] A7 ⟨A8 ?_,trivial⟩)
    (repeat refine An ?_)
    refine A6 (A4 [10] A7 ⟨A8 ?_,trivial⟩)
    refine Am (j:=r8.2.2) A0 rfl rfl rfl rfl rfl rfl rfl rfl _ (C6 (j:=r8.2.2.toNat) (xs:=r.2.2.links) (e:=Bz.c) (x:=r9.2.2) Ac rfl) (A8 ?_)
    refine A6 (B2 A7 (A8 ?_))
   rotate_left 1
   focus
    refine A8 ?_
    refine A6 ?_
    refine A4 [1,6] A7 ⟨?_,?_,trivial⟩
    focus
     refine A8 ?_
     refine A6 (A4 [6] A7 ⟨A8 ?_,trivial⟩)
     refine Ak (Ai d u.1 u.2.1 r.2.2.links.length hu.1 Ac) hH hp rfl B1 rfl rfl (fun r8 hr8=>go A0 false ?_)
     conv=>whnf
     have hk8:=hr8.2.2.2 Ac
     have hk7:=hr8.2.1
     refine A6 (A4 [8] A7 ⟨A8 ?_,trivial⟩)
     refine Ak (Lc d r8.1 r8.2.1 hr8.1) hH hp rfl B1 rfl rfl (fun r9 hr9=>go A0 false ?_)
     conv=>whnf
     refine A6 (A4 [9] A7 ⟨A8 ?_,trivial⟩)
     (repeat refine An ?_)
     refine A6 (A4 [10] A7 ⟨A8 ?_,trivial⟩)
     refine Am (j:=r8.2.2) A0 rfl rfl rfl rfl rfl rfl rfl rfl _ (C6 (j:=r8.2.2.toNat) (xs:=r.2.2.links) (e:=Bz.c) (x:=r9.2.2) Ac rfl) (A8 ?_)
     refine A6 (B2 A7 (A8 ?_))
    rotate_left 1
    focus
     refine A8 ?_
     refine Ak (Ai d u.1 u.2.1 r.2.2.links.length hu.1 Ac) hH hp rfl B1 rfl rfl (fun r8 hr8=>go A0 false ?_)
     conv=>whnf
     have hk8:=hr8.2.2.2 Ac
     have hk7:=hr8.2.1
     refine A6 ?_
     refine A4 [1,8] A7 ⟨?_,?_,trivial⟩
     focus
      refine A8 ?_
      refine A6 (A4 [8] A7 ⟨A8 ?_,trivial⟩)
      refine Ak (Lc d r8.1 r8.2.1 hr8.1) hH hp rfl B1 rfl rfl (fun r9 hr9=>go A0 false ?_)
      conv=>whnf
      refine A6 (A4 [9] A7 ⟨A8 ?_,trivial⟩)
      (repeat refine An ?_)
      refine A6 (A4 [10] A7 ⟨A8 ?_,trivial⟩)
      refine Am (j:=r8.2.2) A0 rfl rfl rfl rfl rfl rfl rfl rfl _ (C6 (j:=r8.2.2.toNat) (xs:=r.2.2.links) (e:=Bz.c) (x:=r9.2.2) Ac rfl) (A8 ?_)
      refine A6 (B2 A7 (A8 ?_))
     rotate_left 1
     focus
      refine A8 ?_
      refine Ak (Lc d r8.1 r8.2.1 hr8.1) hH hp rfl B1 rfl rfl (fun r9 hr9=>go A0 false ?_)
      conv=>whnf
      refine A6 (A4 [1] A7 ⟨A8 ?_,trivial⟩)
      refine A6 (A4 [9] A7 ⟨A8 ?_,trivial⟩)
      (repeat refine An ?_)
      refine A6 (A4 [10] A7 ⟨A8 ?_,trivial⟩)
      refine Am (j:=r8.2.2) A0 rfl rfl rfl rfl rfl rfl rfl rfl _ (C6 (j:=r8.2.2.toNat) (xs:=r.2.2.links) (e:=Bz.c) (x:=r9.2.2) Ac rfl) (A8 ?_)
      refine A6 (B2 A7 (A8 ?_))
  all_goals
   have hsw:=Se (c:=r.2.2) (k:=r8.2.2) (l:=r9.2.2) ⟨by omega,by omega⟩
   have h9:r9.2.2.w≤10:=hr9.2.1
   exact Bu A0 (r9.1,r9.2.1,C2 r.2.2 r8.2.2 r9.2.2) ⟨hr9.1,by show (C2 r.2.2 r8.2.2 r9.2.2).w≤7000;omega,A98 ocl (B8b hr9.2.2 (by have:=hr9.2.1;omega))⟩ rfl rfl rfl rfl B1
 repeat refine Bd ?_
 refine ⟨fun c2=>?_,fun c2=>?_⟩<;>conv=>whnf
 ·refine Fx rfl ?_
  refine Ao A0 false 0 rfl rfl rfl A7 rfl (A5 Bb) ?_
  refine Ao A0 false 2 rfl rfl rfl A7 rfl (A5 Bb) ?_
  refine Ao A0 false 4 rfl rfl rfl A7 rfl (A5 Bb) ?_
  refine A4 [1,3] A7 ⟨?_,?_,trivial⟩
  focus
   refine A8 ?_
   refine A6 (A4 [3] A7 ⟨A8 ?_,trivial⟩)
   refine Ak (Ai d u.1 u.2.1 4 hu.1 Az) hH hp rfl B1 rfl rfl (fun r8 hr8=>go A0 false ?_)
   conv=>whnf
   have hk8:=hr8.2.2.2 Az
   have hk7:=hr8.2.1
   refine A6 (A4 [5] A7 ⟨A8 ?_,trivial⟩)
   refine Ak (Ai d r8.1 r8.2.1 6 hr8.1 Az) hH hp rfl B1 rfl rfl (fun r9 hr9=>go A0 false ?_)
   conv=>whnf
   refine A6 ?_
   refine Ao A0 false 6 rfl rfl rfl A7 rfl (A5 Bb) ?_
   refine A4 [7] A7 ⟨A8 ?_,trivial⟩
   (repeat refine An ?_)
   refine A6 ?_
   refine Ao A0 false 8 rfl rfl rfl A7 rfl (A5 Bb) ?_
   refine A4 [9] A7 ⟨A8 ?_,trivial⟩
   refine Am (j:=r8.2.2) A0 rfl rfl rfl rfl rfl rfl rfl rfl _ (C6 (j:=r8.2.2.toNat) (xs:=r.2.2.tokens) (e:=Cu.c) (x:=⟨(r.2.2.tokens.getD r8.2.2.toNat default).going,r9.2.2-1,(r.2.2.tokens.getD r8.2.2.toNat default).sum,(r.2.2.tokens.getD r8.2.2.toNat default).black,(r.2.2.tokens.getD r8.2.2.toNat default).capped⟩) Ac rfl) (A8 ?_)
   refine A6 (B2 A7 (A8 ?_))
  rotate_left 1
  focus
   refine A8 ?_
   refine Ak (Ai d u.1 u.2.1 4 hu.1 Az) hH hp rfl B1 rfl rfl (fun r8 hr8=>go A0 false ?_)
   conv=>whnf
   have hk8:=hr8.2.2.2 Az
   have hk7:=hr8.2.1
   refine A6 ?_
   refine A4 [1,5] A7 ⟨?_,?_,trivial⟩
   focus
    refine A8 ?_
    refine A6 (A4 [5] A7 ⟨A8 ?_,trivial⟩)
    refine Ak (Ai d r8.1 r8.2.1 6 hr8.1 Az) hH hp rfl B1 rfl rfl (fun r9 hr9=>go A0 false ?_)
    conv=>whnf
    refine A6 ?_
    refine Ao A0 false 6 rfl rfl rfl A7 rfl (A5 Bb) ?_
    refine A4 [7] A7 ⟨A8 ?_,trivial⟩
    (repeat refine An ?_)
    refine A6 ?_
    refine Ao A0 false 8 rfl rfl rfl A7 rfl (A5 Bb) ?_
    refine A4 [9] A7 ⟨A8 ?_,trivial⟩
    refine Am (j:=r8.2.2) A0 rfl rfl rfl rfl rfl rfl rfl rfl _ (C6 (j:=r8.2.2.toNat) (xs:=r.2.2.tokens) (e:=Cu.c) (x:=⟨(r.2.2.tokens.getD r8.2.2.toNat default).going,r9.2.2-1,(r.2.2.tokens.getD r8.2.2.toNat default).sum,(r.2.2.tokens.getD r8.2.2.toNat default).black,(r.2.2.tokens.getD r8.2.2.toNat default).capped⟩) Ac rfl) (A8 ?_)
    refine A6 (B2 A7 (A8 ?_))
   rotate_left 1
   focus
    refine A8 ?_
    refine Ak (Ai d r8.1 r8.2.1 6 hr8.1 Az) hH hp rfl B1 rfl rfl (fun r9 hr9=>go A0 false ?_)
    conv=>whnf
    refine A6 ?_
    refine Ao A0 false 6 rfl rfl rfl A7 rfl (A5 Bb) ?_
    refine A4 [1] A7 ⟨A8 ?_,trivial⟩
    refine A6 (A4 [7] A7 ⟨A8 ?_,trivial⟩)
    (repeat refine An ?_)
    refine A6 ?_
    refine Ao A0 false 8 rfl rfl rfl A7 rfl (A5 Bb) ?_
    refine A4 [9] A7 ⟨A8 ?_,trivial⟩
    refine Am (j:=r8.2.2) A0 rfl rfl rfl rfl rfl rfl rfl rfl _ (C6 (j:=r8.2.2.toNat) (xs:=r.2.2.tokens) (e:=Cu.c) (x:=⟨(r.2.2.tokens.getD r8.2.2.toNat default).going,r9.2.2-1,(r.2.2.tokens.getD r8.2.2.toNat default).sum,(r.2.2.tokens.getD r8.2.2.toNat default).black,(r.2.2.tokens.getD r8.2.2.toNat default).capped⟩) Ac rfl) (A8 ?_)
    refine A6 (B2 A7 (A8 ?_))
  all_goals
   have hsw:=Mr (c:=r.2.2) (e:=r8.2.2) (t:=⟨(r.2.2.tokens.getD r8.2.2.toNat default).going,r9.2.2-1,(r.2.2.tokens.getD r8.2.2.toNat default).sum,(r.2.2.tokens.getD r8.2.2.toNat default).black,(r.2.2.tokens.getD r8.2.2.toNat default).capped⟩)
   exact Bu A0 (r9.1,r9.2.1,C9 r.2.2 r8.2.2 ⟨(r.2.2.tokens.getD r8.2.2.toNat default).going,r9.2.2-1,(r.2.2.tokens.getD r8.2.2.toNat default).sum,(r.2.2.tokens.getD r8.2.2.toNat default).black,(r.2.2.tokens.getD r8.2.2.toNat default).capped⟩) ⟨hr9.1,by show (C9 r.2.2 r8.2.2 ⟨(r.2.2.tokens.getD r8.2.2.toNat default).going,r9.2.2-1,(r.2.2.tokens.getD r8.2.2.toNat default).sum,(r.2.2.tokens.getD r8.2.2.toNat default).black,(r.2.2.tokens.getD r8.2.2.toNat default).capped⟩).w≤7000;omega,Zf ocl ⟨Fb (by have:=hr9.2.1;show _≤r9.2.2-1;omega) (by have:=hr9.2.2.2 Az;show r9.2.2-1≤_;omega),(A4z ocl Ac).2⟩⟩ rfl rfl rfl rfl B1
 repeat refine Bd ?_
 refine ⟨fun c3=>?_,fun c3=>?_⟩<;>conv=>whnf
 ·refine Fx rfl ?_
  refine Ao A0 false 0 rfl rfl rfl A7 rfl (A5 Bb) ?_
  refine Ao A0 false 2 rfl rfl rfl A7 rfl (A5 Bb) ?_
  refine A4 [1,3] A7 ⟨?_,?_,trivial⟩
  focus
   refine A8 ?_
   refine A6 (A4 [3] A7 ⟨A8 ?_,trivial⟩)
   refine A6 (A4 [4] A7 ⟨A8 ?_,trivial⟩)
   refine Fl 8 (Au [1000000,1000001,-1000001,3]) rfl (Bq rfl (by repeat' (first|exact trivial|exact rfl|refine ⟨?_,?_⟩))) ?_
   refine Ak (De d u.1 u.2.1 [1000000,1000001,-1000001,3] hu.1 Az) hH hp rfl B1 rfl rfl (fun r9 hr9=>go A0 false ?_)
   conv=>whnf
   refine A6 (A4 [5] A7 ⟨A8 ?_,trivial⟩)
   (repeat refine An ?_)
   refine A6 ?_
   refine Ao A0 false 6 rfl rfl rfl A7 rfl (A5 Bb) ?_
   refine A4 [7] A7 ⟨A8 ?_,trivial⟩
   refine Am (j:=0) A0 rfl rfl rfl rfl rfl rfl rfl rfl _ (C6 (j:=0) (xs:=r.2.2.tokens) (e:=Cu.c) (x:=⟨(r.2.2.tokens.getD 0 default).going,(r.2.2.tokens.getD 0 default).at_,[1000000,1000001,-1000001,3].getD r9.2.2 0,(r.2.2.tokens.getD 0 default).black,(r.2.2.tokens.getD 0 default).capped⟩) Ac rfl) (A8 ?_)
   refine A6 (B2 A7 (A8 ?_))
  rotate_left 1
  focus
   refine A8 ?_
   refine A6 ?_
   refine A4 [1,4] A7 ⟨?_,?_,trivial⟩
   focus
    refine A8 ?_
    refine A6 (A4 [4] A7 ⟨A8 ?_,trivial⟩)
    refine Fl 8 (Au [1000000,1000001,-1000001,3]) rfl (Bq rfl (by repeat' (first|exact trivial|exact rfl|refine ⟨?_,?_⟩))) ?_
    refine Ak (De d u.1 u.2.1 [1000000,1000001,-1000001,3] hu.1 Az) hH hp rfl B1 rfl rfl (fun r9 hr9=>go A0 false ?_)
    conv=>whnf
    refine A6 (A4 [5] A7 ⟨A8 ?_,trivial⟩)
    (repeat refine An ?_)
    refine A6 ?_
    refine Ao A0 false 6 rfl rfl rfl A7 rfl (A5 Bb) ?_
    refine A4 [7] A7 ⟨A8 ?_,trivial⟩
    refine Am (j:=0) A0 rfl rfl rfl rfl rfl rfl rfl rfl _ (C6 (j:=0) (xs:=r.2.2.tokens) (e:=Cu.c) (x:=⟨(r.2.2.tokens.getD 0 default).going,(r.2.2.tokens.getD 0 default).at_,[1000000,1000001,-1000001,3].getD r9.2.2 0,(r.2.2.tokens.getD 0 default).black,(r.2.2.tokens.getD 0 default).capped⟩) Ac rfl) (A8 ?_)
    refine A6 (B2 A7 (A8 ?_))
   rotate_left 1
   focus
    refine A8 ?_
    refine Fl 8 (Au [1000000,1000001,-1000001,3]) rfl (Bq rfl (by repeat' (first|exact trivial|exact rfl|refine ⟨?_,?_⟩))) ?_
    refine Ak (De d u.1 u.2.1 [1000000,1000001,-1000001,3] hu.1 Az) hH hp rfl B1 rfl rfl (fun r9 hr9=>go A0 false ?_)
    conv=>whnf
    refine A6 (A4 [1] A7 ⟨A8 ?_,trivial⟩)
    refine A6 (A4 [5] A7 ⟨A8 ?_,trivial⟩)
    (repeat refine An ?_)
    refine A6 ?_
    refine Ao A0 false 6 rfl rfl rfl A7 rfl (A5 Bb) ?_
    refine A4 [7] A7 ⟨A8 ?_,trivial⟩
    refine Am (j:=0) A0 rfl rfl rfl rfl rfl rfl rfl rfl _ (C6 (j:=0) (xs:=r.2.2.tokens) (e:=Cu.c) (x:=⟨(r.2.2.tokens.getD 0 default).going,(r.2.2.tokens.getD 0 default).at_,[1000000,1000001,-1000001,3].getD r9.2.2 0,(r.2.2.tokens.getD 0 default).black,(r.2.2.tokens.getD 0 default).capped⟩) Ac rfl) (A8 ?_)
    refine A6 (B2 A7 (A8 ?_))
  all_goals
   have hsw:=Mr (c:=r.2.2) (e:=0) (t:=⟨(r.2.2.tokens.getD 0 default).going,(r.2.2.tokens.getD 0 default).at_,[1000000,1000001,-1000001,3].getD r9.2.2 0,(r.2.2.tokens.getD 0 default).black,(r.2.2.tokens.getD 0 default).capped⟩)
   exact Bu A0 (r9.1,r9.2.1,C9 r.2.2 0 ⟨(r.2.2.tokens.getD 0 default).going,(r.2.2.tokens.getD 0 default).at_,[1000000,1000001,-1000001,3].getD r9.2.2 0,(r.2.2.tokens.getD 0 default).black,(r.2.2.tokens.getD 0 default).capped⟩) ⟨hr9.1,by show (C9 r.2.2 0 ⟨(r.2.2.tokens.getD 0 default).going,(r.2.2.tokens.getD 0 default).at_,[1000000,1000001,-1000001,3].getD r9.2.2 0,(r.2.2.tokens.getD 0 default).black,(r.2.2.tokens.getD 0 default).capped⟩).w≤7000;omega,Zf ocl ⟨(A4z ocl Ac).1,Gb _ _ (by intro x hx;simp only [List.mem_cons,List.not_mem_nil,or_false] at hx;show _∧_;omega)⟩⟩ rfl rfl rfl rfl B1
 repeat refine Bd ?_
 refine ⟨fun c4=>?_,fun c4=>?_⟩<;>conv=>whnf
 ·refine Fx rfl ?_
  refine Ao A0 false 0 rfl rfl rfl A7 rfl (A5 Bb) ?_
  refine Ao A0 false 2 rfl rfl rfl A7 rfl (A5 Bb) ?_
  refine Ao A0 false 5 rfl rfl rfl A7 rfl (A5 Bb) ?_
  refine A4 [1,3] A7 ⟨?_,?_,trivial⟩
  focus
   refine A8 ?_
   refine A6 (A4 [3] A7 ⟨A8 ?_,trivial⟩)
   refine Ak (Ai d u.1 u.2.1 6 hu.1 Az) hH hp rfl B1 rfl rfl (fun r8 hr8=>go A0 false ?_)
   conv=>whnf
   refine A6 ?_
   refine Ao A0 false 4 rfl rfl rfl A7 rfl (A5 Bb) ?_
   refine A4 [6] A7 ⟨A8 ?_,trivial⟩
   refine Ak (Ai d r8.1 r8.2.1 6 hr8.1 Az) hH hp rfl B1 rfl rfl (fun r9 hr9=>go A0 false ?_)
   conv=>whnf
   refine A6 ?_
   refine Ao A0 false 7 rfl rfl rfl A7 rfl (A5 Bb) ?_
   refine A4 [8] A7 ⟨A8 ?_,trivial⟩
   refine A6 (A4 [9] A7 ⟨A8 ?_,trivial⟩)
   refine A6 (A4 [10] A7 ⟨A8 ?_,trivial⟩)
   refine B6 A0 rfl rfl rfl rfl rfl rfl rfl rfl rfl rfl rfl (C5 (r.2.2.news++[⟨r8.2.2-1,r9.2.2-1,false⟩])) (Ad rfl) Bp Ac (A8 ?_)
   refine A6 ?_
   refine Ao A0 false 11 rfl rfl rfl A7 rfl (A5 Bb) ?_
   refine A4 [12] A7 ⟨A8 ?_,trivial⟩
   refine A6 (B2 A7 (A8 ?_))
  rotate_left 1
  focus
   refine A8 ?_
   refine Ak (Ai d u.1 u.2.1 6 hu.1 Az) hH hp rfl B1 rfl rfl (fun r8 hr8=>go A0 false ?_)
   conv=>whnf
   refine A6 ?_
   refine Ao A0 false 4 rfl rfl rfl A7 rfl (A5 Bb) ?_
   refine A4 [1,6] A7 ⟨?_,?_,trivial⟩
   focus
    refine A8 ?_
    refine A6 (A4 [6] A7 ⟨A8 ?_,trivial⟩)
    refine Ak (Ai d r8.1 r8.2.1 6 hr8.1 Az) hH hp rfl B1 rfl rfl (fun r9 hr9=>go A0 false ?_)
    conv=>whnf
    refine A6 ?_
    refine Ao A0 false 7 rfl rfl rfl A7 rfl (A5 Bb) ?_
    refine A4 [8] A7 ⟨A8 ?_,trivial⟩
    refine A6 (A4 [9] A7 ⟨A8 ?_,trivial⟩)
    refine A6 (A4 [10] A7 ⟨A8 ?_,trivial⟩)
    refine B6 A0 rfl rfl rfl rfl rfl rfl rfl rfl rfl rfl rfl (C5 (r.2.2.news++[⟨r8.2.2-1,r9.2.2-1,false⟩])) (Ad rfl) Bp Ac (A8 ?_)
    refine A6 ?_
    refine Ao A0 false 11 rfl rfl rfl A7 rfl (A5 Bb) ?_
    refine A4 [12] A7 ⟨A8 ?_,trivial⟩
    refine A6 (B2 A7 (A8 ?_))
   rotate_left 1
   focus
    refine A8 ?_
    refine Ak (Ai d r8.1 r8.2.1 6 hr8.1 Az) hH hp rfl B1 rfl rfl (fun r9 hr9=>go A0 false ?_)
    conv=>whnf
    refine A6 ?_
    refine Ao A0 false 7 rfl rfl rfl A7 rfl (A5 Bb) ?_
    refine A4 [1,8] A7 ⟨?_,?_,trivial⟩
    focus
     refine A8 ?_
     refine A6 (A4 [8] A7 ⟨A8 ?_,trivial⟩)
     refine A6 (A4 [9] A7 ⟨A8 ?_,trivial⟩)
     refine A6 (A4 [10] A7 ⟨A8 ?_,trivial⟩)
     refine B6 A0 rfl rfl rfl rfl rfl rfl rfl rfl rfl rfl rfl (C5 (r.2.2.news++[⟨r8.2.2-1,r9.2.2-1,false⟩])) (Ad rfl) Bp Ac (A8 ?_)
     refine A6 ?_
     refine Ao A0 false 11 rfl rfl rfl A7 rfl (A5 Bb) ?_
     refine A4 [12] A7 ⟨A8 ?_,trivial⟩
     refine A6 (B2 A7 (A8 ?_))
    rotate_left 1
    focus
     refine A8 ?_
     refine A6 ?_
     refine A4 [1,9] A7 ⟨?_,?_,trivial⟩
     focus
      refine A8 ?_
      refine A6 (A4 [9] A7 ⟨A8 ?_,trivial⟩)
      refine A6 (A4 [10] A7 ⟨A8 ?_,trivial⟩)
      refine B6 A0 rfl rfl rfl rfl rfl rfl rfl rfl rfl rfl rfl (C5 (r.2.2.news++[⟨r8.2.2-1,r9.2.2-1,false⟩])) (Ad rfl) Bp Ac (A8 ?_)
      refine A6 ?_
      refine Ao A0 false 11 rfl rfl rfl A7 rfl (A5 Bb) ?_
      refine A4 [12] A7 ⟨A8 ?_,trivial⟩
      refine A6 (B2 A7 (A8 ?_))
     rotate_left 1
     focus
      refine A8 ?_
      refine A6 (A4 [1] A7 ⟨A8 ?_,trivial⟩)
      refine A6 (A4 [10] A7 ⟨A8 ?_,trivial⟩)
      refine B6 A0 rfl rfl rfl rfl rfl rfl rfl rfl rfl rfl rfl (C5 (r.2.2.news++[⟨r8.2.2-1,r9.2.2-1,false⟩])) (Ad rfl) Bp Ac (A8 ?_)
      refine A6 ?_
      refine Ao A0 false 11 rfl rfl rfl A7 rfl (A5 Bb) ?_
      refine A4 [12] A7 ⟨A8 ?_,trivial⟩
      refine A6 (B2 A7 (A8 ?_))
  all_goals
   exact Bu A0 (r9.1,r9.2.1,⟨r.2.2.graph,r.2.2.workers,r.2.2.links,r.2.2.tokens,r.2.2.news++[⟨r8.2.2-1,r9.2.2-1,false⟩]⟩) ⟨hr9.1,by have:=hcw;simp only [A3.w,List.length_append,List.length_cons,List.length_nil] at this ⊢;omega,ocl.1,ocl.2.1,ocl.2.2.1,ocl.2.2.2.1,⟨by rw [List.length_append];show _+1≤maxLen;simp only [maxLen];omega,J9 ocl.2.2.2.2.2 ⟨Fb (by have:=hr8.2.1;show _≤r8.2.2-1;omega) (by have:=hr8.2.2.2 Az;show r8.2.2-1≤_;omega),Fb (by have:=hr9.2.1;show _≤r9.2.2-1;omega) (by have:=hr9.2.2.2 Az;show r9.2.2-1≤_;omega)⟩⟩⟩ rfl rfl rfl rfl B1
 repeat refine Bd ?_
 refine ⟨fun c5=>?_,fun c5=>?_⟩<;>conv=>whnf
 ·refine Ak (A21 d u.1 u.2.1 hu.1) hH hp rfl B1 rfl rfl (fun r9 hr9=>go A0 false ?_)
  conv=>whnf
  have h9:=hr9.2.2
  exact Bu A0 (r9.1,r9.2.1,⟨r9.2.2,r.2.2.workers,r.2.2.links,r.2.2.tokens,r.2.2.news⟩) ⟨hr9.1,by have:=hcw;simp only [A3.w] at this ⊢;omega,hr9.2.1,ocl.2⟩ rfl rfl rfl rfl B1
 repeat refine Bd ?_
 refine ⟨fun c6=>?_,fun c6=>?_⟩<;>conv=>whnf
 ·refine B33 A0 rfl rfl rfl rfl rfl rfl rfl rfl rfl ⟨by decide,by omega⟩ Ac _ rfl (A8 ?_)
  refine Ml 8 (Bo (r.2.2.tokens.take 3)) rfl (Vp (es:=5) (e:=Cu.c) (xs:=r.2.2.tokens) (m:=3) Ac) ?_
  exact Bu A0 (u.1,u.2.1,⟨r.2.2.graph,r.2.2.workers,r.2.2.links,r.2.2.tokens.take 3,r.2.2.news⟩) ⟨hu.1,by have:=hcw;simp only [A3.w,List.length_take] at this ⊢;omega,ocl.1,ocl.2.1,ocl.2.2.1,⟨by rw [List.length_take];simp only [maxLen];omega,A7a ocl.2.2.2.1.2⟩,ocl.2.2.2.2⟩ rfl rfl rfl rfl B1
 repeat refine Bd ?_
 exact Bu A0 (u.1,u.2.1,r.2.2) ⟨hu.1,by show r.2.2.w≤7000;omega,ocl⟩ rfl rfl rfl rfl B1
theorem B7w (d:E4):Kj Tryz.prog HT 87 d.pins [] [.one (.val d.v)] (fun r:A3×Int=>A5a r.1) (fun r=>[.agg r.1.c,.one (vi r.2)]):=by
 refine Ok A0 false Tryz.func87 rfl Az fun B hH hp=>?_
 conv=>whnf
 refine Tp (Vt d) hp rfl (fun h0 _=>go A0 false ?_)
 conv=>whnf
 refine Ak (B14 d 0 h0 ⟨Int.le_refl _,Int.natCast_nonneg _⟩) hH hp rfl B1 rfl rfl (fun r hr=>go A0 false ?_)
 conv=>whnf
 refine Ak (Ai d r.1 r.2.1 6 hr.1 Az) hH hp rfl B1 rfl rfl (fun r2 hr2=>go A0 false ?_)
 conv=>whnf
 have hk9:=hr2.2.2.2 Az
 have hk8:=hr2.2.1
 (repeat refine An ?_)
 exact X6 A0 (r.2.2,r2.2.2-1) hr.2 rfl rfl B1
theorem B7v (d:E4):Kj Tryz.prog HT 47 d.pins [] [.one (.val d.v)] (fun r:A3×Int=>A5a r.1) (fun r=>[.agg r.1.c,.one (vi r.2)]):=by
 refine Ok A0 false Tryz.func47 rfl Az fun B hH hp=>?_
 conv=>whnf
 refine Oh (B7w d) hH hp rfl (fun r hr=>go A0 false ?_)
 conv=>whnf
 exact X6 A0 r hr rfl rfl B1
end Go.Proofs.YtdendlkeiaccpaaGreatDoor
