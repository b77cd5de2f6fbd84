/- Part 33 of the proof that each of the laws FnTold returns true for every input. No conditions. -/
import Derived.Test.YtdendlkeiaccpaaGreatDoorP30
import Derived.Test.YtdendlkeiaccpaaGreatDoorP32

set_option linter.unusedSimpArgs false
set_option linter.unusedVariables false
set_option maxRecDepth 100000
namespace Go.Proofs.YtdendlkeiaccpaaGreatDoor
open Go.Sx
def Yd (c:A5):Prop:=c.w≤7000∧c.ok
theorem A62 {c:A5}(h:A21 c):c.ok:=by
 have hs:=Q9 h
 obtain ⟨g,ins,pk,m,⟨hgd,hgs⟩,hin,hpk,hm,rfl⟩:=h
 have hN:=Zf hgs hin
 have hw:=hs.w
 exact B00 (A9s m (A2h (B3r (by rw [Jl hN])))) Ab
set_option maxHeartbeats 8000000 in
theorem A3c (d:Dx)(i h:Int)(hi:0≤i∧i≤d.n):Cw Tryz.prog HT 88 d.pins (d.cur i h) [] (fun r:Int×Int×A5=>(0≤r.1∧r.1≤d.n)∧Yd r.2.2) (fun r=>d.cur r.1 r.2.1) (fun r=>[.agg r.2.2.c]):=by
 refine Dn A0 false Tryz.func88 rfl Aw fun B b hH hp=>?_
 conv=>whnf
 refine Aj (A3d d i h hi) hH hp rfl Ay rfl rfl (fun r hr=>go A0 false ?_)
 conv=>whnf
 have hs:=Q9 hr.2
 have hcw:=hs.w
 have hck:=hs.k
 have hcl:=hs.l
 have hct:=hs.t
 have hcg:=hs.g
 have ocl:r.2.2.ok:=A62 hr.2
 have hwl:=A5.workers_le hcw
 have hll:=A5.links_le hcw
 have hnl:r.2.2.news.length≤r.2.2.w:=by unfold A5.w;omega
 refine Aj (Ai d r.1 r.2.1 r.2.2.workers.length hr.1 Ab) hH hp rfl Ay rfl rfl (fun t ht=>go A0 false ?_)
 conv=>whnf
 have ht2:=ht.2.2.2 Ab
 have ht3:=ht.2.1
 have htk:t.2.2.toNat<r.2.2.workers.length:=by omega
 refine Aj (Ai d t.1 t.2.1 20 ht.1 Aw) hH hp rfl Ay rfl rfl (fun u hu=>go A0 false ?_)
 conv=>whnf
 refine ⟨fun c0=>?_,fun c0=>?_⟩<;>conv=>whnf
 ·refine Fq rfl ?_
  refine Am A0 false 0 rfl rfl rfl A7 rfl (A4 B2) ?_
  refine Am A0 false 2 rfl rfl rfl A7 rfl (A4 B2) ?_
  refine Am A0 false 3 rfl rfl rfl A7 rfl (A4 B2) ?_
  refine Am A0 false 4 rfl rfl rfl A7 rfl (A4 B2) ?_
  refine A3 [1,5] A7 ⟨?_,?_,trivial⟩
  focus
   refine A8 ?_
   refine A6 (A3 [5] A7 ⟨A8 ?_,trivial⟩)
   refine A6 (A3 [6] A7 ⟨A8 ?_,trivial⟩)
   refine Aj (Lt d u.1 u.2.1 r.2.2.graph hu.1 Ab) hH hp rfl Ay rfl rfl (fun r9 hr9=>go A0 false ?_)
   conv=>whnf
   refine A6 (A3 [7] A7 ⟨A8 ?_,trivial⟩)
   (repeat refine An ?_)
   refine A6 (A3 [8] A7 ⟨A8 ?_,trivial⟩)
   refine Ao (j:=t.2.2) A0 rfl rfl rfl rfl rfl rfl rfl rfl _ (Cb (j:=t.2.2.toNat) (xs:=r.2.2.workers) (e:=A9.c) (x:=r9.2.2) htk rfl) (A8 ?_)
   refine A6 (Au A7 (A8 ?_))
  rotate_left 1
  focus
   refine A8 ?_
   refine A6 ?_
   refine A3 [1,6] A7 ⟨?_,?_,trivial⟩
   focus
    refine A8 ?_
    refine A6 (A3 [6] A7 ⟨A8 ?_,trivial⟩)
    refine Aj (Lt d u.1 u.2.1 r.2.2.graph hu.1 Ab) hH hp rfl Ay rfl rfl (fun r9 hr9=>go A0 false ?_)
    conv=>whnf
    refine A6 (A3 [7] A7 ⟨A8 ?_,trivial⟩)
    (repeat refine An ?_)
    refine A6 (A3 [8] A7 ⟨A8 ?_,trivial⟩)
    refine Ao (j:=t.2.2) A0 rfl rfl rfl rfl rfl rfl rfl rfl _ (Cb (j:=t.2.2.toNat) (xs:=r.2.2.workers) (e:=A9.c) (x:=r9.2.2) htk rfl) (A8 ?_)
    refine A6 (Au A7 (A8 ?_))
   rotate_left 1
   focus
    refine A8 ?_
    refine Aj (Lt d u.1 u.2.1 r.2.2.graph hu.1 Ab) hH hp rfl Ay rfl rfl (fun r9 hr9=>go A0 false ?_)
    conv=>whnf
    refine A6 (A3 [1] A7 ⟨A8 ?_,trivial⟩)
    refine A6 (A3 [7] A7 ⟨A8 ?_,trivial⟩)
    (repeat refine An ?_)
    refine A6 (A3 [8] A7 ⟨A8 ?_,trivial⟩)
    refine Ao (j:=t.2.2) A0 rfl rfl rfl rfl rfl rfl rfl rfl _ (Cb (j:=t.2.2.toNat) (xs:=r.2.2.workers) (e:=A9.c) (x:=r9.2.2) htk rfl) (A8 ?_)
    refine A6 (Au A7 (A8 ?_))
  all_goals
   have hsw:=Hn (c:=r.2.2) (j:=t.2.2) (w:=r9.2.2) ⟨by omega,by omega⟩
   have h9:=hr9.2.1
   exact Bl A0 (r9.1,r9.2.1,Bb r.2.2 t.2.2 r9.2.2) ⟨hr9.1,by show (Bb r.2.2 t.2.2 r9.2.2).w≤7000;omega,A7r ocl (B5s hr9.2.2 Ab)⟩ rfl rfl rfl rfl Ay
 repeat refine Bj ?_
 refine ⟨fun c1=>?_,fun c1=>?_⟩<;>conv=>whnf
 ·refine Fq rfl ?_
  refine Am A0 false 0 rfl rfl rfl A7 rfl (A4 B2) ?_
  refine Am A0 false 2 rfl rfl rfl A7 rfl (A4 B2) ?_
  refine Am A0 false 3 rfl rfl rfl A7 rfl (A4 B2) ?_
  refine Am A0 false 7 rfl rfl rfl A7 rfl (A4 B2) ?_
  refine A3 [1,4] A7 ⟨?_,?_,trivial⟩
  focus
   refine A8 ?_
   refine A6 (A3 [4] A7 ⟨A8 ?_,trivial⟩)
   refine A6 (A3 [5] A7 ⟨A8 ?_,trivial⟩)
   refine A6 (A3 [6] A7 ⟨A8 ?_,trivial⟩)
   refine Aj (Ai d u.1 u.2.1 r.2.2.links.length hu.1 Ab) hH hp rfl Ay rfl rfl (fun r8 hr8=>go A0 false ?_)
   conv=>whnf
   have hk8:=hr8.2.2.2 Ab
   have hk7:=hr8.2.1
   refine A6 (A3 [8] A7 ⟨A8 ?_,trivial⟩)
   refine Aj (Jy d r8.1 r8.2.1 hr8.1) hH hp rfl Ay rfl rfl (fun r9 hr9=>go A0 false ?_)
   conv=>whnf
   refine A6 (A3 [9] A7 ⟨A8 ?_,trivial⟩)
   (repeat refine An ?_)
   refine A6 (A3 [10] A7 ⟨A8 ?_,trivial⟩)
   refine Ao (j:=r8.2.2) A0 rfl rfl rfl rfl rfl rfl rfl rfl _ (Cb (j:=r8.2.2.toNat) (xs:=r.2.2.links) (e:=Bv.c) (x:=r9.2.2) Ab rfl) (A8 ?_)
   refine A6 (Au A7 (A8 ?_))
  rotate_left 1
  focus
   refine A8 ?_
   refine A6 ?_
   refine A3 [1,5] A7 ⟨?_,?_,trivial⟩
   focus
    refine A8 ?_
    refine A6 (A3 [5] A7 ⟨A8 ?_,trivial⟩)
    refine A6 (A3 [6] A7 ⟨A8 ?_,trivial⟩)
    refine Aj (Ai d u.1 u.2.1 r.2.2.links.length hu.1 Ab) hH hp rfl Ay rfl rfl (fun r8 hr8=>go A0 false ?_)
    conv=>whnf
    have hk8:=hr8.2.2.2 Ab
    have hk7:=hr8.2.1
    refine A6 (A3 [8] A7 ⟨A8 ?_,trivial⟩)
    refine Aj (Jy d r8.1 r8.2.1 hr8.1) hH hp rfl Ay rfl rfl (fun r9 hr9=>go A0 false ?_)
    conv=>whnf
    refine A6 (A3 [9] A7 ⟨A8 ?_,trivial⟩)
    (repeat refine An ?_)
    refine A6 (A3 [10] A7 ⟨A8 ?_,trivial⟩)
    refine Ao (j:=r8.2.2) A0 rfl rfl rfl rfl rfl rfl rfl rfl _ (Cb (j:=r8.2.2.toNat) (xs:=r.2.2.links) (e:=Bv.c) (x:=r9.2.2) Ab rfl) (A8 ?_)
    refine A6 (Au A7 (A8 ?_))
   rotate_left 1
   focus
    refine A8 ?_
    refine A6 ?_
    refine A3 [1,6] A7 ⟨?_,?_,trivial⟩
    focus
     refine A8 ?_
     refine A6 (A3 [6] A7 ⟨A8 ?_,trivial⟩)
     refine Aj (Ai d u.1 u.2.1 r.2.2.links.length hu.1 Ab) hH hp rfl Ay rfl rfl (fun r8 hr8=>go A0 false ?_)
     conv=>whnf
     have hk8:=hr8.2.2.2 Ab
     have hk7:=hr8.2.1
     refine A6 (A3 [8] A7 ⟨A8 ?_,trivial⟩)
     refine Aj (Jy d r8.1 r8.2.1 hr8.1) hH hp rfl Ay rfl rfl (fun r9 hr9=>go A0 false ?_)
     conv=>whnf
     refine A6 (A3 [9] A7 ⟨A8 ?_,trivial⟩)
     (repeat refine An ?_)
     refine A6 (A3 [10] A7 ⟨A8 ?_,trivial⟩)
     refine Ao (j:=r8.2.2) A0 rfl rfl rfl rfl rfl rfl rfl rfl _ (Cb (j:=r8.2.2.toNat) (xs:=r.2.2.links) (e:=Bv.c) (x:=r9.2.2) Ab rfl) (A8 ?_)
     refine A6 (Au A7 (A8 ?_))
    rotate_left 1
    focus
     refine A8 ?_
     refine Aj (Ai d u.1 u.2.1 r.2.2.links.length hu.1 Ab) hH hp rfl Ay rfl rfl (fun r8 hr8=>go A0 false ?_)
     conv=>whnf
     have hk8:=hr8.2.2.2 Ab
     have hk7:=hr8.2.1
     refine A6 ?_
     refine A3 [1,8] A7 ⟨?_,?_,trivial⟩
     focus
      refine A8 ?_
      refine A6 (A3 [8] A7 ⟨A8 ?_,trivial⟩)
      refine Aj (Jy d r8.1 r8.2.1 hr8.1) hH hp rfl Ay rfl rfl (fun r9 hr9=>go A0 false ?_)
      conv=>whnf
      refine A6 (A3 [9] A7 ⟨A8 ?_,trivial⟩)
      (repeat refine An ?_)
      refine A6 (A3 [10] A7 ⟨A8 ?_,trivial⟩)
      refine Ao (j:=r8.2.2) A0 rfl rfl rfl rfl rfl rfl rfl rfl _ (Cb (j:=r8.2.2.toNat) (xs:=r.2.2.links) (e:=Bv.c) (x:=r9.2.2) Ab rfl) (A8 ?_)
      refine A6 (Au A7 (A8 ?_))
     rotate_left 1
     focus
      refine A8 ?_
      refine Aj (Jy d r8.1 r8.2.1 hr8.1) hH hp rfl Ay rfl rfl (fun r9 hr9=>go A0 false ?_)
      conv=>whnf
      refine A6 (A3 [1] A7 ⟨A8 ?_,trivial⟩)
      refine A6 (A3 [9] A7 ⟨A8 ?_,trivial⟩)
      (repeat refine An ?_)
      refine A6 (A3 [10] A7 ⟨A8 ?_,trivial⟩)
      refine Ao (j:=r8.2.2) A0 rfl rfl rfl rfl rfl rfl rfl rfl _ (Cb (j:=r8.2.2.toNat) (xs:=r.2.2.links) (e:=Bv.c) (x:=r9.2.2) Ab rfl) (A8 ?_)
      refine A6 (Au A7 (A8 ?_))
  all_goals
   have hsw:=Qx (c:=r.2.2) (k:=r8.2.2) (l:=r9.2.2) ⟨by omega,by omega⟩
   have h9:r9.2.2.w≤10:=hr9.2.1
   exact Bl A0 (r9.1,r9.2.1,Cd r.2.2 r8.2.2 r9.2.2) ⟨hr9.1,by show (Cd r.2.2 r8.2.2 r9.2.2).w≤7000;omega,A7q ocl (B5r hr9.2.2 (by have:=hr9.2.1;omega))⟩ rfl rfl rfl rfl Ay
 repeat refine Bj ?_
 refine ⟨fun c2=>?_,fun c2=>?_⟩<;>conv=>whnf
 ·refine Fq rfl ?_
  refine Am A0 false 0 rfl rfl rfl A7 rfl (A4 B2) ?_
  refine Am A0 false 2 rfl rfl rfl A7 rfl (A4 B2) ?_
  refine Am A0 false 4 rfl rfl rfl A7 rfl (A4 B2) ?_
  refine A3 [1,3] A7 ⟨?_,?_,trivial⟩
  focus
   refine A8 ?_
   refine A6 (A3 [3] A7 ⟨A8 ?_,trivial⟩)
   refine Aj (Ai d u.1 u.2.1 4 hu.1 Aw) hH hp rfl Ay rfl rfl (fun r8 hr8=>go A0 false ?_)
   conv=>whnf
   have hk8:=hr8.2.2.2 Aw
   have hk7:=hr8.2.1
   refine A6 (A3 [5] A7 ⟨A8 ?_,trivial⟩)
   refine Aj (Ai d r8.1 r8.2.1 6 hr8.1 Aw) hH hp rfl Ay rfl rfl (fun r9 hr9=>go A0 false ?_)
   conv=>whnf
   refine A6 ?_
   refine Am A0 false 6 rfl rfl rfl A7 rfl (A4 B2) ?_
   refine A3 [7] A7 ⟨A8 ?_,trivial⟩
   (repeat refine An ?_)
   refine A6 ?_
   refine Am A0 false 8 rfl rfl rfl A7 rfl (A4 B2) ?_
   refine A3 [9] A7 ⟨A8 ?_,trivial⟩
   refine Ao (j:=r8.2.2) A0 rfl rfl rfl rfl rfl rfl rfl rfl _ (Cb (j:=r8.2.2.toNat) (xs:=r.2.2.tokens) (e:=D0.c) (x:=⟨(r.2.2.tokens.getD r8.2.2.toNat default).going,r9.2.2-1,(r.2.2.tokens.getD r8.2.2.toNat default).sum,(r.2.2.tokens.getD r8.2.2.toNat default).black,(r.2.2.tokens.getD r8.2.2.toNat default).capped⟩) Ab rfl) (A8 ?_)
   refine A6 (Au A7 (A8 ?_))
  rotate_left 1
  focus
   refine A8 ?_
   refine Aj (Ai d u.1 u.2.1 4 hu.1 Aw) hH hp rfl Ay rfl rfl (fun r8 hr8=>go A0 false ?_)
   conv=>whnf
   have hk8:=hr8.2.2.2 Aw
   have hk7:=hr8.2.1
   refine A6 ?_
   refine A3 [1,5] A7 ⟨?_,?_,trivial⟩
   focus
    refine A8 ?_
    refine A6 (A3 [5] A7 ⟨A8 ?_,trivial⟩)
    refine Aj (Ai d r8.1 r8.2.1 6 hr8.1 Aw) hH hp rfl Ay rfl rfl (fun r9 hr9=>go A0 false ?_)
    conv=>whnf
    refine A6 ?_
    refine Am A0 false 6 rfl rfl rfl A7 rfl (A4 B2) ?_
    refine A3 [7] A7 ⟨A8 ?_,trivial⟩
    (repeat refine An ?_)
    refine A6 ?_
    refine Am A0 false 8 rfl rfl rfl A7 rfl (A4 B2) ?_
    refine A3 [9] A7 ⟨A8 ?_,trivial⟩
    refine Ao (j:=r8.2.2) A0 rfl rfl rfl rfl rfl rfl rfl rfl _ (Cb (j:=r8.2.2.toNat) (xs:=r.2.2.tokens) (e:=D0.c) (x:=⟨(r.2.2.tokens.getD r8.2.2.toNat default).going,r9.2.2-1,(r.2.2.tokens.getD r8.2.2.toNat default).sum,(r.2.2.tokens.getD r8.2.2.toNat default).black,(r.2.2.tokens.getD r8.2.2.toNat default).capped⟩) Ab rfl) (A8 ?_)
    refine A6 (Au A7 (A8 ?_))
   rotate_left 1
   focus
    refine A8 ?_
    refine Aj (Ai d r8.1 r8.2.1 6 hr8.1 Aw) hH hp rfl Ay rfl rfl (fun r9 hr9=>go A0 false ?_)
    conv=>whnf
    refine A6 ?_
    refine Am A0 false 6 rfl rfl rfl A7 rfl (A4 B2) ?_
    refine A3 [1] A7 ⟨A8 ?_,trivial⟩
    refine A6 (A3 [7] A7 ⟨A8 ?_,trivial⟩)
    (repeat refine An ?_)
    refine A6 ?_
    refine Am A0 false 8 rfl rfl rfl A7 rfl (A4 B2) ?_
    refine A3 [9] A7 ⟨A8 ?_,trivial⟩
    refine Ao (j:=r8.2.2) A0 rfl rfl rfl rfl rfl rfl rfl rfl _ (Cb (j:=r8.2.2.toNat) (xs:=r.2.2.tokens) (e:=D0.c) (x:=⟨(r.2.2.tokens.getD r8.2.2.toNat default).going,r9.2.2-1,(r.2.2.tokens.getD r8.2.2.toNat default).sum,(r.2.2.tokens.getD r8.2.2.toNat default).black,(r.2.2.tokens.getD r8.2.2.toNat default).capped⟩) Ab rfl) (A8 ?_)
    refine A6 (Au A7 (A8 ?_))
  all_goals
   have hsw:=Lg (c:=r.2.2) (e:=r8.2.2) (t:=⟨(r.2.2.tokens.getD r8.2.2.toNat default).going,r9.2.2-1,(r.2.2.tokens.getD r8.2.2.toNat default).sum,(r.2.2.tokens.getD r8.2.2.toNat default).black,(r.2.2.tokens.getD r8.2.2.toNat default).capped⟩)
   exact Bl A0 (r9.1,r9.2.1,Da r.2.2 r8.2.2 ⟨(r.2.2.tokens.getD r8.2.2.toNat default).going,r9.2.2-1,(r.2.2.tokens.getD r8.2.2.toNat default).sum,(r.2.2.tokens.getD r8.2.2.toNat default).black,(r.2.2.tokens.getD r8.2.2.toNat default).capped⟩) ⟨hr9.1,by show (Da r.2.2 r8.2.2 ⟨(r.2.2.tokens.getD r8.2.2.toNat default).going,r9.2.2-1,(r.2.2.tokens.getD r8.2.2.toNat default).sum,(r.2.2.tokens.getD r8.2.2.toNat default).black,(r.2.2.tokens.getD r8.2.2.toNat default).capped⟩).w≤7000;omega,Xu ocl ⟨E6 (by have:=hr9.2.1;show _≤r9.2.2-1;omega) (by have:=hr9.2.2.2 Aw;show r9.2.2-1≤_;omega),(A2x ocl Ab).2⟩⟩ rfl rfl rfl rfl Ay
 repeat refine Bj ?_
 refine ⟨fun c3=>?_,fun c3=>?_⟩<;>conv=>whnf
 ·refine Fq rfl ?_
  refine Am A0 false 0 rfl rfl rfl A7 rfl (A4 B2) ?_
  refine Am A0 false 2 rfl rfl rfl A7 rfl (A4 B2) ?_
  refine A3 [1,3] A7 ⟨?_,?_,trivial⟩
  focus
   refine A8 ?_
   refine A6 (A3 [3] A7 ⟨A8 ?_,trivial⟩)
   refine A6 (A3 [4] A7 ⟨A8 ?_,trivial⟩)
   refine Ev 8 (At [1000000,1000001,-1000001,3]) rfl (Bd rfl (by repeat' (first|exact trivial|exact rfl|refine ⟨?_,?_⟩))) ?_
   refine Aj (Cn d u.1 u.2.1 [1000000,1000001,-1000001,3] hu.1 Aw) hH hp rfl Ay rfl rfl (fun r9 hr9=>go A0 false ?_)
   conv=>whnf
   refine A6 (A3 [5] A7 ⟨A8 ?_,trivial⟩)
   (repeat refine An ?_)
   refine A6 ?_
   refine Am A0 false 6 rfl rfl rfl A7 rfl (A4 B2) ?_
   refine A3 [7] A7 ⟨A8 ?_,trivial⟩
   refine Ao (j:=0) A0 rfl rfl rfl rfl rfl rfl rfl rfl _ (Cb (j:=0) (xs:=r.2.2.tokens) (e:=D0.c) (x:=⟨(r.2.2.tokens.getD 0 default).going,(r.2.2.tokens.getD 0 default).at_,[1000000,1000001,-1000001,3].getD r9.2.2 0,(r.2.2.tokens.getD 0 default).black,(r.2.2.tokens.getD 0 default).capped⟩) Ab rfl) (A8 ?_)
   refine A6 (Au A7 (A8 ?_))
  rotate_left 1
  focus
   refine A8 ?_
   refine A6 ?_
   refine A3 [1,4] A7 ⟨?_,?_,trivial⟩
   focus
    refine A8 ?_
    refine A6 (A3 [4] A7 ⟨A8 ?_,trivial⟩)
    refine Ev 8 (At [1000000,1000001,-1000001,3]) rfl (Bd rfl (by repeat' (first|exact trivial|exact rfl|refine ⟨?_,?_⟩))) ?_
    refine Aj (Cn d u.1 u.2.1 [1000000,1000001,-1000001,3] hu.1 Aw) hH hp rfl Ay rfl rfl (fun r9 hr9=>go A0 false ?_)
    conv=>whnf
    refine A6 (A3 [5] A7 ⟨A8 ?_,trivial⟩)
    (repeat refine An ?_)
    refine A6 ?_
    refine Am A0 false 6 rfl rfl rfl A7 rfl (A4 B2) ?_
    refine A3 [7] A7 ⟨A8 ?_,trivial⟩
    refine Ao (j:=0) A0 rfl rfl rfl rfl rfl rfl rfl rfl _ (Cb (j:=0) (xs:=r.2.2.tokens) (e:=D0.c) (x:=⟨(r.2.2.tokens.getD 0 default).going,(r.2.2.tokens.getD 0 default).at_,[1000000,1000001,-1000001,3].getD r9.2.2 0,(r.2.2.tokens.getD 0 default).black,(r.2.2.tokens.getD 0 default).capped⟩) Ab rfl) (A8 ?_)
    refine A6 (Au A7 (A8 ?_))
   rotate_left 1
   focus
    refine A8 ?_
    refine Ev 8 (At [1000000,1000001,-1000001,3]) rfl (Bd rfl (by repeat' (first|exact trivial|exact rfl|refine ⟨?_,?_⟩))) ?_
    refine Aj (Cn d u.1 u.2.1 [1000000,1000001,-1000001,3] hu.1 Aw) hH hp rfl Ay rfl rfl (fun r9 hr9=>go A0 false ?_)
    conv=>whnf
    refine A6 (A3 [1] A7 ⟨A8 ?_,trivial⟩)
    refine A6 (A3 [5] A7 ⟨A8 ?_,trivial⟩)
    (repeat refine An ?_)
    refine A6 ?_
    refine Am A0 false 6 rfl rfl rfl A7 rfl (A4 B2) ?_
    refine A3 [7] A7 ⟨A8 ?_,trivial⟩
    refine Ao (j:=0) A0 rfl rfl rfl rfl rfl rfl rfl rfl _ (Cb (j:=0) (xs:=r.2.2.tokens) (e:=D0.c) (x:=⟨(r.2.2.tokens.getD 0 default).going,(r.2.2.tokens.getD 0 default).at_,[1000000,1000001,-1000001,3].getD r9.2.2 0,(r.2.2.tokens.getD 0 default).black,(r.2.2.tokens.getD 0 default).capped⟩) Ab rfl) (A8 ?_)
    refine A6 (Au A7 (A8 ?_))
  all_goals
   have hsw:=Lg (c:=r.2.2) (e:=0) (t:=⟨(r.2.2.tokens.getD 0 default).going,(r.2.2.tokens.getD 0 default).at_,[1000000,1000001,-1000001,3].getD r9.2.2 0,(r.2.2.tokens.getD 0 default).black,(r.2.2.tokens.getD 0 default).capped⟩)
   exact Bl A0 (r9.1,r9.2.1,Da r.2.2 0 ⟨(r.2.2.tokens.getD 0 default).going,(r.2.2.tokens.getD 0 default).at_,[1000000,1000001,-1000001,3].getD r9.2.2 0,(r.2.2.tokens.getD 0 default).black,(r.2.2.tokens.getD 0 default).capped⟩) ⟨hr9.1,by show (Da r.2.2 0 ⟨(r.2.2.tokens.getD 0 default).going,(r.2.2.tokens.getD 0 default).at_,[1000000,1000001,-1000001,3].getD r9.2.2 0,(r.2.2.tokens.getD 0 default).black,(r.2.2.tokens.getD 0 default).capped⟩).w≤7000;omega,Xu ocl ⟨(A2x ocl Ab).1,Fs _ _ (by intro x hx;simp only [List.mem_cons,List.not_mem_nil,or_false] at hx;show _∧_;omega)⟩⟩ rfl rfl rfl rfl Ay
 repeat refine Bj ?_
 refine ⟨fun c4=>?_,fun c4=>?_⟩<;>conv=>whnf
 ·refine Fq rfl ?_
  refine Am A0 false 0 rfl rfl rfl A7 rfl (A4 B2) ?_
  refine Am A0 false 2 rfl rfl rfl A7 rfl (A4 B2) ?_
  refine Am A0 false 5 rfl rfl rfl A7 rfl (A4 B2) ?_
  refine A3 [1,3] A7 ⟨?_,?_,trivial⟩
  focus
   refine A8 ?_
   refine A6 (A3 [3] A7 ⟨A8 ?_,trivial⟩)
   refine Aj (Ai d u.1 u.2.1 6 hu.1 Aw) hH hp rfl Ay rfl rfl (fun r8 hr8=>go A0 false ?_)
   conv=>whnf
   refine A6 ?_
   refine Am A0 false 4 rfl rfl rfl A7 rfl (A4 B2) ?_
   refine A3 [6] A7 ⟨A8 ?_,trivial⟩
   refine Aj (Ai d r8.1 r8.2.1 6 hr8.1 Aw) hH hp rfl Ay rfl rfl (fun r9 hr9=>go A0 false ?_)
   conv=>whnf
   refine A6 ?_
   refine Am A0 false 7 rfl rfl rfl A7 rfl (A4 B2) ?_
   refine A3 [8] A7 ⟨A8 ?_,trivial⟩
   refine A6 (A3 [9] A7 ⟨A8 ?_,trivial⟩)
   refine A6 (A3 [10] A7 ⟨A8 ?_,trivial⟩)
   refine B1 A0 rfl rfl rfl rfl rfl rfl rfl rfl rfl rfl rfl (Cj (r.2.2.news++[⟨r8.2.2-1,r9.2.2-1,false⟩])) (Aa rfl) Bg Ab (A8 ?_)
   refine A6 ?_
   refine Am A0 false 11 rfl rfl rfl A7 rfl (A4 B2) ?_
   refine A3 [12] A7 ⟨A8 ?_,trivial⟩
   refine A6 (Au A7 (A8 ?_))
  rotate_left 1
  focus
   refine A8 ?_
   refine Aj (Ai d u.1 u.2.1 6 hu.1 Aw) hH hp rfl Ay rfl rfl (fun r8 hr8=>go A0 false ?_)
   conv=>whnf
   refine A6 ?_
   refine Am A0 false 4 rfl rfl rfl A7 rfl (A4 B2) ?_
   refine A3 [1,6] A7 ⟨?_,?_,trivial⟩
   focus
    refine A8 ?_
    refine A6 (A3 [6] A7 ⟨A8 ?_,trivial⟩)
    refine Aj (Ai d r8.1 r8.2.1 6 hr8.1 Aw) hH hp rfl Ay rfl rfl (fun r9 hr9=>go A0 false ?_)
    conv=>whnf
    refine A6 ?_
    refine Am A0 false 7 rfl rfl rfl A7 rfl (A4 B2) ?_
    refine A3 [8] A7 ⟨A8 ?_,trivial⟩
    refine A6 (A3 [9] A7 ⟨A8 ?_,trivial⟩)
    refine A6 (A3 [10] A7 ⟨A8 ?_,trivial⟩)
    refine B1 A0 rfl rfl rfl rfl rfl rfl rfl rfl rfl rfl rfl (Cj (r.2.2.news++[⟨r8.2.2-1,r9.2.2-1,false⟩])) (Aa rfl) Bg Ab (A8 ?_)
    refine A6 ?_
    refine Am A0 false 11 rfl rfl rfl A7 rfl (A4 B2) ?_
    refine A3 [12] A7 ⟨A8 ?_,trivial⟩
    refine A6 (Au A7 (A8 ?_))
   rotate_left 1
   focus
    refine A8 ?_
    refine Aj (Ai d r8.1 r8.2.1 6 hr8.1 Aw) hH hp rfl Ay rfl rfl (fun r9 hr9=>go A0 false ?_)
    conv=>whnf
    refine A6 ?_
    refine Am A0 false 7 rfl rfl rfl A7 rfl (A4 B2) ?_
    refine A3 [1,8] A7 ⟨?_,?_,trivial⟩
    focus
     refine A8 ?_
     refine A6 (A3 [8] A7 ⟨A8 ?_,trivial⟩)
     refine A6 (A3 [9] A7 ⟨A8 ?_,trivial⟩)
     refine A6 (A3 [10] A7 ⟨A8 ?_,trivial⟩)
     refine B1 A0 rfl rfl rfl rfl rfl rfl rfl rfl rfl rfl rfl (Cj (r.2.2.news++[⟨r8.2.2-1,r9.2.2-1,false⟩])) (Aa rfl) Bg Ab (A8 ?_)
     refine A6 ?_
     refine Am A0 false 11 rfl rfl rfl A7 rfl (A4 B2) ?_
     refine A3 [12] A7 ⟨A8 ?_,trivial⟩
     refine A6 (Au A7 (A8 ?_))
    rotate_left 1
    focus
     refine A8 ?_
     refine A6 ?_
     refine A3 [1,9] A7 ⟨?_,?_,trivial⟩
     focus
      refine A8 ?_
      refine A6 (A3 [9] A7 ⟨A8 ?_,trivial⟩)
      refine A6 (A3 [10] A7 ⟨A8 ?_,trivial⟩)
      refine B1 A0 rfl rfl rfl rfl rfl rfl rfl rfl rfl rfl rfl (Cj (r.2.2.news++[⟨r8.2.2-1,r9.2.2-1,false⟩])) (Aa rfl) Bg Ab (A8 ?_)
      refine A6 ?_
      refine Am A0 false 11 rfl rfl rfl A7 rfl (A4 B2) ?_
      refine A3 [12] A7 ⟨A8 ?_,trivial⟩
      refine A6 (Au A7 (A8 ?_))
     rotate_left 1
     focus
      refine A8 ?_
      refine A6 (A3 [1] A7 ⟨A8 ?_,trivial⟩)
      refine A6 (A3 [10] A7 ⟨A8 ?_,trivial⟩)
      refine B1 A0 rfl rfl rfl rfl rfl rfl rfl rfl rfl rfl rfl (Cj (r.2.2.news++[⟨r8.2.2-1,r9.2.2-1,false⟩])) (Aa rfl) Bg Ab (A8 ?_)
      refine A6 ?_
      refine Am A0 false 11 rfl rfl rfl A7 rfl (A4 B2) ?_
      refine A3 [12] A7 ⟨A8 ?_,trivial⟩
      refine A6 (Au A7 (A8 ?_))
  all_goals
   exact Bl A0 (r9.1,r9.2.1,⟨r.2.2.graph,r.2.2.workers,r.2.2.links,r.2.2.tokens,r.2.2.news++[⟨r8.2.2-1,r9.2.2-1,false⟩]⟩) ⟨hr9.1,by have:=hcw;simp only [A5.w,List.length_append,List.length_cons,List.length_nil] at this ⊢;omega,ocl.1,ocl.2.1,ocl.2.2.1,ocl.2.2.2.1,⟨by rw [List.length_append];show _+1≤maxLen;simp only [maxLen];omega,I6 ocl.2.2.2.2.2 ⟨E6 (by have:=hr8.2.1;show _≤r8.2.2-1;omega) (by have:=hr8.2.2.2 Aw;show r8.2.2-1≤_;omega),E6 (by have:=hr9.2.1;show _≤r9.2.2-1;omega) (by have:=hr9.2.2.2 Aw;show r9.2.2-1≤_;omega)⟩⟩⟩ rfl rfl rfl rfl Ay
 repeat refine Bj ?_
 refine ⟨fun c5=>?_,fun c5=>?_⟩<;>conv=>whnf
 ·refine Aj (A02 d u.1 u.2.1 hu.1) hH hp rfl Ay rfl rfl (fun r9 hr9=>go A0 false ?_)
  conv=>whnf
  have h9:=hr9.2.2
  exact Bl A0 (r9.1,r9.2.1,⟨r9.2.2,r.2.2.workers,r.2.2.links,r.2.2.tokens,r.2.2.news⟩) ⟨hr9.1,by have:=hcw;simp only [A5.w] at this ⊢;omega,hr9.2.1,ocl.2⟩ rfl rfl rfl rfl Ay
 repeat refine Bj ?_
 refine ⟨fun c6=>?_,fun c6=>?_⟩<;>conv=>whnf
 ·refine B1e A0 rfl rfl rfl rfl rfl rfl rfl rfl rfl ⟨by decide,by omega⟩ Ab _ rfl (A8 ?_)
  refine L9 8 (C9 (r.2.2.tokens.take 3)) rfl (Tv (es:=5) (e:=D0.c) (xs:=r.2.2.tokens) (m:=3) Ab) ?_
  exact Bl A0 (u.1,u.2.1,⟨r.2.2.graph,r.2.2.workers,r.2.2.links,r.2.2.tokens.take 3,r.2.2.news⟩) ⟨hu.1,by have:=hcw;simp only [A5.w,List.length_take] at this ⊢;omega,ocl.1,ocl.2.1,ocl.2.2.1,⟨by rw [List.length_take];simp only [maxLen];omega,A40 ocl.2.2.2.1.2⟩,ocl.2.2.2.2⟩ rfl rfl rfl rfl Ay
 repeat refine Bj ?_
 exact Bl A0 (u.1,u.2.1,r.2.2) ⟨hu.1,by show r.2.2.w≤7000;omega,ocl⟩ rfl rfl rfl rfl Ay
theorem B5b (d:Dx):Jb Tryz.prog HT 69 d.pins [] [.one (.val d.v)] (fun r:A5×Int=>Yd r.1) (fun r=>[.agg r.1.c,.one (vi r.2)]):=by
 refine N5 A0 false Tryz.func69 rfl Aw fun B hH hp=>?_
 conv=>whnf
 refine X7 (Yr d) hp rfl (fun h0 _=>go A0 false ?_)
 conv=>whnf
 refine Aj (A3c d 0 h0 ⟨Int.le_refl _,Int.natCast_nonneg _⟩) hH hp rfl Ay rfl rfl (fun r hr=>go A0 false ?_)
 conv=>whnf
 refine Ev 7 (At [0,0,1,1,2,3,-1,9223372036854775807]) rfl (Bd rfl Cf) ?_
 refine Aj (Cn d r.1 r.2.1 [0,0,1,1,2,3,-1,9223372036854775807] hr.1 Aw) hH hp rfl Ay rfl rfl (fun r2 hr2=>go A0 false ?_)
 conv=>whnf
 exact Vc A0 (r.2.2,[0,0,1,1,2,3,-1,9223372036854775807].getD r2.2.2 0) hr.2 rfl rfl Ay
def A8l (c:A5):Prop:=c.w≤70000∧c.ok
theorem A80 {c:A5}(n:Nat)(hn:n≤300)(h:Yd c):A8l (Dt n c).1:=by
 have:=Xc n c
 have h1:=h.1
 exact ⟨by omega,A9r n h.2 Ab⟩
theorem B2o {c:A5}(h:Yd c):A8l c:=⟨Nat.le_trans h.1 Aw,h.2⟩
end Go.Proofs.YtdendlkeiaccpaaGreatDoor
