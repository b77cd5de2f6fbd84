/- Part 34 of the proof that each of the laws FnTotals returns true for every input. No conditions. -/
import Derived.Test.YtdendlkeiaccpaaGreatP31
import Derived.Test.YtdendlkeiaccpaaGreatP33

set_option linter.unusedSimpArgs false
set_option linter.unusedVariables false
set_option maxRecDepth 100000
namespace Go.Proofs.YtdendlkeiaccpaaGreat
open Go.Sx
def B34 (c:A6):Prop:=c.w≤7000∧c.ok
theorem A58 {c:A6}(h:A18 c):c.ok:=by
 have hs:=Pw h
 obtain ⟨g,ins,pk,m,⟨hgd,hgs⟩,hin,hpk,hm,rfl⟩:=h
 have hN:=Yo hgs hin
 have hw:=hs.w
 exact B4r (A83 m (A1m (B2u (by rw [Jm hN])))) Ab
set_option maxHeartbeats 8000000 in
theorem B4b (d:Dy)(i h:Int)(hi:0≤i∧i≤d.n):Cr Tryz.prog HT 54 d.pins (d.cur i h) [] (fun r:Int×Int×A6=>(0≤r.1∧r.1≤d.n)∧B34 r.2.2) (fun r=>d.cur r.1 r.2.1) (fun r=>[.agg r.2.2.c]):=by
 refine Df A0 false Tryz.func54 rfl Aw fun B b hH hp=>?_
 conv=>whnf
 refine Ai (A2k d i h hi) hH hp rfl At rfl rfl (fun r hr=>go A0 false ?_)
 conv=>whnf
 have hs:=Pw hr.2
 have hcw:=hs.w
 have hck:=hs.k
 have hcl:=hs.l
 have hct:=hs.t
 have hcg:=hs.g
 have ocl:r.2.2.ok:=A58 hr.2
 have hwl:=A6.workers_le hcw
 have hll:=A6.links_le hcw
 have hnl:r.2.2.news.length≤r.2.2.w:=by unfold A6.w;omega
 refine Ai (Ah d r.1 r.2.1 r.2.2.workers.length hr.1 Ab) hH hp rfl At rfl rfl (fun t ht=>go A0 false ?_)
 conv=>whnf
 have ht2:=ht.2.2.2 Ab
 have ht3:=ht.2.1
 have htk:t.2.2.toNat<r.2.2.workers.length:=by omega
 refine Ai (Ah d t.1 t.2.1 20 ht.1 Aw) hH hp rfl At rfl rfl (fun u hu=>go A0 false ?_)
 conv=>whnf
 refine ⟨fun c0=>?_,fun c0=>?_⟩<;>conv=>whnf
 ·refine Fk rfl ?_
  refine Aj A0 false 0 rfl rfl rfl A7 rfl (A4 B1) ?_
  refine Aj A0 false 2 rfl rfl rfl A7 rfl (A4 B1) ?_
  refine Aj A0 false 3 rfl rfl rfl A7 rfl (A4 B1) ?_
  refine Aj A0 false 4 rfl rfl rfl A7 rfl (A4 B1) ?_
  refine A3 [1,5] A7 ⟨?_,?_,trivial⟩
  focus
   refine A8 ?_
   refine A5 (A3 [5] A7 ⟨A8 ?_,trivial⟩)
   refine A5 (A3 [6] A7 ⟨A8 ?_,trivial⟩)
   refine Ai (Lr d u.1 u.2.1 r.2.2.graph hu.1 Ab) hH hp rfl At rfl rfl (fun r9 hr9=>go A0 false ?_)
   conv=>whnf
   refine A5 (A3 [7] A7 ⟨A8 ?_,trivial⟩)
   (repeat refine Am ?_)
   refine A5 (A3 [8] A7 ⟨A8 ?_,trivial⟩)
   refine Al (j:=t.2.2) A0 rfl rfl rfl rfl rfl rfl rfl rfl _ (C0 (j:=t.2.2.toNat) (xs:=r.2.2.workers) (e:=Ac.c) (x:=r9.2.2) htk rfl) (A8 ?_)
   refine A5 (Aq A7 (A8 ?_))
  rotate_left 1
  focus
   refine A8 ?_
   refine A5 ?_
   refine A3 [1,6] A7 ⟨?_,?_,trivial⟩
   focus
    refine A8 ?_
    refine A5 (A3 [6] A7 ⟨A8 ?_,trivial⟩)
    refine Ai (Lr d u.1 u.2.1 r.2.2.graph hu.1 Ab) hH hp rfl At rfl rfl (fun r9 hr9=>go A0 false ?_)
    conv=>whnf
    refine A5 (A3 [7] A7 ⟨A8 ?_,trivial⟩)
    (repeat refine Am ?_)
    refine A5 (A3 [8] A7 ⟨A8 ?_,trivial⟩)
    refine Al (j:=t.2.2) A0 rfl rfl rfl rfl rfl rfl rfl rfl _ (C0 (j:=t.2.2.toNat) (xs:=r.2.2.workers) (e:=Ac.c) (x:=r9.2.2) htk rfl) (A8 ?_)
    refine A5 (Aq A7 (A8 ?_))
   rotate_left 1
   focus
    refine A8 ?_
    refine Ai (Lr d u.1 u.2.1 r.2.2.graph hu.1 Ab) hH hp rfl At rfl rfl (fun r9 hr9=>go A0 false ?_)
    conv=>whnf
    refine A5 (A3 [1] A7 ⟨A8 ?_,trivial⟩)
    refine A5 (A3 [7] A7 ⟨A8 ?_,trivial⟩)
    (repeat refine Am ?_)
    refine A5 (A3 [8] A7 ⟨A8 ?_,trivial⟩)
    refine Al (j:=t.2.2) A0 rfl rfl rfl rfl rfl rfl rfl rfl _ (C0 (j:=t.2.2.toNat) (xs:=r.2.2.workers) (e:=Ac.c) (x:=r9.2.2) htk rfl) (A8 ?_)
    refine A5 (Aq A7 (A8 ?_))
  all_goals
   have hsw:=Hd (c:=r.2.2) (j:=t.2.2) (w:=r9.2.2) ⟨by omega,by omega⟩
   have h9:=hr9.2.1
   exact Bm A0 (r9.1,r9.2.1,Bc r.2.2 t.2.2 r9.2.2) ⟨hr9.1,by show (Bc r.2.2 t.2.2 r9.2.2).w≤7000;omega,A6y ocl (B4s hr9.2.2 Ab)⟩ rfl rfl rfl rfl At
 repeat refine B7 ?_
 refine ⟨fun c1=>?_,fun c1=>?_⟩<;>conv=>whnf
 ·refine Fk rfl ?_
  refine Aj A0 false 0 rfl rfl rfl A7 rfl (A4 B1) ?_
  refine Aj A0 false 2 rfl rfl rfl A7 rfl (A4 B1) ?_
  refine Aj A0 false 3 rfl rfl rfl A7 rfl (A4 B1) ?_
  refine Aj A0 false 7 rfl rfl rfl A7 rfl (A4 B1) ?_
  refine A3 [1,4] A7 ⟨?_,?_,trivial⟩
  focus
   refine A8 ?_
   refine A5 (A3 [4] A7 ⟨A8 ?_,trivial⟩)
   refine A5 (A3 [5] A7 ⟨A8 ?_,trivial⟩)
   refine A5 (A3 [6] A7 ⟨A8 ?_,trivial⟩)
   refine Ai (Ah d u.1 u.2.1 r.2.2.links.length hu.1 Ab) hH hp rfl At rfl rfl (fun r8 hr8=>go A0 false ?_)
   conv=>whnf
   have hk8:=hr8.2.2.2 Ab
   have hk7:=hr8.2.1
   refine A5 (A3 [8] A7 ⟨A8 ?_,trivial⟩)
   refine Ai (Jv d r8.1 r8.2.1 hr8.1) hH hp rfl At rfl rfl (fun r9 hr9=>go A0 false ?_)
   conv=>whnf
   refine A5 (A3 [9] A7 ⟨A8 ?_,trivial⟩)
   (repeat refine Am ?_)
   refine A5 (A3 [10] A7 ⟨A8 ?_,trivial⟩)
   refine Al (j:=r8.2.2) A0 rfl rfl rfl rfl rfl rfl rfl rfl _ (C0 (j:=r8.2.2.toNat) (xs:=r.2.2.links) (e:=B8.c) (x:=r9.2.2) Ab rfl) (A8 ?_)
   refine A5 (Aq A7 (A8 ?_))
  rotate_left 1
  focus
   refine A8 ?_
   refine A5 ?_
   refine A3 [1,5] A7 ⟨?_,?_,trivial⟩
   focus
    refine A8 ?_
    refine A5 (A3 [5] A7 ⟨A8 ?_,trivial⟩)
    refine A5 (A3 [6] A7 ⟨A8 ?_,trivial⟩)
    refine Ai (Ah d u.1 u.2.1 r.2.2.links.length hu.1 Ab) hH hp rfl At rfl rfl (fun r8 hr8=>go A0 false ?_)
    conv=>whnf
    have hk8:=hr8.2.2.2 Ab
    have hk7:=hr8.2.1
    refine A5 (A3 [8] A7 ⟨A8 ?_,trivial⟩)
    refine Ai (Jv d r8.1 r8.2.1 hr8.1) hH hp rfl At rfl rfl (fun r9 hr9=>go A0 false ?_)
    conv=>whnf
    refine A5 (A3 [9] A7 ⟨A8 ?_,trivial⟩)
    (repeat refine Am ?_)
    refine A5 (A3 [10] A7 ⟨A8 ?_,trivial⟩)
    refine Al (j:=r8.2.2) A0 rfl rfl rfl rfl rfl rfl rfl rfl _ (C0 (j:=r8.2.2.toNat) (xs:=r.2.2.links) (e:=B8.c) (x:=r9.2.2) Ab rfl) (A8 ?_)
    refine A5 (Aq A7 (A8 ?_))
   rotate_left 1
   focus
    refine A8 ?_
    refine A5 ?_
    refine A3 [1,6] A7 ⟨?_,?_,trivial⟩
    focus
     refine A8 ?_
     refine A5 (A3 [6] A7 ⟨A8 ?_,trivial⟩)
     refine Ai (Ah d u.1 u.2.1 r.2.2.links.length hu.1 Ab) hH hp rfl At rfl rfl (fun r8 hr8=>go A0 false ?_)
     conv=>whnf
     have hk8:=hr8.2.2.2 Ab
     have hk7:=hr8.2.1
     refine A5 (A3 [8] A7 ⟨A8 ?_,trivial⟩)
     refine Ai (Jv d r8.1 r8.2.1 hr8.1) hH hp rfl At rfl rfl (fun r9 hr9=>go A0 false ?_)
     conv=>whnf
     refine A5 (A3 [9] A7 ⟨A8 ?_,trivial⟩)
     (repeat refine Am ?_)
     refine A5 (A3 [10] A7 ⟨A8 ?_,trivial⟩)
     refine Al (j:=r8.2.2) A0 rfl rfl rfl rfl rfl rfl rfl rfl _ (C0 (j:=r8.2.2.toNat) (xs:=r.2.2.links) (e:=B8.c) (x:=r9.2.2) Ab rfl) (A8 ?_)
     refine A5 (Aq A7 (A8 ?_))
    rotate_left 1
    focus
     refine A8 ?_
     refine Ai (Ah d u.1 u.2.1 r.2.2.links.length hu.1 Ab) hH hp rfl At rfl rfl (fun r8 hr8=>go A0 false ?_)
     conv=>whnf
     have hk8:=hr8.2.2.2 Ab
     have hk7:=hr8.2.1
     refine A5 ?_
     refine A3 [1,8] A7 ⟨?_,?_,trivial⟩
     focus
      refine A8 ?_
      refine A5 (A3 [8] A7 ⟨A8 ?_,trivial⟩)
      refine Ai (Jv d r8.1 r8.2.1 hr8.1) hH hp rfl At rfl rfl (fun r9 hr9=>go A0 false ?_)
      conv=>whnf
      refine A5 (A3 [9] A7 ⟨A8 ?_,trivial⟩)
      (repeat refine Am ?_)
      refine A5 (A3 [10] A7 ⟨A8 ?_,trivial⟩)
      refine Al (j:=r8.2.2) A0 rfl rfl rfl rfl rfl rfl rfl rfl _ (C0 (j:=r8.2.2.toNat) (xs:=r.2.2.links) (e:=B8.c) (x:=r9.2.2) Ab rfl) (A8 ?_)
      refine A5 (Aq A7 (A8 ?_))
     rotate_left 1
     focus
      refine A8 ?_
      refine Ai (Jv d r8.1 r8.2.1 hr8.1) hH hp rfl At rfl rfl (fun r9 hr9=>go A0 false ?_)
      conv=>whnf
      refine A5 (A3 [1] A7 ⟨A8 ?_,trivial⟩)
      refine A5 (A3 [9] A7 ⟨A8 ?_,trivial⟩)
      (repeat refine Am ?_)
      refine A5 (A3 [10] A7 ⟨A8 ?_,trivial⟩)
      refine Al (j:=r8.2.2) A0 rfl rfl rfl rfl rfl rfl rfl rfl _ (C0 (j:=r8.2.2.toNat) (xs:=r.2.2.links) (e:=B8.c) (x:=r9.2.2) Ab rfl) (A8 ?_)
      refine A5 (Aq A7 (A8 ?_))
  all_goals
   have hsw:=Qh (c:=r.2.2) (k:=r8.2.2) (l:=r9.2.2) ⟨by omega,by omega⟩
   have h9:r9.2.2.w≤10:=hr9.2.1
   exact Bm A0 (r9.1,r9.2.1,Cb r.2.2 r8.2.2 r9.2.2) ⟨hr9.1,by show (Cb r.2.2 r8.2.2 r9.2.2).w≤7000;omega,A6x ocl (B4q hr9.2.2 (by have:=hr9.2.1;omega))⟩ rfl rfl rfl rfl At
 repeat refine B7 ?_
 refine ⟨fun c2=>?_,fun c2=>?_⟩<;>conv=>whnf
 ·refine Fk rfl ?_
  refine Aj A0 false 0 rfl rfl rfl A7 rfl (A4 B1) ?_
  refine Aj A0 false 2 rfl rfl rfl A7 rfl (A4 B1) ?_
  refine Aj A0 false 4 rfl rfl rfl A7 rfl (A4 B1) ?_
  refine A3 [1,3] A7 ⟨?_,?_,trivial⟩
  focus
   refine A8 ?_
   refine A5 (A3 [3] A7 ⟨A8 ?_,trivial⟩)
   refine Ai (Ah d u.1 u.2.1 4 hu.1 Aw) hH hp rfl At rfl rfl (fun r8 hr8=>go A0 false ?_)
   conv=>whnf
   have hk8:=hr8.2.2.2 Aw
   have hk7:=hr8.2.1
   refine A5 (A3 [5] A7 ⟨A8 ?_,trivial⟩)
   refine Ai (Ah d r8.1 r8.2.1 6 hr8.1 Aw) hH hp rfl At rfl rfl (fun r9 hr9=>go A0 false ?_)
   conv=>whnf
   refine A5 ?_
   refine Aj A0 false 6 rfl rfl rfl A7 rfl (A4 B1) ?_
   refine A3 [7] A7 ⟨A8 ?_,trivial⟩
   (repeat refine Am ?_)
   refine A5 ?_
   refine Aj A0 false 8 rfl rfl rfl A7 rfl (A4 B1) ?_
   refine A3 [9] A7 ⟨A8 ?_,trivial⟩
   refine Al (j:=r8.2.2) A0 rfl rfl rfl rfl rfl rfl rfl rfl _ (C0 (j:=r8.2.2.toNat) (xs:=r.2.2.tokens) (e:=Di.c) (x:=⟨(r.2.2.tokens.getD r8.2.2.toNat default).going,r9.2.2-1,(r.2.2.tokens.getD r8.2.2.toNat default).sum,(r.2.2.tokens.getD r8.2.2.toNat default).black,(r.2.2.tokens.getD r8.2.2.toNat default).capped⟩) Ab rfl) (A8 ?_)
   refine A5 (Aq A7 (A8 ?_))
  rotate_left 1
  focus
   refine A8 ?_
   refine Ai (Ah d u.1 u.2.1 4 hu.1 Aw) hH hp rfl At rfl rfl (fun r8 hr8=>go A0 false ?_)
   conv=>whnf
   have hk8:=hr8.2.2.2 Aw
   have hk7:=hr8.2.1
   refine A5 ?_
   refine A3 [1,5] A7 ⟨?_,?_,trivial⟩
   focus
    refine A8 ?_
    refine A5 (A3 [5] A7 ⟨A8 ?_,trivial⟩)
    refine Ai (Ah d r8.1 r8.2.1 6 hr8.1 Aw) hH hp rfl At rfl rfl (fun r9 hr9=>go A0 false ?_)
    conv=>whnf
    refine A5 ?_
    refine Aj A0 false 6 rfl rfl rfl A7 rfl (A4 B1) ?_
    refine A3 [7] A7 ⟨A8 ?_,trivial⟩
    (repeat refine Am ?_)
    refine A5 ?_
    refine Aj A0 false 8 rfl rfl rfl A7 rfl (A4 B1) ?_
    refine A3 [9] A7 ⟨A8 ?_,trivial⟩
    refine Al (j:=r8.2.2) A0 rfl rfl rfl rfl rfl rfl rfl rfl _ (C0 (j:=r8.2.2.toNat) (xs:=r.2.2.tokens) (e:=Di.c) (x:=⟨(r.2.2.tokens.getD r8.2.2.toNat default).going,r9.2.2-1,(r.2.2.tokens.getD r8.2.2.toNat default).sum,(r.2.2.tokens.getD r8.2.2.toNat default).black,(r.2.2.tokens.getD r8.2.2.toNat default).capped⟩) Ab rfl) (A8 ?_)
    refine A5 (Aq A7 (A8 ?_))
   rotate_left 1
   focus
    refine A8 ?_
    refine Ai (Ah d r8.1 r8.2.1 6 hr8.1 Aw) hH hp rfl At rfl rfl (fun r9 hr9=>go A0 false ?_)
    conv=>whnf
    refine A5 ?_
    refine Aj A0 false 6 rfl rfl rfl A7 rfl (A4 B1) ?_
    refine A3 [1] A7 ⟨A8 ?_,trivial⟩
    refine A5 (A3 [7] A7 ⟨A8 ?_,trivial⟩)
    (repeat refine Am ?_)
    refine A5 ?_
    refine Aj A0 false 8 rfl rfl rfl A7 rfl (A4 B1) ?_
    refine A3 [9] A7 ⟨A8 ?_,trivial⟩
    refine Al (j:=r8.2.2) A0 rfl rfl rfl rfl rfl rfl rfl rfl _ (C0 (j:=r8.2.2.toNat) (xs:=r.2.2.tokens) (e:=Di.c) (x:=⟨(r.2.2.tokens.getD r8.2.2.toNat default).going,r9.2.2-1,(r.2.2.tokens.getD r8.2.2.toNat default).sum,(r.2.2.tokens.getD r8.2.2.toNat default).black,(r.2.2.tokens.getD r8.2.2.toNat default).capped⟩) Ab rfl) (A8 ?_)
    refine A5 (Aq A7 (A8 ?_))
  all_goals
   have hsw:=Ld (c:=r.2.2) (e:=r8.2.2) (t:=⟨(r.2.2.tokens.getD r8.2.2.toNat default).going,r9.2.2-1,(r.2.2.tokens.getD r8.2.2.toNat default).sum,(r.2.2.tokens.getD r8.2.2.toNat default).black,(r.2.2.tokens.getD r8.2.2.toNat default).capped⟩)
   exact Bm A0 (r9.1,r9.2.1,D7 r.2.2 r8.2.2 ⟨(r.2.2.tokens.getD r8.2.2.toNat default).going,r9.2.2-1,(r.2.2.tokens.getD r8.2.2.toNat default).sum,(r.2.2.tokens.getD r8.2.2.toNat default).black,(r.2.2.tokens.getD r8.2.2.toNat default).capped⟩) ⟨hr9.1,by show (D7 r.2.2 r8.2.2 ⟨(r.2.2.tokens.getD r8.2.2.toNat default).going,r9.2.2-1,(r.2.2.tokens.getD r8.2.2.toNat default).sum,(r.2.2.tokens.getD r8.2.2.toNat default).black,(r.2.2.tokens.getD r8.2.2.toNat default).capped⟩).w≤7000;omega,Xb ocl ⟨F6 (by have:=hr9.2.1;show _≤r9.2.2-1;omega) (by have:=hr9.2.2.2 Aw;show r9.2.2-1≤_;omega),(A14 ocl Ab).2⟩⟩ rfl rfl rfl rfl At
 repeat refine B7 ?_
 refine ⟨fun c3=>?_,fun c3=>?_⟩<;>conv=>whnf
 ·refine Fk rfl ?_
  refine Aj A0 false 0 rfl rfl rfl A7 rfl (A4 B1) ?_
  refine Aj A0 false 2 rfl rfl rfl A7 rfl (A4 B1) ?_
  refine A3 [1,3] A7 ⟨?_,?_,trivial⟩
  focus
   refine A8 ?_
   refine A5 (A3 [3] A7 ⟨A8 ?_,trivial⟩)
   refine A5 (A3 [4] A7 ⟨A8 ?_,trivial⟩)
   refine Em 8 (Ap [1000000,1000001,-1000001,3]) rfl (Ba rfl (by repeat' (first|exact trivial|exact rfl|refine ⟨?_,?_⟩))) ?_
   refine Ai (D4 d u.1 u.2.1 [1000000,1000001,-1000001,3] hu.1 Aw) hH hp rfl At rfl rfl (fun r9 hr9=>go A0 false ?_)
   conv=>whnf
   refine A5 (A3 [5] A7 ⟨A8 ?_,trivial⟩)
   (repeat refine Am ?_)
   refine A5 ?_
   refine Aj A0 false 6 rfl rfl rfl A7 rfl (A4 B1) ?_
   refine A3 [7] A7 ⟨A8 ?_,trivial⟩
   refine Al (j:=0) A0 rfl rfl rfl rfl rfl rfl rfl rfl _ (C0 (j:=0) (xs:=r.2.2.tokens) (e:=Di.c) (x:=⟨(r.2.2.tokens.getD 0 default).going,(r.2.2.tokens.getD 0 default).at_,[1000000,1000001,-1000001,3].getD r9.2.2 0,(r.2.2.tokens.getD 0 default).black,(r.2.2.tokens.getD 0 default).capped⟩) Ab rfl) (A8 ?_)
   refine A5 (Aq A7 (A8 ?_))
  rotate_left 1
  focus
   refine A8 ?_
   refine A5 ?_
   refine A3 [1,4] A7 ⟨?_,?_,trivial⟩
   focus
    refine A8 ?_
    refine A5 (A3 [4] A7 ⟨A8 ?_,trivial⟩)
    refine Em 8 (Ap [1000000,1000001,-1000001,3]) rfl (Ba rfl (by repeat' (first|exact trivial|exact rfl|refine ⟨?_,?_⟩))) ?_
    refine Ai (D4 d u.1 u.2.1 [1000000,1000001,-1000001,3] hu.1 Aw) hH hp rfl At rfl rfl (fun r9 hr9=>go A0 false ?_)
    conv=>whnf
    refine A5 (A3 [5] A7 ⟨A8 ?_,trivial⟩)
    (repeat refine Am ?_)
    refine A5 ?_
    refine Aj A0 false 6 rfl rfl rfl A7 rfl (A4 B1) ?_
    refine A3 [7] A7 ⟨A8 ?_,trivial⟩
    refine Al (j:=0) A0 rfl rfl rfl rfl rfl rfl rfl rfl _ (C0 (j:=0) (xs:=r.2.2.tokens) (e:=Di.c) (x:=⟨(r.2.2.tokens.getD 0 default).going,(r.2.2.tokens.getD 0 default).at_,[1000000,1000001,-1000001,3].getD r9.2.2 0,(r.2.2.tokens.getD 0 default).black,(r.2.2.tokens.getD 0 default).capped⟩) Ab rfl) (A8 ?_)
    refine A5 (Aq A7 (A8 ?_))
   rotate_left 1
   focus
    refine A8 ?_
    refine Em 8 (Ap [1000000,1000001,-1000001,3]) rfl (Ba rfl (by repeat' (first|exact trivial|exact rfl|refine ⟨?_,?_⟩))) ?_
    refine Ai (D4 d u.1 u.2.1 [1000000,1000001,-1000001,3] hu.1 Aw) hH hp rfl At rfl rfl (fun r9 hr9=>go A0 false ?_)
    conv=>whnf
    refine A5 (A3 [1] A7 ⟨A8 ?_,trivial⟩)
    refine A5 (A3 [5] A7 ⟨A8 ?_,trivial⟩)
    (repeat refine Am ?_)
    refine A5 ?_
    refine Aj A0 false 6 rfl rfl rfl A7 rfl (A4 B1) ?_
    refine A3 [7] A7 ⟨A8 ?_,trivial⟩
    refine Al (j:=0) A0 rfl rfl rfl rfl rfl rfl rfl rfl _ (C0 (j:=0) (xs:=r.2.2.tokens) (e:=Di.c) (x:=⟨(r.2.2.tokens.getD 0 default).going,(r.2.2.tokens.getD 0 default).at_,[1000000,1000001,-1000001,3].getD r9.2.2 0,(r.2.2.tokens.getD 0 default).black,(r.2.2.tokens.getD 0 default).capped⟩) Ab rfl) (A8 ?_)
    refine A5 (Aq A7 (A8 ?_))
  all_goals
   have hsw:=Ld (c:=r.2.2) (e:=0) (t:=⟨(r.2.2.tokens.getD 0 default).going,(r.2.2.tokens.getD 0 default).at_,[1000000,1000001,-1000001,3].getD r9.2.2 0,(r.2.2.tokens.getD 0 default).black,(r.2.2.tokens.getD 0 default).capped⟩)
   exact Bm A0 (r9.1,r9.2.1,D7 r.2.2 0 ⟨(r.2.2.tokens.getD 0 default).going,(r.2.2.tokens.getD 0 default).at_,[1000000,1000001,-1000001,3].getD r9.2.2 0,(r.2.2.tokens.getD 0 default).black,(r.2.2.tokens.getD 0 default).capped⟩) ⟨hr9.1,by show (D7 r.2.2 0 ⟨(r.2.2.tokens.getD 0 default).going,(r.2.2.tokens.getD 0 default).at_,[1000000,1000001,-1000001,3].getD r9.2.2 0,(r.2.2.tokens.getD 0 default).black,(r.2.2.tokens.getD 0 default).capped⟩).w≤7000;omega,Xb ocl ⟨(A14 ocl Ab).1,Fl _ _ (by intro x hx;simp only [List.mem_cons,List.not_mem_nil,or_false] at hx;show _∧_;omega)⟩⟩ rfl rfl rfl rfl At
 repeat refine B7 ?_
 refine ⟨fun c4=>?_,fun c4=>?_⟩<;>conv=>whnf
 ·refine Fk rfl ?_
  refine Aj A0 false 0 rfl rfl rfl A7 rfl (A4 B1) ?_
  refine Aj A0 false 2 rfl rfl rfl A7 rfl (A4 B1) ?_
  refine Aj A0 false 5 rfl rfl rfl A7 rfl (A4 B1) ?_
  refine A3 [1,3] A7 ⟨?_,?_,trivial⟩
  focus
   refine A8 ?_
   refine A5 (A3 [3] A7 ⟨A8 ?_,trivial⟩)
   refine Ai (Ah d u.1 u.2.1 6 hu.1 Aw) hH hp rfl At rfl rfl (fun r8 hr8=>go A0 false ?_)
   conv=>whnf
   refine A5 ?_
   refine Aj A0 false 4 rfl rfl rfl A7 rfl (A4 B1) ?_
   refine A3 [6] A7 ⟨A8 ?_,trivial⟩
   refine Ai (Ah d r8.1 r8.2.1 6 hr8.1 Aw) hH hp rfl At rfl rfl (fun r9 hr9=>go A0 false ?_)
   conv=>whnf
   refine A5 ?_
   refine Aj A0 false 7 rfl rfl rfl A7 rfl (A4 B1) ?_
   refine A3 [8] A7 ⟨A8 ?_,trivial⟩
   refine A5 (A3 [9] A7 ⟨A8 ?_,trivial⟩)
   refine A5 (A3 [10] A7 ⟨A8 ?_,trivial⟩)
   refine Av A0 rfl rfl rfl rfl rfl rfl rfl rfl rfl rfl rfl (Ch (r.2.2.news++[⟨r8.2.2-1,r9.2.2-1,false⟩])) (Ad rfl) Bj Ab (A8 ?_)
   refine A5 ?_
   refine Aj A0 false 11 rfl rfl rfl A7 rfl (A4 B1) ?_
   refine A3 [12] A7 ⟨A8 ?_,trivial⟩
   refine A5 (Aq A7 (A8 ?_))
  rotate_left 1
  focus
   refine A8 ?_
   refine Ai (Ah d u.1 u.2.1 6 hu.1 Aw) hH hp rfl At rfl rfl (fun r8 hr8=>go A0 false ?_)
   conv=>whnf
   refine A5 ?_
   refine Aj A0 false 4 rfl rfl rfl A7 rfl (A4 B1) ?_
   refine A3 [1,6] A7 ⟨?_,?_,trivial⟩
   focus
    refine A8 ?_
    refine A5 (A3 [6] A7 ⟨A8 ?_,trivial⟩)
    refine Ai (Ah d r8.1 r8.2.1 6 hr8.1 Aw) hH hp rfl At rfl rfl (fun r9 hr9=>go A0 false ?_)
    conv=>whnf
    refine A5 ?_
    refine Aj A0 false 7 rfl rfl rfl A7 rfl (A4 B1) ?_
    refine A3 [8] A7 ⟨A8 ?_,trivial⟩
    refine A5 (A3 [9] A7 ⟨A8 ?_,trivial⟩)
    refine A5 (A3 [10] A7 ⟨A8 ?_,trivial⟩)
    refine Av A0 rfl rfl rfl rfl rfl rfl rfl rfl rfl rfl rfl (Ch (r.2.2.news++[⟨r8.2.2-1,r9.2.2-1,false⟩])) (Ad rfl) Bj Ab (A8 ?_)
    refine A5 ?_
    refine Aj A0 false 11 rfl rfl rfl A7 rfl (A4 B1) ?_
    refine A3 [12] A7 ⟨A8 ?_,trivial⟩
    refine A5 (Aq A7 (A8 ?_))
   rotate_left 1
   focus
    refine A8 ?_
    refine Ai (Ah d r8.1 r8.2.1 6 hr8.1 Aw) hH hp rfl At rfl rfl (fun r9 hr9=>go A0 false ?_)
    conv=>whnf
    refine A5 ?_
    refine Aj A0 false 7 rfl rfl rfl A7 rfl (A4 B1) ?_
    refine A3 [1,8] A7 ⟨?_,?_,trivial⟩
    focus
     refine A8 ?_
     refine A5 (A3 [8] A7 ⟨A8 ?_,trivial⟩)
     refine A5 (A3 [9] A7 ⟨A8 ?_,trivial⟩)
     refine A5 (A3 [10] A7 ⟨A8 ?_,trivial⟩)
     refine Av A0 rfl rfl rfl rfl rfl rfl rfl rfl rfl rfl rfl (Ch (r.2.2.news++[⟨r8.2.2-1,r9.2.2-1,false⟩])) (Ad rfl) Bj Ab (A8 ?_)
     refine A5 ?_
     refine Aj A0 false 11 rfl rfl rfl A7 rfl (A4 B1) ?_
     refine A3 [12] A7 ⟨A8 ?_,trivial⟩
     refine A5 (Aq A7 (A8 ?_))
    rotate_left 1
    focus
     refine A8 ?_
     refine A5 ?_
     refine A3 [1,9] A7 ⟨?_,?_,trivial⟩
     focus
      refine A8 ?_
      refine A5 (A3 [9] A7 ⟨A8 ?_,trivial⟩)
      refine A5 (A3 [10] A7 ⟨A8 ?_,trivial⟩)
      refine Av A0 rfl rfl rfl rfl rfl rfl rfl rfl rfl rfl rfl (Ch (r.2.2.news++[⟨r8.2.2-1,r9.2.2-1,false⟩])) (Ad rfl) Bj Ab (A8 ?_)
      refine A5 ?_
      refine Aj A0 false 11 rfl rfl rfl A7 rfl (A4 B1) ?_
      refine A3 [12] A7 ⟨A8 ?_,trivial⟩
      refine A5 (Aq A7 (A8 ?_))
     rotate_left 1
     focus
      refine A8 ?_
      refine A5 (A3 [1] A7 ⟨A8 ?_,trivial⟩)
      refine A5 (A3 [10] A7 ⟨A8 ?_,trivial⟩)
      refine Av A0 rfl rfl rfl rfl rfl rfl rfl rfl rfl rfl rfl (Ch (r.2.2.news++[⟨r8.2.2-1,r9.2.2-1,false⟩])) (Ad rfl) Bj Ab (A8 ?_)
      refine A5 ?_
      refine Aj A0 false 11 rfl rfl rfl A7 rfl (A4 B1) ?_
      refine A3 [12] A7 ⟨A8 ?_,trivial⟩
      refine A5 (Aq A7 (A8 ?_))
  all_goals
   exact Bm A0 (r9.1,r9.2.1,⟨r.2.2.graph,r.2.2.workers,r.2.2.links,r.2.2.tokens,r.2.2.news++[⟨r8.2.2-1,r9.2.2-1,false⟩]⟩) ⟨hr9.1,by have:=hcw;simp only [A6.w,List.length_append,List.length_cons,List.length_nil] at this ⊢;omega,ocl.1,ocl.2.1,ocl.2.2.1,ocl.2.2.2.1,⟨by rw [List.length_append];show _+1≤maxLen;simp only [maxLen];omega,Hy ocl.2.2.2.2.2 ⟨F6 (by have:=hr8.2.1;show _≤r8.2.2-1;omega) (by have:=hr8.2.2.2 Aw;show r8.2.2-1≤_;omega),F6 (by have:=hr9.2.1;show _≤r9.2.2-1;omega) (by have:=hr9.2.2.2 Aw;show r9.2.2-1≤_;omega)⟩⟩⟩ rfl rfl rfl rfl At
 repeat refine B7 ?_
 refine ⟨fun c5=>?_,fun c5=>?_⟩<;>conv=>whnf
 ·refine Ai (A0d d u.1 u.2.1 hu.1) hH hp rfl At rfl rfl (fun r9 hr9=>go A0 false ?_)
  conv=>whnf
  have h9:=hr9.2.2
  exact Bm A0 (r9.1,r9.2.1,⟨r9.2.2,r.2.2.workers,r.2.2.links,r.2.2.tokens,r.2.2.news⟩) ⟨hr9.1,by have:=hcw;simp only [A6.w] at this ⊢;omega,hr9.2.1,ocl.2⟩ rfl rfl rfl rfl At
 repeat refine B7 ?_
 refine ⟨fun c6=>?_,fun c6=>?_⟩<;>conv=>whnf
 ·refine B0p A0 rfl rfl rfl rfl rfl rfl rfl rfl rfl ⟨by decide,by omega⟩ Ab _ rfl (A8 ?_)
  refine L7 8 (C9 (r.2.2.tokens.take 3)) rfl (Ti (es:=5) (e:=Di.c) (xs:=r.2.2.tokens) (m:=3) Ab) ?_
  exact Bm A0 (u.1,u.2.1,⟨r.2.2.graph,r.2.2.workers,r.2.2.links,r.2.2.tokens.take 3,r.2.2.news⟩) ⟨hu.1,by have:=hcw;simp only [A6.w,List.length_take] at this ⊢;omega,ocl.1,ocl.2.1,ocl.2.2.1,⟨by rw [List.length_take];simp only [maxLen];omega,A4a ocl.2.2.2.1.2⟩,ocl.2.2.2.2⟩ rfl rfl rfl rfl At
 repeat refine B7 ?_
 exact Bm A0 (u.1,u.2.1,r.2.2) ⟨hu.1,by show r.2.2.w≤7000;omega,ocl⟩ rfl rfl rfl rfl At
structure JLs where
 k:Nat
 i:Int
 h:Int
 xs:List A9
set_option maxHeartbeats 1000000 in
theorem B14 (d:Dy)(i h:Int)(hi:0≤i∧i≤d.n):Cr Tryz.prog HT 56 d.pins (d.cur i h) [] (fun r:Int×Int×List A9=>(0≤r.1∧r.1≤d.n)∧r.2.2.length≤7) (fun r=>d.cur r.1 r.2.1) (fun r=>[.one (Aa r.2.2)]):=by
 refine Df A0 false Tryz.func56 rfl Aw fun B b hH hp=>?_
 conv=>whnf
 refine Dv 1 (Aa []) rfl (Ba rfl Cf) ?_
 refine Bv A0 false [5] (fun j:JLs=>[(4,.c (vi j.k))]) (fun j=>[⟨0,[.c (.val d.v),.c (vi j.i),.c (vi j.h)]⟩]) (fun j=>[⟨1,Aa j.xs⟩]) (fun j=>(0≤j.i∧j.i≤d.n)∧j.k≤6∧j.xs.length=j.k) (fun j=>7-j.k) (⟨0,i,h,[]⟩) (⟨hi,Nat.zero_le _,rfl⟩) ⟨F3,trivial⟩ Cf ⟨F2,trivial⟩ Cj A7 (fun j hj=>?_)
 conv=>whnf
 obtain ⟨hi2,hk2,hx2⟩:=hj
 refine Ai (Ah d j.i j.h 7 hi2 Aw) hH hp rfl At rfl rfl (fun r hr=>go A0 false ?_)
 conv=>whnf
 refine Es (fun hlt=>?_) fun hlt=>?_<;>conv=>whnf
 ·have hlt2:r.2.2<7:=hr.2.2.2 Aw
  have hk3:j.k≤5:=by omega
  refine ⟨fun hg=>?_,fun hg=>?_⟩<;>conv=>whnf
  ·have hg:0<j.xs.length:=by have:=of_decide_eq_true hg;omega
   repeat refine B7 ?_
   refine Ai (Pu d r.1 r.2.1 5 hr.1 Aw) hH hp rfl At rfl rfl (fun s hs=>go A0 false ?_)
   conv=>whnf
   repeat refine B7 ?_
   refine ⟨fun hc=>?_,fun hc=>?_⟩<;>conv=>whnf
   ·refine Ai (Ah d s.1 s.2.1 j.xs.length hs Ab) hH hp rfl At rfl rfl (fun t ht=>go A0 false ?_)
    conv=>whnf
    have ht2:=ht.2.2.2 Ab
    have ht3:=ht.2.1
    (repeat refine Am ?_)
    refine Av A0 rfl rfl rfl rfl rfl rfl rfl rfl rfl rfl rfl (Aa (j.xs++[j.xs.getD t.2.2.toNat default])) (Ad rfl) Bj Ab (A8 ?_)
    (repeat refine Am ?_)
    refine B6 [(1,3)] (⟨j.k+1,t.1,t.2.1,j.xs++[j.xs.getD t.2.2.toNat default]⟩) (⟨ht.1,by show j.k+1≤6;omega,by simp [hx2]⟩) (by show 7-(j.k+1)<_;omega) ⟨rfl,trivial⟩ ⟨rfl,trivial⟩ Cf A7 Cj A7
   refine Ai (Jj d s.1 s.2.1 hs) hH hp rfl At rfl rfl (fun t ht=>go A0 false ?_)
   conv=>whnf
   refine Av A0 rfl rfl rfl rfl rfl rfl rfl rfl rfl rfl rfl (Aa (j.xs++[t.2.2])) (Ad rfl) Bj Ab (A8 ?_)
   (repeat refine Am ?_)
   refine B6 [(1,3)] (⟨j.k+1,t.1,t.2.1,j.xs++[t.2.2]⟩) (⟨ht.1,by show j.k+1≤6;omega,by simp [hx2]⟩) (by show 7-(j.k+1)<_;omega) ⟨rfl,trivial⟩ ⟨rfl,trivial⟩ Cf A7 Cj A7
  repeat refine B7 ?_
  refine Ai (Jj d r.1 r.2.1 hr.1) hH hp rfl At rfl rfl (fun t ht=>go A0 false ?_)
  conv=>whnf
  refine Av A0 rfl rfl rfl rfl rfl rfl rfl rfl rfl rfl rfl (Aa (j.xs++[t.2.2])) (Ad rfl) Bj Ab (A8 ?_)
  (repeat refine Am ?_)
  refine B6 [(1,3)] (⟨j.k+1,t.1,t.2.1,j.xs++[t.2.2]⟩) (⟨ht.1,by show j.k+1≤6;omega,by simp [hx2]⟩) (by show 7-(j.k+1)<_;omega) ⟨rfl,trivial⟩ ⟨rfl,trivial⟩ Cf A7 Cj A7
 exact Bm A0 (r.1,r.2.1,j.xs) ⟨hr.1,by show j.xs.length≤7;omega⟩ rfl rfl rfl rfl At
theorem B4d (d:Dy):Qs Tryz.prog HT 40 d.pins [] [.one (.val d.v)] (fun r:List A9=>r.length≤7) (fun r=>[.one (Aa r)]):=by
 refine A8x A0 false Tryz.func40 rfl Aw fun B hH hp=>?_
 conv=>whnf
 refine A4e (A8n d) hp rfl (fun h0 _=>go A0 false ?_)
 conv=>whnf
 refine Ai (B14 d 0 h0 ⟨Int.le_refl _,Int.natCast_nonneg _⟩) hH hp rfl At rfl rfl (fun r hr=>go A0 false ?_)
 conv=>whnf
 exact B50 A0 r.2.2 hr.2 rfl rfl At
theorem B4c (d:Dy):Qs Tryz.prog HT 28 d.pins [] [.one (.val d.v)] (fun r:A6=>B34 r) (fun r=>[.agg r.c]):=by
 refine A8x A0 false Tryz.func28 rfl Aw fun B hH hp=>?_
 conv=>whnf
 refine A4e (A8n d) hp rfl (fun h0 _=>go A0 false ?_)
 conv=>whnf
 refine Ai (B4b d 0 h0 ⟨Int.le_refl _,Int.natCast_nonneg _⟩) hH hp rfl At rfl rfl (fun r hr=>go A0 false ?_)
 conv=>whnf
 exact B50 A0 r.2.2 hr.2 rfl rfl At
end Go.Proofs.YtdendlkeiaccpaaGreat
