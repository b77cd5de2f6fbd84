/- Part 33 of the proof that each of the laws FnStalls returns true for every input. No conditions. -/
import Derived.Test.YtonodkjaoalfjaaGreatP30
import Derived.Test.YtonodkjaoalfjaaGreatP32

set_option linter.unusedSimpArgs false
set_option linter.unusedVariables false
set_option maxRecDepth 100000
namespace Go.Proofs.YtonodkjaoalfjaaGreat
open Go.Sx
def C3a (c:A3):Prop:=c.w≤7000∧K9 .i64 c.graph.workers
theorem C5b {n:Int}(h:1≤n∧n≤3):K9 .i64 n:=⟨by omega,by omega⟩
set_option maxHeartbeats 8000000 in
theorem C4p (d:I9)(i h:Int)(hi:0≤i∧i≤d.n):Iv Tryz.prog HT 92 d.pins (d.cur i h) [] (fun r:Int×Int×A3=>(0≤r.1∧r.1≤d.n)∧C3a r.2.2) (fun r=>d.cur r.1 r.2.1) (fun r=>[.agg r.2.2.c]):=by
 refine Ol A0 false Tryz.func92 rfl Bu fun B b hH hp=>?_
 conv=>whnf
 refine Fg (C3m d i h hi) hH hp rfl Ca rfl rfl (fun r hr=>go A0 false ?_)
 conv=>whnf
 have hs:=C20 hr.2
 have hcw:=hs.w
 have hck:=hs.k
 have hcl:=hs.l
 have hct:=hs.t
 have hcg:=hs.g
 have og:K9 .i64 r.2.2.graph.workers:=C5b hcg.1
 have hwl:=A3.workers_le hcw
 have hll:=A3.links_le hcw
 have hnl:r.2.2.news.length≤r.2.2.w:=by unfold A3.w;omega
 refine Fg (E5 d r.1 r.2.1 r.2.2.workers.length hr.1 Ac) hH hp rfl Ca rfl rfl (fun t ht=>go A0 false ?_)
 conv=>whnf
 have ht2:=ht.2.2.2 Ac
 have ht3:=ht.2.1
 have htk:t.2.2.toNat<r.2.2.workers.length:=by omega
 refine Fg (E5 d t.1 t.2.1 20 ht.1 Bu) hH hp rfl Ca rfl rfl (fun u hu=>go A0 false ?_)
 conv=>whnf
 refine ⟨fun c0=>?_,fun c0=>?_⟩<;>conv=>whnf
 ·refine A8a rfl ?_
  refine M7 A0 false 0 rfl rfl rfl Aa rfl (Af D0) ?_
  refine M7 A0 false 2 rfl rfl rfl Aa rfl (Af D0) ?_
  refine M7 A0 false 3 rfl rfl rfl Aa rfl (Af D0) ?_
  refine M7 A0 false 4 rfl rfl rfl Aa rfl (Af D0) ?_
  refine Aj [1,5] Aa ⟨?_,?_,trivial⟩
  focus
   refine go A0 false ?_
   conv=>whnf
   refine Ak ?_
   refine Aj [5] Aa ⟨?_,trivial⟩
   refine go A0 false ?_
   conv=>whnf
   refine Ak ?_
   refine Aj [6] Aa ⟨?_,trivial⟩
   refine go A0 false ?_
   conv=>whnf
   refine Fg (C0x d u.1 u.2.1 r.2.2.graph hu.1 Ac) hH hp rfl Ca rfl rfl (fun r9 hr9=>go A0 false ?_)
   conv=>whnf
   refine Ak ?_
   refine Aj [7] Aa ⟨?_,trivial⟩
   refine go A0 false ?_
   conv=>whnf
   (repeat refine Ar ?_)
   refine Ak ?_
   refine Aj [8] Aa ⟨?_,trivial⟩
   refine go A0 false ?_
   conv=>whnf
   refine D7 (j:=t.2.2) A0 rfl rfl rfl rfl rfl rfl rfl rfl _ (E4 (j:=t.2.2.toNat) (xs:=r.2.2.workers) (e:=Ab.c) (x:=r9.2.2) htk rfl) (Al ?_)
   refine Ak ?_
   refine Ed Aa (Al ?_)
  rotate_left 1
  focus
   refine go A0 false ?_
   conv=>whnf
   refine Ak ?_
   refine Aj [1,6] Aa ⟨?_,?_,trivial⟩
   focus
    refine go A0 false ?_
    conv=>whnf
    refine Ak ?_
    refine Aj [6] Aa ⟨?_,trivial⟩
    refine go A0 false ?_
    conv=>whnf
    refine Fg (C0x d u.1 u.2.1 r.2.2.graph hu.1 Ac) hH hp rfl Ca rfl rfl (fun r9 hr9=>go A0 false ?_)
    conv=>whnf
    refine Ak ?_
    refine Aj [7] Aa ⟨?_,trivial⟩
    refine go A0 false ?_
    conv=>whnf
    (repeat refine Ar ?_)
    refine Ak ?_
    refine Aj [8] Aa ⟨?_,trivial⟩
    refine go A0 false ?_
    conv=>whnf
    refine D7 (j:=t.2.2) A0 rfl rfl rfl rfl rfl rfl rfl rfl _ (E4 (j:=t.2.2.toNat) (xs:=r.2.2.workers) (e:=Ab.c) (x:=r9.2.2) htk rfl) (Al ?_)
    refine Ak ?_
    refine Ed Aa (Al ?_)
   rotate_left 1
   focus
    refine go A0 false ?_
    conv=>whnf
    refine Fg (C0x d u.1 u.2.1 r.2.2.graph hu.1 Ac) hH hp rfl Ca rfl rfl (fun r9 hr9=>go A0 false ?_)
    conv=>whnf
    refine Ak ?_
    refine Aj [1] Aa ⟨?_,trivial⟩
    refine go A0 false ?_
    conv=>whnf
    refine Ak ?_
    refine Aj [7] Aa ⟨?_,trivial⟩
    refine go A0 false ?_
    conv=>whnf
    (repeat refine Ar ?_)
    refine Ak ?_
    refine Aj [8] Aa ⟨?_,trivial⟩
    refine go A0 false ?_
    conv=>whnf
    refine D7 (j:=t.2.2) A0 rfl rfl rfl rfl rfl rfl rfl rfl _ (E4 (j:=t.2.2.toNat) (xs:=r.2.2.workers) (e:=Ab.c) (x:=r9.2.2) htk rfl) (Al ?_)
    refine Ak ?_
    refine Ed Aa (Al ?_)
  all_goals
   have hsw:=J6 (c:=r.2.2) (j:=t.2.2) (w:=r9.2.2) ⟨by omega,by omega⟩
   have h9:=hr9.2
   exact Kk A0 (r9.1,r9.2.1,Av r.2.2 t.2.2 r9.2.2) ⟨hr9.1,by show (Av r.2.2 t.2.2 r9.2.2).w≤7000;omega,og⟩ rfl rfl rfl rfl Ca
 repeat refine Bi ?_
 refine ⟨fun c1=>?_,fun c1=>?_⟩<;>conv=>whnf
 ·refine A8a rfl ?_
  refine M7 A0 false 0 rfl rfl rfl Aa rfl (Af D0) ?_
  refine M7 A0 false 2 rfl rfl rfl Aa rfl (Af D0) ?_
  refine M7 A0 false 3 rfl rfl rfl Aa rfl (Af D0) ?_
  refine M7 A0 false 7 rfl rfl rfl Aa rfl (Af D0) ?_
  refine Aj [1,4] Aa ⟨?_,?_,trivial⟩
  focus
   refine go A0 false ?_
   conv=>whnf
   refine Ak ?_
   refine Aj [4] Aa ⟨?_,trivial⟩
   refine go A0 false ?_
   conv=>whnf
   refine Ak ?_
   refine Aj [5] Aa ⟨?_,trivial⟩
   refine go A0 false ?_
   conv=>whnf
   refine Ak ?_
   refine Aj [6] Aa ⟨?_,trivial⟩
   refine go A0 false ?_
   conv=>whnf
   refine Fg (E5 d u.1 u.2.1 r.2.2.links.length hu.1 Ac) hH hp rfl Ca rfl rfl (fun r8 hr8=>go A0 false ?_)
   conv=>whnf
   have hk8:=hr8.2.2.2 Ac
   have hk7:=hr8.2.1
   refine Ak ?_
   refine Aj [8] Aa ⟨?_,trivial⟩
   refine go A0 false ?_
   conv=>whnf
   refine Fg (C0i d r8.1 r8.2.1 hr8.1) hH hp rfl Ca rfl rfl (fun r9 hr9=>go A0 false ?_)
   conv=>whnf
   refine Ak ?_
   refine Aj [9] Aa ⟨?_,trivial⟩
   refine go A0 false ?_
   conv=>whnf
   (repeat refine Ar ?_)
   refine Ak ?_
   refine Aj [10] Aa ⟨?_,trivial⟩
   refine go A0 false ?_
   conv=>whnf
   refine D7 (j:=r8.2.2) A0 rfl rfl rfl rfl rfl rfl rfl rfl _ (E4 (j:=r8.2.2.toNat) (xs:=r.2.2.links) (e:=C2.c) (x:=r9.2.2) Ac rfl) (Al ?_)
   refine Ak ?_
   refine Ed Aa (Al ?_)
  rotate_left 1
  focus
   refine go A0 false ?_
   conv=>whnf
   refine Ak ?_
   refine Aj [1,5] Aa ⟨?_,?_,trivial⟩
   focus
    refine go A0 false ?_
    conv=>whnf
    refine Ak ?_
    refine Aj [5] Aa ⟨?_,trivial⟩
    refine go A0 false ?_
    conv=>whnf
    refine Ak ?_
    refine Aj [6] Aa ⟨?_,trivial⟩
    refine go A0 false ?_
    conv=>whnf
    refine Fg (E5 d u.1 u.2.1 r.2.2.links.length hu.1 Ac) hH hp rfl Ca rfl rfl (fun r8 hr8=>go A0 false ?_)
    conv=>whnf
    have hk8:=hr8.2.2.2 Ac
    have hk7:=hr8.2.1
    refine Ak ?_
    refine Aj [8] Aa ⟨?_,trivial⟩
    refine go A0 false ?_
    conv=>whnf
    refine Fg (C0i d r8.1 r8.2.1 hr8.1) hH hp rfl Ca rfl rfl (fun r9 hr9=>go A0 false ?_)
    conv=>whnf
    refine Ak ?_
    refine Aj [9] Aa ⟨?_,trivial⟩
    refine go A0 false ?_
    conv=>whnf
    (repeat refine Ar ?_)
    refine Ak ?_
    refine Aj [10] Aa ⟨?_,trivial⟩
    refine go A0 false ?_
    conv=>whnf
    refine D7 (j:=r8.2.2) A0 rfl rfl rfl rfl rfl rfl rfl rfl _ (E4 (j:=r8.2.2.toNat) (xs:=r.2.2.links) (e:=C2.c) (x:=r9.2.2) Ac rfl) (Al ?_)
    refine Ak ?_
    refine Ed Aa (Al ?_)
   rotate_left 1
   focus
    refine go A0 false ?_
    conv=>whnf
    refine Ak ?_
    refine Aj [1,6] Aa ⟨?_,?_,trivial⟩
    focus
     refine go A0 false ?_
     conv=>whnf
     refine Ak ?_
     refine Aj [6] Aa ⟨?_,trivial⟩
     refine go A0 false ?_
     conv=>whnf
     refine Fg (E5 d u.1 u.2.1 r.2.2.links.length hu.1 Ac) hH hp rfl Ca rfl rfl (fun r8 hr8=>go A0 false ?_)
     conv=>whnf
     have hk8:=hr8.2.2.2 Ac
     have hk7:=hr8.2.1
     refine Ak ?_
     refine Aj [8] Aa ⟨?_,trivial⟩
     refine go A0 false ?_
     conv=>whnf
     refine Fg (C0i d r8.1 r8.2.1 hr8.1) hH hp rfl Ca rfl rfl (fun r9 hr9=>go A0 false ?_)
     conv=>whnf
     refine Ak ?_
     refine Aj [9] Aa ⟨?_,trivial⟩
     refine go A0 false ?_
     conv=>whnf
     (repeat refine Ar ?_)
     refine Ak ?_
     refine Aj [10] Aa ⟨?_,trivial⟩
     refine go A0 false ?_
     conv=>whnf
     refine D7 (j:=r8.2.2) A0 rfl rfl rfl rfl rfl rfl rfl rfl _ (E4 (j:=r8.2.2.toNat) (xs:=r.2.2.links) (e:=C2.c) (x:=r9.2.2) Ac rfl) (Al ?_)
     refine Ak ?_
     refine Ed Aa (Al ?_)
    rotate_left 1
    focus
     refine go A0 false ?_
     conv=>whnf
     refine Fg (E5 d u.1 u.2.1 r.2.2.links.length hu.1 Ac) hH hp rfl Ca rfl rfl (fun r8 hr8=>go A0 false ?_)
     conv=>whnf
     have hk8:=hr8.2.2.2 Ac
     have hk7:=hr8.2.1
     refine Ak ?_
     refine Aj [1,8] Aa ⟨?_,?_,trivial⟩
     focus
      refine go A0 false ?_
      conv=>whnf
      refine Ak ?_
      refine Aj [8] Aa ⟨?_,trivial⟩
      refine go A0 false ?_
      conv=>whnf
      refine Fg (C0i d r8.1 r8.2.1 hr8.1) hH hp rfl Ca rfl rfl (fun r9 hr9=>go A0 false ?_)
      conv=>whnf
      refine Ak ?_
      refine Aj [9] Aa ⟨?_,trivial⟩
      refine go A0 false ?_
      conv=>whnf
      (repeat refine Ar ?_)
      refine Ak ?_
      refine Aj [10] Aa ⟨?_,trivial⟩
      refine go A0 false ?_
      conv=>whnf
      refine D7 (j:=r8.2.2) A0 rfl rfl rfl rfl rfl rfl rfl rfl _ (E4 (j:=r8.2.2.toNat) (xs:=r.2.2.links) (e:=C2.c) (x:=r9.2.2) Ac rfl) (Al ?_)
      refine Ak ?_
      refine Ed Aa (Al ?_)
     rotate_left 1
     focus
      refine go A0 false ?_
      conv=>whnf
      refine Fg (C0i d r8.1 r8.2.1 hr8.1) hH hp rfl Ca rfl rfl (fun r9 hr9=>go A0 false ?_)
      conv=>whnf
      refine Ak ?_
      refine Aj [1] Aa ⟨?_,trivial⟩
      refine go A0 false ?_
      conv=>whnf
      refine Ak ?_
      refine Aj [9] Aa ⟨?_,trivial⟩
      refine go A0 false ?_
      conv=>whnf
      (repeat refine Ar ?_)
      refine Ak ?_
      refine Aj [10] Aa ⟨?_,trivial⟩
      refine go A0 false ?_
      conv=>whnf
      refine D7 (j:=r8.2.2) A0 rfl rfl rfl rfl rfl rfl rfl rfl _ (E4 (j:=r8.2.2.toNat) (xs:=r.2.2.links) (e:=C2.c) (x:=r9.2.2) Ac rfl) (Al ?_)
      refine Ak ?_
      refine Ed Aa (Al ?_)
  all_goals
   have hsw:=Xf (c:=r.2.2) (k:=r8.2.2) (l:=r9.2.2) ⟨by omega,by omega⟩
   have h9:r9.2.2.w≤10:=hr9.2
   exact Kk A0 (r9.1,r9.2.1,B6 r.2.2 r8.2.2 r9.2.2) ⟨hr9.1,by show (B6 r.2.2 r8.2.2 r9.2.2).w≤7000;omega,og⟩ rfl rfl rfl rfl Ca
 repeat refine Bi ?_
 refine ⟨fun c2=>?_,fun c2=>?_⟩<;>conv=>whnf
 ·refine A8a rfl ?_
  refine M7 A0 false 0 rfl rfl rfl Aa rfl (Af D0) ?_
  refine M7 A0 false 2 rfl rfl rfl Aa rfl (Af D0) ?_
  refine M7 A0 false 4 rfl rfl rfl Aa rfl (Af D0) ?_
  refine Aj [1,3] Aa ⟨?_,?_,trivial⟩
  focus
   refine go A0 false ?_
   conv=>whnf
   refine Ak ?_
   refine Aj [3] Aa ⟨?_,trivial⟩
   refine go A0 false ?_
   conv=>whnf
   refine Fg (E5 d u.1 u.2.1 4 hu.1 Bu) hH hp rfl Ca rfl rfl (fun r8 hr8=>go A0 false ?_)
   conv=>whnf
   have hk8:=hr8.2.2.2 Bu
   have hk7:=hr8.2.1
   refine Ak ?_
   refine Aj [5] Aa ⟨?_,trivial⟩
   refine go A0 false ?_
   conv=>whnf
   refine Fg (E5 d r8.1 r8.2.1 6 hr8.1 Bu) hH hp rfl Ca rfl rfl (fun r9 hr9=>go A0 false ?_)
   conv=>whnf
   refine Ak ?_
   refine M7 A0 false 6 rfl rfl rfl Aa rfl (Af D0) ?_
   refine Aj [7] Aa ⟨?_,trivial⟩
   refine go A0 false ?_
   conv=>whnf
   (repeat refine Ar ?_)
   refine Ak ?_
   refine M7 A0 false 8 rfl rfl rfl Aa rfl (Af D0) ?_
   refine Aj [9] Aa ⟨?_,trivial⟩
   refine go A0 false ?_
   conv=>whnf
   refine D7 (j:=r8.2.2) A0 rfl rfl rfl rfl rfl rfl rfl rfl _ (E4 (j:=r8.2.2.toNat) (xs:=r.2.2.tokens) (e:=Es.c) (x:=⟨(r.2.2.tokens.getD r8.2.2.toNat default).going,r9.2.2-1,(r.2.2.tokens.getD r8.2.2.toNat default).sum,(r.2.2.tokens.getD r8.2.2.toNat default).black,(r.2.2.tokens.getD r8.2.2.toNat default).capped⟩) Ac rfl) (Al ?_)
   refine Ak ?_
   refine Ed Aa (Al ?_)
  rotate_left 1
  focus
   refine go A0 false ?_
   conv=>whnf
   refine Fg (E5 d u.1 u.2.1 4 hu.1 Bu) hH hp rfl Ca rfl rfl (fun r8 hr8=>go A0 false ?_)
   conv=>whnf
   have hk8:=hr8.2.2.2 Bu
   have hk7:=hr8.2.1
   refine Ak ?_
   refine Aj [1,5] Aa ⟨?_,?_,trivial⟩
   focus
    refine go A0 false ?_
    conv=>whnf
    refine Ak ?_
    refine Aj [5] Aa ⟨?_,trivial⟩
    refine go A0 false ?_
    conv=>whnf
    refine Fg (E5 d r8.1 r8.2.1 6 hr8.1 Bu) hH hp rfl Ca rfl rfl (fun r9 hr9=>go A0 false ?_)
    conv=>whnf
    refine Ak ?_
    refine M7 A0 false 6 rfl rfl rfl Aa rfl (Af D0) ?_
    refine Aj [7] Aa ⟨?_,trivial⟩
    refine go A0 false ?_
    conv=>whnf
    (repeat refine Ar ?_)
    refine Ak ?_
    refine M7 A0 false 8 rfl rfl rfl Aa rfl (Af D0) ?_
    refine Aj [9] Aa ⟨?_,trivial⟩
    refine go A0 false ?_
    conv=>whnf
    refine D7 (j:=r8.2.2) A0 rfl rfl rfl rfl rfl rfl rfl rfl _ (E4 (j:=r8.2.2.toNat) (xs:=r.2.2.tokens) (e:=Es.c) (x:=⟨(r.2.2.tokens.getD r8.2.2.toNat default).going,r9.2.2-1,(r.2.2.tokens.getD r8.2.2.toNat default).sum,(r.2.2.tokens.getD r8.2.2.toNat default).black,(r.2.2.tokens.getD r8.2.2.toNat default).capped⟩) Ac rfl) (Al ?_)
    refine Ak ?_
    refine Ed Aa (Al ?_)
   rotate_left 1
   focus
    refine go A0 false ?_
    conv=>whnf
    refine Fg (E5 d r8.1 r8.2.1 6 hr8.1 Bu) hH hp rfl Ca rfl rfl (fun r9 hr9=>go A0 false ?_)
    conv=>whnf
    refine Ak ?_
    refine M7 A0 false 6 rfl rfl rfl Aa rfl (Af D0) ?_
    refine Aj [1] Aa ⟨?_,trivial⟩
    refine go A0 false ?_
    conv=>whnf
    refine Ak ?_
    refine Aj [7] Aa ⟨?_,trivial⟩
    refine go A0 false ?_
    conv=>whnf
    (repeat refine Ar ?_)
    refine Ak ?_
    refine M7 A0 false 8 rfl rfl rfl Aa rfl (Af D0) ?_
    refine Aj [9] Aa ⟨?_,trivial⟩
    refine go A0 false ?_
    conv=>whnf
    refine D7 (j:=r8.2.2) A0 rfl rfl rfl rfl rfl rfl rfl rfl _ (E4 (j:=r8.2.2.toNat) (xs:=r.2.2.tokens) (e:=Es.c) (x:=⟨(r.2.2.tokens.getD r8.2.2.toNat default).going,r9.2.2-1,(r.2.2.tokens.getD r8.2.2.toNat default).sum,(r.2.2.tokens.getD r8.2.2.toNat default).black,(r.2.2.tokens.getD r8.2.2.toNat default).capped⟩) Ac rfl) (Al ?_)
    refine Ak ?_
    refine Ed Aa (Al ?_)
  all_goals
   have hsw:=Sa (c:=r.2.2) (e:=r8.2.2) (t:=⟨(r.2.2.tokens.getD r8.2.2.toNat default).going,r9.2.2-1,(r.2.2.tokens.getD r8.2.2.toNat default).sum,(r.2.2.tokens.getD r8.2.2.toNat default).black,(r.2.2.tokens.getD r8.2.2.toNat default).capped⟩)
   exact Kk A0 (r9.1,r9.2.1,Cp r.2.2 r8.2.2 ⟨(r.2.2.tokens.getD r8.2.2.toNat default).going,r9.2.2-1,(r.2.2.tokens.getD r8.2.2.toNat default).sum,(r.2.2.tokens.getD r8.2.2.toNat default).black,(r.2.2.tokens.getD r8.2.2.toNat default).capped⟩) ⟨hr9.1,by show (Cp r.2.2 r8.2.2 ⟨(r.2.2.tokens.getD r8.2.2.toNat default).going,r9.2.2-1,(r.2.2.tokens.getD r8.2.2.toNat default).sum,(r.2.2.tokens.getD r8.2.2.toNat default).black,(r.2.2.tokens.getD r8.2.2.toNat default).capped⟩).w≤7000;omega,og⟩ rfl rfl rfl rfl Ca
 repeat refine Bi ?_
 refine ⟨fun c3=>?_,fun c3=>?_⟩<;>conv=>whnf
 ·refine A8a rfl ?_
  refine M7 A0 false 0 rfl rfl rfl Aa rfl (Af D0) ?_
  refine M7 A0 false 2 rfl rfl rfl Aa rfl (Af D0) ?_
  refine Aj [1,3] Aa ⟨?_,?_,trivial⟩
  focus
   refine go A0 false ?_
   conv=>whnf
   refine Ak ?_
   refine Aj [3] Aa ⟨?_,trivial⟩
   refine go A0 false ?_
   conv=>whnf
   refine Ak ?_
   refine Aj [4] Aa ⟨?_,trivial⟩
   refine go A0 false ?_
   conv=>whnf
   refine O2 8 (F1 [1000000,1000001,-1000001,3]) rfl (Db rfl C38) ?_
   refine Fg (A57 d u.1 u.2.1 [1000000,1000001,-1000001,3] hu.1 Bu) hH hp rfl Ca rfl rfl (fun r9 hr9=>go A0 false ?_)
   conv=>whnf
   refine Ak ?_
   refine Aj [5] Aa ⟨?_,trivial⟩
   refine go A0 false ?_
   conv=>whnf
   (repeat refine Ar ?_)
   refine Ak ?_
   refine M7 A0 false 6 rfl rfl rfl Aa rfl (Af D0) ?_
   refine Aj [7] Aa ⟨?_,trivial⟩
   refine go A0 false ?_
   conv=>whnf
   refine D7 (j:=0) A0 rfl rfl rfl rfl rfl rfl rfl rfl _ (E4 (j:=0) (xs:=r.2.2.tokens) (e:=Es.c) (x:=⟨(r.2.2.tokens.getD 0 default).going,(r.2.2.tokens.getD 0 default).at_,[1000000,1000001,-1000001,3].getD r9.2.2 0,(r.2.2.tokens.getD 0 default).black,(r.2.2.tokens.getD 0 default).capped⟩) Ac rfl) (Al ?_)
   refine Ak ?_
   refine Ed Aa (Al ?_)
  rotate_left 1
  focus
   refine go A0 false ?_
   conv=>whnf
   refine Ak ?_
   refine Aj [1,4] Aa ⟨?_,?_,trivial⟩
   focus
    refine go A0 false ?_
    conv=>whnf
    refine Ak ?_
    refine Aj [4] Aa ⟨?_,trivial⟩
    refine go A0 false ?_
    conv=>whnf
    refine O2 8 (F1 [1000000,1000001,-1000001,3]) rfl (Db rfl C38) ?_
    refine Fg (A57 d u.1 u.2.1 [1000000,1000001,-1000001,3] hu.1 Bu) hH hp rfl Ca rfl rfl (fun r9 hr9=>go A0 false ?_)
    conv=>whnf
    refine Ak ?_
    refine Aj [5] Aa ⟨?_,trivial⟩
    refine go A0 false ?_
    conv=>whnf
    (repeat refine Ar ?_)
    refine Ak ?_
    refine M7 A0 false 6 rfl rfl rfl Aa rfl (Af D0) ?_
    refine Aj [7] Aa ⟨?_,trivial⟩
    refine go A0 false ?_
    conv=>whnf
    refine D7 (j:=0) A0 rfl rfl rfl rfl rfl rfl rfl rfl _ (E4 (j:=0) (xs:=r.2.2.tokens) (e:=Es.c) (x:=⟨(r.2.2.tokens.getD 0 default).going,(r.2.2.tokens.getD 0 default).at_,[1000000,1000001,-1000001,3].getD r9.2.2 0,(r.2.2.tokens.getD 0 default).black,(r.2.2.tokens.getD 0 default).capped⟩) Ac rfl) (Al ?_)
    refine Ak ?_
    refine Ed Aa (Al ?_)
   rotate_left 1
   focus
    refine go A0 false ?_
    conv=>whnf
    refine O2 8 (F1 [1000000,1000001,-1000001,3]) rfl (Db rfl C38) ?_
    refine Fg (A57 d u.1 u.2.1 [1000000,1000001,-1000001,3] hu.1 Bu) hH hp rfl Ca rfl rfl (fun r9 hr9=>go A0 false ?_)
    conv=>whnf
    refine Ak ?_
    refine Aj [1] Aa ⟨?_,trivial⟩
    refine go A0 false ?_
    conv=>whnf
    refine Ak ?_
    refine Aj [5] Aa ⟨?_,trivial⟩
    refine go A0 false ?_
    conv=>whnf
    (repeat refine Ar ?_)
    refine Ak ?_
    refine M7 A0 false 6 rfl rfl rfl Aa rfl (Af D0) ?_
    refine Aj [7] Aa ⟨?_,trivial⟩
    refine go A0 false ?_
    conv=>whnf
    refine D7 (j:=0) A0 rfl rfl rfl rfl rfl rfl rfl rfl _ (E4 (j:=0) (xs:=r.2.2.tokens) (e:=Es.c) (x:=⟨(r.2.2.tokens.getD 0 default).going,(r.2.2.tokens.getD 0 default).at_,[1000000,1000001,-1000001,3].getD r9.2.2 0,(r.2.2.tokens.getD 0 default).black,(r.2.2.tokens.getD 0 default).capped⟩) Ac rfl) (Al ?_)
    refine Ak ?_
    refine Ed Aa (Al ?_)
  all_goals
   have hsw:=Sa (c:=r.2.2) (e:=0) (t:=⟨(r.2.2.tokens.getD 0 default).going,(r.2.2.tokens.getD 0 default).at_,[1000000,1000001,-1000001,3].getD r9.2.2 0,(r.2.2.tokens.getD 0 default).black,(r.2.2.tokens.getD 0 default).capped⟩)
   exact Kk A0 (r9.1,r9.2.1,Cp r.2.2 0 ⟨(r.2.2.tokens.getD 0 default).going,(r.2.2.tokens.getD 0 default).at_,[1000000,1000001,-1000001,3].getD r9.2.2 0,(r.2.2.tokens.getD 0 default).black,(r.2.2.tokens.getD 0 default).capped⟩) ⟨hr9.1,by show (Cp r.2.2 0 ⟨(r.2.2.tokens.getD 0 default).going,(r.2.2.tokens.getD 0 default).at_,[1000000,1000001,-1000001,3].getD r9.2.2 0,(r.2.2.tokens.getD 0 default).black,(r.2.2.tokens.getD 0 default).capped⟩).w≤7000;omega,og⟩ rfl rfl rfl rfl Ca
 repeat refine Bi ?_
 refine ⟨fun c4=>?_,fun c4=>?_⟩<;>conv=>whnf
 ·refine A8a rfl ?_
  refine M7 A0 false 0 rfl rfl rfl Aa rfl (Af D0) ?_
  refine M7 A0 false 2 rfl rfl rfl Aa rfl (Af D0) ?_
  refine M7 A0 false 5 rfl rfl rfl Aa rfl (Af D0) ?_
  refine Aj [1,3] Aa ⟨?_,?_,trivial⟩
  focus
   refine go A0 false ?_
   conv=>whnf
   refine Ak ?_
   refine Aj [3] Aa ⟨?_,trivial⟩
   refine go A0 false ?_
   conv=>whnf
   refine Fg (E5 d u.1 u.2.1 6 hu.1 Bu) hH hp rfl Ca rfl rfl (fun r8 hr8=>go A0 false ?_)
   conv=>whnf
   refine Ak ?_
   refine M7 A0 false 4 rfl rfl rfl Aa rfl (Af D0) ?_
   refine Aj [6] Aa ⟨?_,trivial⟩
   refine go A0 false ?_
   conv=>whnf
   refine Fg (E5 d r8.1 r8.2.1 6 hr8.1 Bu) hH hp rfl Ca rfl rfl (fun r9 hr9=>go A0 false ?_)
   conv=>whnf
   refine Ak ?_
   refine M7 A0 false 7 rfl rfl rfl Aa rfl (Af D0) ?_
   refine Aj [8] Aa ⟨?_,trivial⟩
   refine go A0 false ?_
   conv=>whnf
   refine Ak ?_
   refine Aj [9] Aa ⟨?_,trivial⟩
   refine go A0 false ?_
   conv=>whnf
   refine Ak ?_
   refine Aj [10] Aa ⟨?_,trivial⟩
   refine go A0 false ?_
   conv=>whnf
   refine Dp A0 rfl rfl rfl rfl rfl rfl rfl rfl rfl rfl rfl (Ef (r.2.2.news++[⟨r8.2.2-1,r9.2.2-1,false⟩])) (Bf rfl) M1 Ac (Al ?_)
   refine Ak ?_
   refine M7 A0 false 11 rfl rfl rfl Aa rfl (Af D0) ?_
   refine Aj [12] Aa ⟨?_,trivial⟩
   refine go A0 false ?_
   conv=>whnf
   refine Ak ?_
   refine Ed Aa (Al ?_)
  rotate_left 1
  focus
   refine go A0 false ?_
   conv=>whnf
   refine Fg (E5 d u.1 u.2.1 6 hu.1 Bu) hH hp rfl Ca rfl rfl (fun r8 hr8=>go A0 false ?_)
   conv=>whnf
   refine Ak ?_
   refine M7 A0 false 4 rfl rfl rfl Aa rfl (Af D0) ?_
   refine Aj [1,6] Aa ⟨?_,?_,trivial⟩
   focus
    refine go A0 false ?_
    conv=>whnf
    refine Ak ?_
    refine Aj [6] Aa ⟨?_,trivial⟩
    refine go A0 false ?_
    conv=>whnf
    refine Fg (E5 d r8.1 r8.2.1 6 hr8.1 Bu) hH hp rfl Ca rfl rfl (fun r9 hr9=>go A0 false ?_)
    conv=>whnf
    refine Ak ?_
    refine M7 A0 false 7 rfl rfl rfl Aa rfl (Af D0) ?_
    refine Aj [8] Aa ⟨?_,trivial⟩
    refine go A0 false ?_
    conv=>whnf
    refine Ak ?_
    refine Aj [9] Aa ⟨?_,trivial⟩
    refine go A0 false ?_
    conv=>whnf
    refine Ak ?_
    refine Aj [10] Aa ⟨?_,trivial⟩
    refine go A0 false ?_
    conv=>whnf
    refine Dp A0 rfl rfl rfl rfl rfl rfl rfl rfl rfl rfl rfl (Ef (r.2.2.news++[⟨r8.2.2-1,r9.2.2-1,false⟩])) (Bf rfl) M1 Ac (Al ?_)
    refine Ak ?_
    refine M7 A0 false 11 rfl rfl rfl Aa rfl (Af D0) ?_
    refine Aj [12] Aa ⟨?_,trivial⟩
    refine go A0 false ?_
    conv=>whnf
    refine Ak ?_
    refine Ed Aa (Al ?_)
   rotate_left 1
   focus
    refine go A0 false ?_
    conv=>whnf
    refine Fg (E5 d r8.1 r8.2.1 6 hr8.1 Bu) hH hp rfl Ca rfl rfl (fun r9 hr9=>go A0 false ?_)
    conv=>whnf
    refine Ak ?_
    refine M7 A0 false 7 rfl rfl rfl Aa rfl (Af D0) ?_
    refine Aj [1,8] Aa ⟨?_,?_,trivial⟩
    focus
     refine go A0 false ?_
     conv=>whnf
     refine Ak ?_
     refine Aj [8] Aa ⟨?_,trivial⟩
     refine go A0 false ?_
     conv=>whnf
     refine Ak ?_
     refine Aj [9] Aa ⟨?_,trivial⟩
     refine go A0 false ?_
     conv=>whnf
     refine Ak ?_
     refine Aj [10] Aa ⟨?_,trivial⟩
     refine go A0 false ?_
     conv=>whnf
     refine Dp A0 rfl rfl rfl rfl rfl rfl rfl rfl rfl rfl rfl (Ef (r.2.2.news++[⟨r8.2.2-1,r9.2.2-1,false⟩])) (Bf rfl) M1 Ac (Al ?_)
     refine Ak ?_
     refine M7 A0 false 11 rfl rfl rfl Aa rfl (Af D0) ?_
     refine Aj [12] Aa ⟨?_,trivial⟩
     refine go A0 false ?_
     conv=>whnf
     refine Ak ?_
     refine Ed Aa (Al ?_)
    rotate_left 1
    focus
     refine go A0 false ?_
     conv=>whnf
     refine Ak ?_
     refine Aj [1,9] Aa ⟨?_,?_,trivial⟩
     focus
      refine go A0 false ?_
      conv=>whnf
      refine Ak ?_
      refine Aj [9] Aa ⟨?_,trivial⟩
      refine go A0 false ?_
      conv=>whnf
      refine Ak ?_
      refine Aj [10] Aa ⟨?_,trivial⟩
      refine go A0 false ?_
      conv=>whnf
      refine Dp A0 rfl rfl rfl rfl rfl rfl rfl rfl rfl rfl rfl (Ef (r.2.2.news++[⟨r8.2.2-1,r9.2.2-1,false⟩])) (Bf rfl) M1 Ac (Al ?_)
      refine Ak ?_
      refine M7 A0 false 11 rfl rfl rfl Aa rfl (Af D0) ?_
      refine Aj [12] Aa ⟨?_,trivial⟩
      refine go A0 false ?_
      conv=>whnf
      refine Ak ?_
      refine Ed Aa (Al ?_)
     rotate_left 1
     focus
      refine go A0 false ?_
      conv=>whnf
      refine Ak ?_
      refine Aj [1] Aa ⟨?_,trivial⟩
      refine go A0 false ?_
      conv=>whnf
      refine Ak ?_
      refine Aj [10] Aa ⟨?_,trivial⟩
      refine go A0 false ?_
      conv=>whnf
      refine Dp A0 rfl rfl rfl rfl rfl rfl rfl rfl rfl rfl rfl (Ef (r.2.2.news++[⟨r8.2.2-1,r9.2.2-1,false⟩])) (Bf rfl) M1 Ac (Al ?_)
      refine Ak ?_
      refine M7 A0 false 11 rfl rfl rfl Aa rfl (Af D0) ?_
      refine Aj [12] Aa ⟨?_,trivial⟩
      refine go A0 false ?_
      conv=>whnf
      refine Ak ?_
      refine Ed Aa (Al ?_)
  all_goals
   exact Kk A0 (r9.1,r9.2.1,⟨r.2.2.graph,r.2.2.workers,r.2.2.links,r.2.2.tokens,r.2.2.news++[⟨r8.2.2-1,r9.2.2-1,false⟩]⟩) ⟨hr9.1,by have:=hcw;simp only [A3.w,List.length_append,List.length_cons,List.length_nil] at this ⊢;omega,og⟩ rfl rfl rfl rfl Ca
 repeat refine Bi ?_
 refine ⟨fun c5=>?_,fun c5=>?_⟩<;>conv=>whnf
 ·refine Fg (C3d d u.1 u.2.1 hu.1) hH hp rfl Ca rfl rfl (fun r9 hr9=>go A0 false ?_)
  conv=>whnf
  have h9:=hr9.2.2
  exact Kk A0 (r9.1,r9.2.1,⟨r9.2.2,r.2.2.workers,r.2.2.links,r.2.2.tokens,r.2.2.news⟩) ⟨hr9.1,by have:=hcw;simp only [A3.w] at this ⊢;omega,hr9.2.1.2.1⟩ rfl rfl rfl rfl Ca
 repeat refine Bi ?_
 refine ⟨fun c6=>?_,fun c6=>?_⟩<;>conv=>whnf
 ·refine C35 A0 rfl rfl rfl rfl rfl rfl rfl rfl rfl ⟨by decide,by omega⟩ Ac _ rfl (Al ?_)
  refine To 8 (C0 (r.2.2.tokens.take 3)) rfl (C18 (es:=5) (e:=Es.c) (xs:=r.2.2.tokens) (m:=3) Ac) ?_
  exact Kk A0 (u.1,u.2.1,⟨r.2.2.graph,r.2.2.workers,r.2.2.links,r.2.2.tokens.take 3,r.2.2.news⟩) ⟨hu.1,by have:=hcw;simp only [A3.w,List.length_take] at this ⊢;omega,og⟩ rfl rfl rfl rfl Ca
 ·repeat refine Bi ?_
  exact Kk A0 (u.1,u.2.1,r.2.2) ⟨hu.1,by show r.2.2.w≤7000;omega,og⟩ rfl rfl rfl rfl Ca
end Go.Proofs.YtonodkjaoalfjaaGreat
