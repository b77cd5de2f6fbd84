/- Part 32 of the proof that each of the laws FnStalls returns true for every input. No conditions. -/
import Derived.Test.YtonodkjaoalfjaaGreatP4
import Derived.Test.YtonodkjaoalfjaaGreatP31
import Derived.Test.YtonodkjaoalfjaaGreatP23

set_option linter.unusedSimpArgs false
set_option linter.unusedVariables false
set_option maxRecDepth 100000
namespace Go.Proofs.YtonodkjaoalfjaaGreat
open Go.Sx
def C3b (x:Cb):Prop:=x.ok∧x.outs.length≤20
def C2j (xs:List Cb):Prop:=∀x∈xs,C3b x
theorem B84.m {m:Nat}{x:Cb}(h:B84 m x)(hm:m≤20):C3b x:=⟨h.1,Nat.le_trans h.2 hm⟩
theorem C2e {x:Cb}(h:V3 x):x.ok∧x.outs.length≤10:=by
 obtain ⟨h1,h2,h3,h4,h5⟩:=h
 exact ⟨⟨A5q Ac Ac,A5q Ac Ac,A5q Ac Ac,by rw [maxLen];omega,fun n hn=>by have:=h5 n hn;exact A5q Ac Ac⟩,h4⟩
theorem C5a {xs:List Cb}(h:A2l xs):C2j xs:=fun x hx=>⟨(C2e (h x hx)).1,Nat.le_trans (C2e (h x hx)).2 Bu⟩
theorem C39 {x:Cb}{xs:List Cb}(hs:C2j xs)(h:C3b x):C2j (xs++[x]):=fun y hy=>by
 rcases List.mem_append.1 hy with hy|hy
 ·exact hs y hy
 ·rw [List.mem_singleton.1 hy];exact h
theorem C3c {x:Cb}{xs:List Cb}{j:Nat}(hs:C2j xs)(h:C3b x):C2j (xs.set j x):=fun y hy=>by
 rcases List.mem_or_eq_of_mem_set hy with hy|rfl
 ·exact hs y hy
 ·exact h
theorem C4a {xs:List Cb}(k:Nat)(hs:C2j xs):C2j (xs.take k):=fun y hy=>hs y (List.mem_of_mem_take hy)
def C4n (g:Ad):Prop:=g.ok∧g.w≤1000
theorem C37:∀{xs:List Cb},C2j xs→(xs.map Cb.w).sum≤20 * xs.length
 | [],_=>Nat.le_refl _
 |x::r,h=>by
  have h1:x.w≤20:=(h x (List.mem_cons_self ..)).2
  have h2:=C37 fun y hy=>h y (List.mem_cons_of_mem _ hy)
  rw [List.map_cons,List.sum_cons,List.length_cons]
  omega
theorem B6s {ns:List Cb}{a b:Int}(h:C2j ns)(hl:ns.length≤10)(ha:K9 .i64 a)(hb:K9 .i64 b):C4n ⟨ns,a,b⟩:=by
 refine ⟨⟨⟨by show ns.length≤maxLen;rw [maxLen];omega,fun x hx=>(h x hx).1⟩,ha,hb⟩,?_⟩
 have:=C37 h
 show ns.length+(ns.map Cb.w).sum≤1000
 omega
theorem L1 {α:Type} [Inhabited α] {es:Nat}{e:α→List A8}{xs:List α}{j off:Nat}{v:Value}{x:α}{cs:List A8}(hj:j<xs.length)(h:Dj (Dj (e (xs.getD j default)) off [.val v]) off cs=e x):
  Of xs.length es (fun i=>if i=j then Dj (e (xs.getD i default)) off [.val v] else e (xs.getD i default)) j off cs (Du es e (xs.set j x)):=by
 refine ⟨_,by rw [Du,List.length_set],fun i hi hne=>?_,?_⟩
 ·simp only [if_neg hne,Go.Sx.getD_set_ne _ _ _ _ _ hne]
 ·simp only [if_true,h,Go.Sx.getD_set_self _ _ _ _ hj]
theorem C4b {α:Type} [Inhabited α] {es:Nat}{e:α→List A8}{xs:List α}{m:Nat}(hm:m≤xs.length):Iu (.sl m es fun i=>e (xs.getD i default)) (Du es e (xs.take m)):=by
 have hl:(xs.take m).length=m:=by rw [List.length_take];omega
 refine ⟨hl,rfl,fun i hi=>?_⟩
 have:(xs.take m).getD i default=xs.getD i default:=by
  simp [List.getD,hi]
 show Gb _ (e ((xs.take m).getD i default))
 rw [this]
 exact Gb.rfl' _
theorem C55:C3b ⟨8,0,0,[]⟩:=by
 refine ⟨⟨A5q Bu Bu,A5q Bu Bu,A5q Bu Bu,Nat.zero_le _,fun n hn=>by cases hn⟩,Nat.zero_le _⟩
structure JGr where
 i:Int
 h:Int
 xs:List Cb
set_option maxHeartbeats 4000000 in
theorem C3d (d:I9)(i h:Int)(hi:0≤i∧i≤d.n):Iv Tryz.prog HT 134 d.pins (d.cur i h) [] (fun r:Int×Int×Ad=>(0≤r.1∧r.1≤d.n)∧C4n r.2.2) (fun r=>d.cur r.1 r.2.1) (fun r=>[.agg r.2.2.c]):=by
 refine Ol A0 false Tryz.func134 rfl Bu fun B b hH hp=>?_
 conv=>whnf
 refine Fg (C4c d i h hi) hH hp rfl Ca rfl rfl (fun r hr=>go A0 false ?_)
 conv=>whnf
 obtain ⟨hr1,_,hn,hl,hw,hc⟩:=hr
 have hm:=C5a hn
 refine Fg (E5 d r.1 r.2.1 r.2.2.nodes.length hr1 Ac) hH hp rfl Ca rfl rfl (fun r2 hr2=>go A0 false ?_)
 conv=>whnf
 have hk:=hr2.2.2.2 Ac
 have hk0:=hr2.2.1
 refine Fg (E5 d r2.1 r2.2.1 12 hr2.1 Bu) hH hp rfl Ca rfl rfl (fun r3 hr3=>go A0 false ?_)
 conv=>whnf
 refine ⟨fun c0=>?_,fun c0=>?_⟩<;>conv=>whnf
 ·repeat refine Bi ?_
  refine A8a rfl ?_
  refine M7 A0 false 0 rfl rfl rfl Aa rfl (Af D0) ?_
  refine M7 A0 false 2 rfl rfl rfl Aa rfl (Af D0) ?_
  refine M7 A0 false 3 rfl rfl rfl Aa rfl (Af D0) ?_
  refine Aj [1,4] Aa ⟨?_,?_,trivial⟩
  focus
   refine go A0 false ?_
   conv=>whnf
   refine Ak ?_
   refine Aj [4] Aa ⟨?_,trivial⟩
   refine go A0 false ?_
   conv=>whnf
   refine Fg (C19 d r3.1 r3.2.1 hr3.1) hH hp rfl Ca rfl rfl (fun r4 hr4=>go A0 false ?_)
   conv=>whnf
   refine Ak ?_
   refine Aj [5] Aa ⟨?_,trivial⟩
   refine go A0 false ?_
   conv=>whnf
   (repeat refine Ar ?_)
   refine Ak ?_
   refine Aj [6] Aa ⟨?_,trivial⟩
   refine go A0 false ?_
   conv=>whnf
   refine D7 (j:=r2.2.2) A0 rfl rfl rfl rfl rfl rfl rfl rfl _ (E4 (j:=r2.2.2.toNat) (xs:=r.2.2.nodes) (e:=Cb.c) (x:=r4.2.2) Ac rfl) (Al ?_)
   refine Ak ?_
   refine Ed Aa (Al ?_)
  rotate_left 1
  focus
   refine go A0 false ?_
   conv=>whnf
   refine Fg (C19 d r3.1 r3.2.1 hr3.1) hH hp rfl Ca rfl rfl (fun r4 hr4=>go A0 false ?_)
   conv=>whnf
   refine Ak ?_
   refine Aj [1] Aa ⟨?_,trivial⟩
   refine go A0 false ?_
   conv=>whnf
   refine Ak ?_
   refine Aj [5] Aa ⟨?_,trivial⟩
   refine go A0 false ?_
   conv=>whnf
   (repeat refine Ar ?_)
   refine Ak ?_
   refine Aj [6] Aa ⟨?_,trivial⟩
   refine go A0 false ?_
   conv=>whnf
   refine D7 (j:=r2.2.2) A0 rfl rfl rfl rfl rfl rfl rfl rfl _ (E4 (j:=r2.2.2.toNat) (xs:=r.2.2.nodes) (e:=Cb.c) (x:=r4.2.2) Ac rfl) (Al ?_)
   refine Ak ?_
   refine Ed Aa (Al ?_)
  all_goals exact Kk A0 (r4.1,r4.2.1,⟨r.2.2.nodes.set r2.2.2.toNat r4.2.2,r.2.2.workers,r.2.2.cap⟩) ⟨hr4.1,B6s (C3c hm (hr4.2.m Bu)) (by rw [List.length_set];omega) (A5q Ac Ac) (A5q Ac Ac)⟩ rfl rfl rfl rfl Ca
 repeat refine Bi ?_
 refine ⟨fun c1=>?_,fun c1=>?_⟩<;>conv=>whnf
 ·repeat refine Bi ?_
  refine O2 4 (F1 [0,4,5,-1]) rfl (Db rfl F3) ?_
  refine Fg (A57 d r3.1 r3.2.1 [0,4,5,-1] hr3.1 Bu) hH hp rfl Ca rfl rfl (fun r4 hr4=>go A0 false ?_)
  conv=>whnf
  exact Kk A0 (r4.1,r4.2.1,⟨r.2.2.nodes,[0,4,5,-1].getD r4.2.2 0,r.2.2.cap⟩) ⟨hr4.1,B6s hm Ac (B5r _ _ (by intro x hx;simp only [List.mem_cons,List.not_mem_nil,or_false] at hx;show _∧_;omega)) (A5q Ac Ac)⟩ rfl rfl rfl rfl Ca
 repeat refine Bi ?_
 refine ⟨fun c2=>?_,fun c2=>?_⟩<;>conv=>whnf
 ·repeat refine Bi ?_
  refine O2 4 (F1 [0,4,5,-1]) rfl (Db rfl F3) ?_
  refine Fg (A57 d r3.1 r3.2.1 [0,4,5,-1] hr3.1 Bu) hH hp rfl Ca rfl rfl (fun r4 hr4=>go A0 false ?_)
  conv=>whnf
  exact Kk A0 (r4.1,r4.2.1,⟨r.2.2.nodes,r.2.2.workers,[0,4,5,-1].getD r4.2.2 0⟩) ⟨hr4.1,B6s hm Ac (A5q Ac Ac) (B5r _ _ (by intro x hx;simp only [List.mem_cons,List.not_mem_nil,or_false] at hx;show _∧_;omega))⟩ rfl rfl rfl rfl Ca
 repeat refine Bi ?_
 refine ⟨fun c3=>?_,fun c3=>?_⟩<;>conv=>whnf
 ·repeat refine Bi ?_
  have hx:=hm _ (Aq (d:=default) (show r2.2.2.toNat<r.2.2.nodes.length by omega))
  have hx2:=(C2e (hn _ (Aq (d:=default) (show r2.2.2.toNat<r.2.2.nodes.length by omega)))).2
  refine A8a rfl ?_
  refine M7 A0 false 0 rfl rfl rfl Aa rfl (Af D0) ?_
  refine M7 A0 false 2 rfl rfl rfl Aa rfl (Af D0) ?_
  refine M7 A0 false 3 rfl rfl rfl Aa rfl (Af D0) ?_
  refine M7 A0 false 5 rfl rfl rfl Aa rfl (Af D0) ?_
  refine M7 A0 false 9 rfl rfl rfl Aa rfl (Af D0) ?_
  refine Aj [1,4,10] Aa ⟨?_,?_,?_,trivial⟩
  focus
   refine go A0 false ?_
   conv=>whnf
   refine Ak ?_
   refine Aj [4,10] Aa ⟨?_,?_,trivial⟩
   focus
    refine go A0 false ?_
    conv=>whnf
    refine Ak ?_
    refine Aj [6,10] Aa ⟨?_,?_,trivial⟩
    focus
     refine go A0 false ?_
     conv=>whnf
     (repeat refine Ar ?_)
     refine Ak ?_
     refine M7 A0 false 7 rfl rfl rfl Aa rfl (Af D0) ?_
     refine Aj [8,10] Aa ⟨?_,?_,trivial⟩
     focus
      refine go A0 false ?_
      conv=>whnf
      refine B8e A0 rfl rfl rfl rfl rfl rfl (c:=F1 (r.2.2.nodes.getD r2.2.2.toNat default).outs) rfl (fun v=>go A0 false ?_)
      conv=>whnf
      refine Ak ?_
      refine Aj [10] Aa ⟨?_,trivial⟩
      refine go A0 false ?_
      conv=>whnf
      refine Fg (E5 d r3.1 r3.2.1 9 hr3.1 Bu) hH hp rfl Ca rfl rfl (fun r4 hr4=>go A0 false ?_)
      conv=>whnf
      refine Ak ?_
      refine M7 A0 false 11 rfl rfl rfl Aa rfl (Af D0) ?_
      refine Aj [12] Aa ⟨?_,trivial⟩
      refine go A0 false ?_
      conv=>whnf
      refine Ak ?_
      refine Aj [13] Aa ⟨?_,trivial⟩
      refine go A0 false ?_
      conv=>whnf
      refine Dp A0 rfl rfl rfl rfl rfl rfl rfl rfl rfl rfl rfl (F1 ((r.2.2.nodes.getD r2.2.2.toNat default).outs++[r4.2.2-1])) (Bf rfl) M1 Ac (Al ?_)
      refine Ak ?_
      refine Aj [14] Aa ⟨?_,trivial⟩
      refine go A0 false ?_
      conv=>whnf
      (repeat refine Ar ?_)
      refine Ak ?_
      refine M7 A0 false 15 rfl rfl rfl Aa rfl (Af D0) ?_
      refine Aj [16] Aa ⟨?_,trivial⟩
      refine go A0 false ?_
      conv=>whnf
      refine D7 (j:=r2.2.2) A0 rfl rfl rfl rfl rfl rfl rfl rfl _ (L1 (j:=r2.2.2.toNat) (xs:=r.2.2.nodes) (e:=Cb.c) (x:=⟨(r.2.2.nodes.getD r2.2.2.toNat default).kind,(r.2.2.nodes.getD r2.2.2.toNat default).a,(r.2.2.nodes.getD r2.2.2.toNat default).b,(r.2.2.nodes.getD r2.2.2.toNat default).outs++[r4.2.2-1]⟩) Ac rfl) (Al ?_)
      refine Ak ?_
      refine Ed Aa (Al ?_)
     rotate_left 1
     focus
      refine go A0 false ?_
      conv=>whnf
      refine Fg (E5 d r3.1 r3.2.1 9 hr3.1 Bu) hH hp rfl Ca rfl rfl (fun r4 hr4=>go A0 false ?_)
      conv=>whnf
      refine Ak ?_
      refine M7 A0 false 11 rfl rfl rfl Aa rfl (Af D0) ?_
      refine Aj [8,12] Aa ⟨?_,?_,trivial⟩
      focus
       refine go A0 false ?_
       conv=>whnf
       refine B8e A0 rfl rfl rfl rfl rfl rfl (c:=F1 (r.2.2.nodes.getD r2.2.2.toNat default).outs) rfl (fun v=>go A0 false ?_)
       conv=>whnf
       refine Ak ?_
       refine Aj [12] Aa ⟨?_,trivial⟩
       refine go A0 false ?_
       conv=>whnf
       refine Ak ?_
       refine Aj [13] Aa ⟨?_,trivial⟩
       refine go A0 false ?_
       conv=>whnf
       refine Dp A0 rfl rfl rfl rfl rfl rfl rfl rfl rfl rfl rfl (F1 ((r.2.2.nodes.getD r2.2.2.toNat default).outs++[r4.2.2-1])) (Bf rfl) M1 Ac (Al ?_)
       refine Ak ?_
       refine Aj [14] Aa ⟨?_,trivial⟩
       refine go A0 false ?_
       conv=>whnf
       (repeat refine Ar ?_)
       refine Ak ?_
       refine M7 A0 false 15 rfl rfl rfl Aa rfl (Af D0) ?_
       refine Aj [16] Aa ⟨?_,trivial⟩
       refine go A0 false ?_
       conv=>whnf
       refine D7 (j:=r2.2.2) A0 rfl rfl rfl rfl rfl rfl rfl rfl _ (L1 (j:=r2.2.2.toNat) (xs:=r.2.2.nodes) (e:=Cb.c) (x:=⟨(r.2.2.nodes.getD r2.2.2.toNat default).kind,(r.2.2.nodes.getD r2.2.2.toNat default).a,(r.2.2.nodes.getD r2.2.2.toNat default).b,(r.2.2.nodes.getD r2.2.2.toNat default).outs++[r4.2.2-1]⟩) Ac rfl) (Al ?_)
       refine Ak ?_
       refine Ed Aa (Al ?_)
      rotate_left 1
      focus
       refine go A0 false ?_
       conv=>whnf
       refine Ak ?_
       refine Aj [8] Aa ⟨?_,trivial⟩
       refine go A0 false ?_
       conv=>whnf
       refine B8e A0 rfl rfl rfl rfl rfl rfl (c:=F1 (r.2.2.nodes.getD r2.2.2.toNat default).outs) rfl (fun v=>go A0 false ?_)
       conv=>whnf
       refine Ak ?_
       refine Aj [13] Aa ⟨?_,trivial⟩
       refine go A0 false ?_
       conv=>whnf
       refine Dp A0 rfl rfl rfl rfl rfl rfl rfl rfl rfl rfl rfl (F1 ((r.2.2.nodes.getD r2.2.2.toNat default).outs++[r4.2.2-1])) (Bf rfl) M1 Ac (Al ?_)
       refine Ak ?_
       refine Aj [14] Aa ⟨?_,trivial⟩
       refine go A0 false ?_
       conv=>whnf
       (repeat refine Ar ?_)
       refine Ak ?_
       refine M7 A0 false 15 rfl rfl rfl Aa rfl (Af D0) ?_
       refine Aj [16] Aa ⟨?_,trivial⟩
       refine go A0 false ?_
       conv=>whnf
       refine D7 (j:=r2.2.2) A0 rfl rfl rfl rfl rfl rfl rfl rfl _ (L1 (j:=r2.2.2.toNat) (xs:=r.2.2.nodes) (e:=Cb.c) (x:=⟨(r.2.2.nodes.getD r2.2.2.toNat default).kind,(r.2.2.nodes.getD r2.2.2.toNat default).a,(r.2.2.nodes.getD r2.2.2.toNat default).b,(r.2.2.nodes.getD r2.2.2.toNat default).outs++[r4.2.2-1]⟩) Ac rfl) (Al ?_)
       refine Ak ?_
       refine Ed Aa (Al ?_)
    rotate_left 3
    focus
     refine go A0 false ?_
     conv=>whnf
     refine Fg (E5 d r3.1 r3.2.1 9 hr3.1 Bu) hH hp rfl Ca rfl rfl (fun r4 hr4=>go A0 false ?_)
     conv=>whnf
     refine Ak ?_
     refine M7 A0 false 11 rfl rfl rfl Aa rfl (Af D0) ?_
     refine Aj [6,12] Aa ⟨?_,?_,trivial⟩
     focus
      refine go A0 false ?_
      conv=>whnf
      (repeat refine Ar ?_)
      refine Ak ?_
      refine M7 A0 false 7 rfl rfl rfl Aa rfl (Af D0) ?_
      refine Aj [8,12] Aa ⟨?_,?_,trivial⟩
      focus
       refine go A0 false ?_
       conv=>whnf
       refine B8e A0 rfl rfl rfl rfl rfl rfl (c:=F1 (r.2.2.nodes.getD r2.2.2.toNat default).outs) rfl (fun v=>go A0 false ?_)
       conv=>whnf
       refine Ak ?_
       refine Aj [12] Aa ⟨?_,trivial⟩
       refine go A0 false ?_
       conv=>whnf
       refine Ak ?_
       refine Aj [13] Aa ⟨?_,trivial⟩
       refine go A0 false ?_
       conv=>whnf
       refine Dp A0 rfl rfl rfl rfl rfl rfl rfl rfl rfl rfl rfl (F1 ((r.2.2.nodes.getD r2.2.2.toNat default).outs++[r4.2.2-1])) (Bf rfl) M1 Ac (Al ?_)
       refine Ak ?_
       refine Aj [14] Aa ⟨?_,trivial⟩
       refine go A0 false ?_
       conv=>whnf
       (repeat refine Ar ?_)
       refine Ak ?_
       refine M7 A0 false 15 rfl rfl rfl Aa rfl (Af D0) ?_
       refine Aj [16] Aa ⟨?_,trivial⟩
       refine go A0 false ?_
       conv=>whnf
       refine D7 (j:=r2.2.2) A0 rfl rfl rfl rfl rfl rfl rfl rfl _ (L1 (j:=r2.2.2.toNat) (xs:=r.2.2.nodes) (e:=Cb.c) (x:=⟨(r.2.2.nodes.getD r2.2.2.toNat default).kind,(r.2.2.nodes.getD r2.2.2.toNat default).a,(r.2.2.nodes.getD r2.2.2.toNat default).b,(r.2.2.nodes.getD r2.2.2.toNat default).outs++[r4.2.2-1]⟩) Ac rfl) (Al ?_)
       refine Ak ?_
       refine Ed Aa (Al ?_)
      rotate_left 1
      focus
       refine go A0 false ?_
       conv=>whnf
       refine Ak ?_
       refine Aj [8] Aa ⟨?_,trivial⟩
       refine go A0 false ?_
       conv=>whnf
       refine B8e A0 rfl rfl rfl rfl rfl rfl (c:=F1 (r.2.2.nodes.getD r2.2.2.toNat default).outs) rfl (fun v=>go A0 false ?_)
       conv=>whnf
       refine Ak ?_
       refine Aj [13] Aa ⟨?_,trivial⟩
       refine go A0 false ?_
       conv=>whnf
       refine Dp A0 rfl rfl rfl rfl rfl rfl rfl rfl rfl rfl rfl (F1 ((r.2.2.nodes.getD r2.2.2.toNat default).outs++[r4.2.2-1])) (Bf rfl) M1 Ac (Al ?_)
       refine Ak ?_
       refine Aj [14] Aa ⟨?_,trivial⟩
       refine go A0 false ?_
       conv=>whnf
       (repeat refine Ar ?_)
       refine Ak ?_
       refine M7 A0 false 15 rfl rfl rfl Aa rfl (Af D0) ?_
       refine Aj [16] Aa ⟨?_,trivial⟩
       refine go A0 false ?_
       conv=>whnf
       refine D7 (j:=r2.2.2) A0 rfl rfl rfl rfl rfl rfl rfl rfl _ (L1 (j:=r2.2.2.toNat) (xs:=r.2.2.nodes) (e:=Cb.c) (x:=⟨(r.2.2.nodes.getD r2.2.2.toNat default).kind,(r.2.2.nodes.getD r2.2.2.toNat default).a,(r.2.2.nodes.getD r2.2.2.toNat default).b,(r.2.2.nodes.getD r2.2.2.toNat default).outs++[r4.2.2-1]⟩) Ac rfl) (Al ?_)
       refine Ak ?_
       refine Ed Aa (Al ?_)
     rotate_left 2
     focus
      refine go A0 false ?_
      conv=>whnf
      refine Ak ?_
      refine Aj [6] Aa ⟨?_,trivial⟩
      refine go A0 false ?_
      conv=>whnf
      (repeat refine Ar ?_)
      refine Ak ?_
      refine M7 A0 false 7 rfl rfl rfl Aa rfl (Af D0) ?_
      refine Aj [8] Aa ⟨?_,trivial⟩
      refine go A0 false ?_
      conv=>whnf
      refine B8e A0 rfl rfl rfl rfl rfl rfl (c:=F1 (r.2.2.nodes.getD r2.2.2.toNat default).outs) rfl (fun v=>go A0 false ?_)
      conv=>whnf
      refine Ak ?_
      refine Aj [13] Aa ⟨?_,trivial⟩
      refine go A0 false ?_
      conv=>whnf
      refine Dp A0 rfl rfl rfl rfl rfl rfl rfl rfl rfl rfl rfl (F1 ((r.2.2.nodes.getD r2.2.2.toNat default).outs++[r4.2.2-1])) (Bf rfl) M1 Ac (Al ?_)
      refine Ak ?_
      refine Aj [14] Aa ⟨?_,trivial⟩
      refine go A0 false ?_
      conv=>whnf
      (repeat refine Ar ?_)
      refine Ak ?_
      refine M7 A0 false 15 rfl rfl rfl Aa rfl (Af D0) ?_
      refine Aj [16] Aa ⟨?_,trivial⟩
      refine go A0 false ?_
      conv=>whnf
      refine D7 (j:=r2.2.2) A0 rfl rfl rfl rfl rfl rfl rfl rfl _ (L1 (j:=r2.2.2.toNat) (xs:=r.2.2.nodes) (e:=Cb.c) (x:=⟨(r.2.2.nodes.getD r2.2.2.toNat default).kind,(r.2.2.nodes.getD r2.2.2.toNat default).a,(r.2.2.nodes.getD r2.2.2.toNat default).b,(r.2.2.nodes.getD r2.2.2.toNat default).outs++[r4.2.2-1]⟩) Ac rfl) (Al ?_)
      refine Ak ?_
      refine Ed Aa (Al ?_)
   rotate_left 6
   focus
    refine go A0 false ?_
    conv=>whnf
    refine Fg (E5 d r3.1 r3.2.1 9 hr3.1 Bu) hH hp rfl Ca rfl rfl (fun r4 hr4=>go A0 false ?_)
    conv=>whnf
    refine Ak ?_
    refine M7 A0 false 11 rfl rfl rfl Aa rfl (Af D0) ?_
    refine Aj [4,12] Aa ⟨?_,?_,trivial⟩
    focus
     refine go A0 false ?_
     conv=>whnf
     refine Ak ?_
     refine Aj [6,12] Aa ⟨?_,?_,trivial⟩
     focus
      refine go A0 false ?_
      conv=>whnf
      (repeat refine Ar ?_)
      refine Ak ?_
      refine M7 A0 false 7 rfl rfl rfl Aa rfl (Af D0) ?_
      refine Aj [8,12] Aa ⟨?_,?_,trivial⟩
      focus
       refine go A0 false ?_
       conv=>whnf
       refine B8e A0 rfl rfl rfl rfl rfl rfl (c:=F1 (r.2.2.nodes.getD r2.2.2.toNat default).outs) rfl (fun v=>go A0 false ?_)
       conv=>whnf
       refine Ak ?_
       refine Aj [12] Aa ⟨?_,trivial⟩
       refine go A0 false ?_
       conv=>whnf
       refine Ak ?_
       refine Aj [13] Aa ⟨?_,trivial⟩
       refine go A0 false ?_
       conv=>whnf
       refine Dp A0 rfl rfl rfl rfl rfl rfl rfl rfl rfl rfl rfl (F1 ((r.2.2.nodes.getD r2.2.2.toNat default).outs++[r4.2.2-1])) (Bf rfl) M1 Ac (Al ?_)
       refine Ak ?_
       refine Aj [14] Aa ⟨?_,trivial⟩
       refine go A0 false ?_
       conv=>whnf
       (repeat refine Ar ?_)
       refine Ak ?_
       refine M7 A0 false 15 rfl rfl rfl Aa rfl (Af D0) ?_
       refine Aj [16] Aa ⟨?_,trivial⟩
       refine go A0 false ?_
       conv=>whnf
       refine D7 (j:=r2.2.2) A0 rfl rfl rfl rfl rfl rfl rfl rfl _ (L1 (j:=r2.2.2.toNat) (xs:=r.2.2.nodes) (e:=Cb.c) (x:=⟨(r.2.2.nodes.getD r2.2.2.toNat default).kind,(r.2.2.nodes.getD r2.2.2.toNat default).a,(r.2.2.nodes.getD r2.2.2.toNat default).b,(r.2.2.nodes.getD r2.2.2.toNat default).outs++[r4.2.2-1]⟩) Ac rfl) (Al ?_)
       refine Ak ?_
       refine Ed Aa (Al ?_)
      rotate_left 1
      focus
       refine go A0 false ?_
       conv=>whnf
       refine Ak ?_
       refine Aj [8] Aa ⟨?_,trivial⟩
       refine go A0 false ?_
       conv=>whnf
       refine B8e A0 rfl rfl rfl rfl rfl rfl (c:=F1 (r.2.2.nodes.getD r2.2.2.toNat default).outs) rfl (fun v=>go A0 false ?_)
       conv=>whnf
       refine Ak ?_
       refine Aj [13] Aa ⟨?_,trivial⟩
       refine go A0 false ?_
       conv=>whnf
       refine Dp A0 rfl rfl rfl rfl rfl rfl rfl rfl rfl rfl rfl (F1 ((r.2.2.nodes.getD r2.2.2.toNat default).outs++[r4.2.2-1])) (Bf rfl) M1 Ac (Al ?_)
       refine Ak ?_
       refine Aj [14] Aa ⟨?_,trivial⟩
       refine go A0 false ?_
       conv=>whnf
       (repeat refine Ar ?_)
       refine Ak ?_
       refine M7 A0 false 15 rfl rfl rfl Aa rfl (Af D0) ?_
       refine Aj [16] Aa ⟨?_,trivial⟩
       refine go A0 false ?_
       conv=>whnf
       refine D7 (j:=r2.2.2) A0 rfl rfl rfl rfl rfl rfl rfl rfl _ (L1 (j:=r2.2.2.toNat) (xs:=r.2.2.nodes) (e:=Cb.c) (x:=⟨(r.2.2.nodes.getD r2.2.2.toNat default).kind,(r.2.2.nodes.getD r2.2.2.toNat default).a,(r.2.2.nodes.getD r2.2.2.toNat default).b,(r.2.2.nodes.getD r2.2.2.toNat default).outs++[r4.2.2-1]⟩) Ac rfl) (Al ?_)
       refine Ak ?_
       refine Ed Aa (Al ?_)
     rotate_left 2
     focus
      refine go A0 false ?_
      conv=>whnf
      refine Ak ?_
      refine Aj [6] Aa ⟨?_,trivial⟩
      refine go A0 false ?_
      conv=>whnf
      (repeat refine Ar ?_)
      refine Ak ?_
      refine M7 A0 false 7 rfl rfl rfl Aa rfl (Af D0) ?_
      refine Aj [8] Aa ⟨?_,trivial⟩
      refine go A0 false ?_
      conv=>whnf
      refine B8e A0 rfl rfl rfl rfl rfl rfl (c:=F1 (r.2.2.nodes.getD r2.2.2.toNat default).outs) rfl (fun v=>go A0 false ?_)
      conv=>whnf
      refine Ak ?_
      refine Aj [13] Aa ⟨?_,trivial⟩
      refine go A0 false ?_
      conv=>whnf
      refine Dp A0 rfl rfl rfl rfl rfl rfl rfl rfl rfl rfl rfl (F1 ((r.2.2.nodes.getD r2.2.2.toNat default).outs++[r4.2.2-1])) (Bf rfl) M1 Ac (Al ?_)
      refine Ak ?_
      refine Aj [14] Aa ⟨?_,trivial⟩
      refine go A0 false ?_
      conv=>whnf
      (repeat refine Ar ?_)
      refine Ak ?_
      refine M7 A0 false 15 rfl rfl rfl Aa rfl (Af D0) ?_
      refine Aj [16] Aa ⟨?_,trivial⟩
      refine go A0 false ?_
      conv=>whnf
      refine D7 (j:=r2.2.2) A0 rfl rfl rfl rfl rfl rfl rfl rfl _ (L1 (j:=r2.2.2.toNat) (xs:=r.2.2.nodes) (e:=Cb.c) (x:=⟨(r.2.2.nodes.getD r2.2.2.toNat default).kind,(r.2.2.nodes.getD r2.2.2.toNat default).a,(r.2.2.nodes.getD r2.2.2.toNat default).b,(r.2.2.nodes.getD r2.2.2.toNat default).outs++[r4.2.2-1]⟩) Ac rfl) (Al ?_)
      refine Ak ?_
      refine Ed Aa (Al ?_)
    rotate_left 3
    focus
     refine go A0 false ?_
     conv=>whnf
     refine Ak ?_
     refine Aj [4] Aa ⟨?_,trivial⟩
     refine go A0 false ?_
     conv=>whnf
     refine Ak ?_
     refine Aj [6] Aa ⟨?_,trivial⟩
     refine go A0 false ?_
     conv=>whnf
     (repeat refine Ar ?_)
     refine Ak ?_
     refine M7 A0 false 7 rfl rfl rfl Aa rfl (Af D0) ?_
     refine Aj [8] Aa ⟨?_,trivial⟩
     refine go A0 false ?_
     conv=>whnf
     refine B8e A0 rfl rfl rfl rfl rfl rfl (c:=F1 (r.2.2.nodes.getD r2.2.2.toNat default).outs) rfl (fun v=>go A0 false ?_)
     conv=>whnf
     refine Ak ?_
     refine Aj [13] Aa ⟨?_,trivial⟩
     refine go A0 false ?_
     conv=>whnf
     refine Dp A0 rfl rfl rfl rfl rfl rfl rfl rfl rfl rfl rfl (F1 ((r.2.2.nodes.getD r2.2.2.toNat default).outs++[r4.2.2-1])) (Bf rfl) M1 Ac (Al ?_)
     refine Ak ?_
     refine Aj [14] Aa ⟨?_,trivial⟩
     refine go A0 false ?_
     conv=>whnf
     (repeat refine Ar ?_)
     refine Ak ?_
     refine M7 A0 false 15 rfl rfl rfl Aa rfl (Af D0) ?_
     refine Aj [16] Aa ⟨?_,trivial⟩
     refine go A0 false ?_
     conv=>whnf
     refine D7 (j:=r2.2.2) A0 rfl rfl rfl rfl rfl rfl rfl rfl _ (L1 (j:=r2.2.2.toNat) (xs:=r.2.2.nodes) (e:=Cb.c) (x:=⟨(r.2.2.nodes.getD r2.2.2.toNat default).kind,(r.2.2.nodes.getD r2.2.2.toNat default).a,(r.2.2.nodes.getD r2.2.2.toNat default).b,(r.2.2.nodes.getD r2.2.2.toNat default).outs++[r4.2.2-1]⟩) Ac rfl) (Al ?_)
     refine Ak ?_
     refine Ed Aa (Al ?_)
  rotate_left 10
  focus
   refine go A0 false ?_
   conv=>whnf
   refine Ak ?_
   refine Aj [1,6,10] Aa ⟨?_,?_,?_,trivial⟩
   focus
    refine go A0 false ?_
    conv=>whnf
    refine Ak ?_
    refine Aj [6,10] Aa ⟨?_,?_,trivial⟩
    focus
     refine go A0 false ?_
     conv=>whnf
     (repeat refine Ar ?_)
     refine Ak ?_
     refine M7 A0 false 7 rfl rfl rfl Aa rfl (Af D0) ?_
     refine Aj [8,10] Aa ⟨?_,?_,trivial⟩
     focus
      refine go A0 false ?_
      conv=>whnf
      refine B8e A0 rfl rfl rfl rfl rfl rfl (c:=F1 (r.2.2.nodes.getD r2.2.2.toNat default).outs) rfl (fun v=>go A0 false ?_)
      conv=>whnf
      refine Ak ?_
      refine Aj [10] Aa ⟨?_,trivial⟩
      refine go A0 false ?_
      conv=>whnf
      refine Fg (E5 d r3.1 r3.2.1 9 hr3.1 Bu) hH hp rfl Ca rfl rfl (fun r4 hr4=>go A0 false ?_)
      conv=>whnf
      refine Ak ?_
      refine M7 A0 false 11 rfl rfl rfl Aa rfl (Af D0) ?_
      refine Aj [12] Aa ⟨?_,trivial⟩
      refine go A0 false ?_
      conv=>whnf
      refine Ak ?_
      refine Aj [13] Aa ⟨?_,trivial⟩
      refine go A0 false ?_
      conv=>whnf
      refine Dp A0 rfl rfl rfl rfl rfl rfl rfl rfl rfl rfl rfl (F1 ((r.2.2.nodes.getD r2.2.2.toNat default).outs++[r4.2.2-1])) (Bf rfl) M1 Ac (Al ?_)
      refine Ak ?_
      refine Aj [14] Aa ⟨?_,trivial⟩
      refine go A0 false ?_
      conv=>whnf
      (repeat refine Ar ?_)
      refine Ak ?_
      refine M7 A0 false 15 rfl rfl rfl Aa rfl (Af D0) ?_
      refine Aj [16] Aa ⟨?_,trivial⟩
      refine go A0 false ?_
      conv=>whnf
      refine D7 (j:=r2.2.2) A0 rfl rfl rfl rfl rfl rfl rfl rfl _ (L1 (j:=r2.2.2.toNat) (xs:=r.2.2.nodes) (e:=Cb.c) (x:=⟨(r.2.2.nodes.getD r2.2.2.toNat default).kind,(r.2.2.nodes.getD r2.2.2.toNat default).a,(r.2.2.nodes.getD r2.2.2.toNat default).b,(r.2.2.nodes.getD r2.2.2.toNat default).outs++[r4.2.2-1]⟩) Ac rfl) (Al ?_)
      refine Ak ?_
      refine Ed Aa (Al ?_)
     rotate_left 1
     focus
      refine go A0 false ?_
      conv=>whnf
      refine Fg (E5 d r3.1 r3.2.1 9 hr3.1 Bu) hH hp rfl Ca rfl rfl (fun r4 hr4=>go A0 false ?_)
      conv=>whnf
      refine Ak ?_
      refine M7 A0 false 11 rfl rfl rfl Aa rfl (Af D0) ?_
      refine Aj [8,12] Aa ⟨?_,?_,trivial⟩
      focus
       refine go A0 false ?_
       conv=>whnf
       refine B8e A0 rfl rfl rfl rfl rfl rfl (c:=F1 (r.2.2.nodes.getD r2.2.2.toNat default).outs) rfl (fun v=>go A0 false ?_)
       conv=>whnf
       refine Ak ?_
       refine Aj [12] Aa ⟨?_,trivial⟩
       refine go A0 false ?_
       conv=>whnf
       refine Ak ?_
       refine Aj [13] Aa ⟨?_,trivial⟩
       refine go A0 false ?_
       conv=>whnf
       refine Dp A0 rfl rfl rfl rfl rfl rfl rfl rfl rfl rfl rfl (F1 ((r.2.2.nodes.getD r2.2.2.toNat default).outs++[r4.2.2-1])) (Bf rfl) M1 Ac (Al ?_)
       refine Ak ?_
       refine Aj [14] Aa ⟨?_,trivial⟩
       refine go A0 false ?_
       conv=>whnf
       (repeat refine Ar ?_)
       refine Ak ?_
       refine M7 A0 false 15 rfl rfl rfl Aa rfl (Af D0) ?_
       refine Aj [16] Aa ⟨?_,trivial⟩
       refine go A0 false ?_
       conv=>whnf
       refine D7 (j:=r2.2.2) A0 rfl rfl rfl rfl rfl rfl rfl rfl _ (L1 (j:=r2.2.2.toNat) (xs:=r.2.2.nodes) (e:=Cb.c) (x:=⟨(r.2.2.nodes.getD r2.2.2.toNat default).kind,(r.2.2.nodes.getD r2.2.2.toNat default).a,(r.2.2.nodes.getD r2.2.2.toNat default).b,(r.2.2.nodes.getD r2.2.2.toNat default).outs++[r4.2.2-1]⟩) Ac rfl) (Al ?_)
       refine Ak ?_
       refine Ed Aa (Al ?_)
      rotate_left 1
      focus
       refine go A0 false ?_
       conv=>whnf
       refine Ak ?_
       refine Aj [8] Aa ⟨?_,trivial⟩
       refine go A0 false ?_
       conv=>whnf
       refine B8e A0 rfl rfl rfl rfl rfl rfl (c:=F1 (r.2.2.nodes.getD r2.2.2.toNat default).outs) rfl (fun v=>go A0 false ?_)
       conv=>whnf
       refine Ak ?_
       refine Aj [13] Aa ⟨?_,trivial⟩
       refine go A0 false ?_
       conv=>whnf
       refine Dp A0 rfl rfl rfl rfl rfl rfl rfl rfl rfl rfl rfl (F1 ((r.2.2.nodes.getD r2.2.2.toNat default).outs++[r4.2.2-1])) (Bf rfl) M1 Ac (Al ?_)
       refine Ak ?_
       refine Aj [14] Aa ⟨?_,trivial⟩
       refine go A0 false ?_
       conv=>whnf
       (repeat refine Ar ?_)
       refine Ak ?_
       refine M7 A0 false 15 rfl rfl rfl Aa rfl (Af D0) ?_
       refine Aj [16] Aa ⟨?_,trivial⟩
       refine go A0 false ?_
       conv=>whnf
       refine D7 (j:=r2.2.2) A0 rfl rfl rfl rfl rfl rfl rfl rfl _ (L1 (j:=r2.2.2.toNat) (xs:=r.2.2.nodes) (e:=Cb.c) (x:=⟨(r.2.2.nodes.getD r2.2.2.toNat default).kind,(r.2.2.nodes.getD r2.2.2.toNat default).a,(r.2.2.nodes.getD r2.2.2.toNat default).b,(r.2.2.nodes.getD r2.2.2.toNat default).outs++[r4.2.2-1]⟩) Ac rfl) (Al ?_)
       refine Ak ?_
       refine Ed Aa (Al ?_)
    rotate_left 3
    focus
     refine go A0 false ?_
     conv=>whnf
     refine Fg (E5 d r3.1 r3.2.1 9 hr3.1 Bu) hH hp rfl Ca rfl rfl (fun r4 hr4=>go A0 false ?_)
     conv=>whnf
     refine Ak ?_
     refine M7 A0 false 11 rfl rfl rfl Aa rfl (Af D0) ?_
     refine Aj [6,12] Aa ⟨?_,?_,trivial⟩
     focus
      refine go A0 false ?_
      conv=>whnf
      (repeat refine Ar ?_)
      refine Ak ?_
      refine M7 A0 false 7 rfl rfl rfl Aa rfl (Af D0) ?_
      refine Aj [8,12] Aa ⟨?_,?_,trivial⟩
      focus
       refine go A0 false ?_
       conv=>whnf
       refine B8e A0 rfl rfl rfl rfl rfl rfl (c:=F1 (r.2.2.nodes.getD r2.2.2.toNat default).outs) rfl (fun v=>go A0 false ?_)
       conv=>whnf
       refine Ak ?_
       refine Aj [12] Aa ⟨?_,trivial⟩
       refine go A0 false ?_
       conv=>whnf
       refine Ak ?_
       refine Aj [13] Aa ⟨?_,trivial⟩
       refine go A0 false ?_
       conv=>whnf
       refine Dp A0 rfl rfl rfl rfl rfl rfl rfl rfl rfl rfl rfl (F1 ((r.2.2.nodes.getD r2.2.2.toNat default).outs++[r4.2.2-1])) (Bf rfl) M1 Ac (Al ?_)
       refine Ak ?_
       refine Aj [14] Aa ⟨?_,trivial⟩
       refine go A0 false ?_
       conv=>whnf
       (repeat refine Ar ?_)
       refine Ak ?_
       refine M7 A0 false 15 rfl rfl rfl Aa rfl (Af D0) ?_
       refine Aj [16] Aa ⟨?_,trivial⟩
       refine go A0 false ?_
       conv=>whnf
       refine D7 (j:=r2.2.2) A0 rfl rfl rfl rfl rfl rfl rfl rfl _ (L1 (j:=r2.2.2.toNat) (xs:=r.2.2.nodes) (e:=Cb.c) (x:=⟨(r.2.2.nodes.getD r2.2.2.toNat default).kind,(r.2.2.nodes.getD r2.2.2.toNat default).a,(r.2.2.nodes.getD r2.2.2.toNat default).b,(r.2.2.nodes.getD r2.2.2.toNat default).outs++[r4.2.2-1]⟩) Ac rfl) (Al ?_)
       refine Ak ?_
       refine Ed Aa (Al ?_)
      rotate_left 1
      focus
       refine go A0 false ?_
       conv=>whnf
       refine Ak ?_
       refine Aj [8] Aa ⟨?_,trivial⟩
       refine go A0 false ?_
       conv=>whnf
       refine B8e A0 rfl rfl rfl rfl rfl rfl (c:=F1 (r.2.2.nodes.getD r2.2.2.toNat default).outs) rfl (fun v=>go A0 false ?_)
       conv=>whnf
       refine Ak ?_
       refine Aj [13] Aa ⟨?_,trivial⟩
       refine go A0 false ?_
       conv=>whnf
       refine Dp A0 rfl rfl rfl rfl rfl rfl rfl rfl rfl rfl rfl (F1 ((r.2.2.nodes.getD r2.2.2.toNat default).outs++[r4.2.2-1])) (Bf rfl) M1 Ac (Al ?_)
       refine Ak ?_
       refine Aj [14] Aa ⟨?_,trivial⟩
       refine go A0 false ?_
       conv=>whnf
       (repeat refine Ar ?_)
       refine Ak ?_
       refine M7 A0 false 15 rfl rfl rfl Aa rfl (Af D0) ?_
       refine Aj [16] Aa ⟨?_,trivial⟩
       refine go A0 false ?_
       conv=>whnf
       refine D7 (j:=r2.2.2) A0 rfl rfl rfl rfl rfl rfl rfl rfl _ (L1 (j:=r2.2.2.toNat) (xs:=r.2.2.nodes) (e:=Cb.c) (x:=⟨(r.2.2.nodes.getD r2.2.2.toNat default).kind,(r.2.2.nodes.getD r2.2.2.toNat default).a,(r.2.2.nodes.getD r2.2.2.toNat default).b,(r.2.2.nodes.getD r2.2.2.toNat default).outs++[r4.2.2-1]⟩) Ac rfl) (Al ?_)
       refine Ak ?_
       refine Ed Aa (Al ?_)
     rotate_left 2
     focus
      refine go A0 false ?_
      conv=>whnf
      refine Ak ?_
      refine Aj [6] Aa ⟨?_,trivial⟩
      refine go A0 false ?_
      conv=>whnf
      (repeat refine Ar ?_)
      refine Ak ?_
      refine M7 A0 false 7 rfl rfl rfl Aa rfl (Af D0) ?_
      refine Aj [8] Aa ⟨?_,trivial⟩
      refine go A0 false ?_
      conv=>whnf
      refine B8e A0 rfl rfl rfl rfl rfl rfl (c:=F1 (r.2.2.nodes.getD r2.2.2.toNat default).outs) rfl (fun v=>go A0 false ?_)
      conv=>whnf
      refine Ak ?_
      refine Aj [13] Aa ⟨?_,trivial⟩
      refine go A0 false ?_
      conv=>whnf
      refine Dp A0 rfl rfl rfl rfl rfl rfl rfl rfl rfl rfl rfl (F1 ((r.2.2.nodes.getD r2.2.2.toNat default).outs++[r4.2.2-1])) (Bf rfl) M1 Ac (Al ?_)
      refine Ak ?_
      refine Aj [14] Aa ⟨?_,trivial⟩
      refine go A0 false ?_
      conv=>whnf
      (repeat refine Ar ?_)
      refine Ak ?_
      refine M7 A0 false 15 rfl rfl rfl Aa rfl (Af D0) ?_
      refine Aj [16] Aa ⟨?_,trivial⟩
      refine go A0 false ?_
      conv=>whnf
      refine D7 (j:=r2.2.2) A0 rfl rfl rfl rfl rfl rfl rfl rfl _ (L1 (j:=r2.2.2.toNat) (xs:=r.2.2.nodes) (e:=Cb.c) (x:=⟨(r.2.2.nodes.getD r2.2.2.toNat default).kind,(r.2.2.nodes.getD r2.2.2.toNat default).a,(r.2.2.nodes.getD r2.2.2.toNat default).b,(r.2.2.nodes.getD r2.2.2.toNat default).outs++[r4.2.2-1]⟩) Ac rfl) (Al ?_)
      refine Ak ?_
      refine Ed Aa (Al ?_)
   rotate_left 6
   focus
    refine go A0 false ?_
    conv=>whnf
    (repeat refine Ar ?_)
    refine Ak ?_
    refine M7 A0 false 7 rfl rfl rfl Aa rfl (Af D0) ?_
    refine Aj [1,8,10] Aa ⟨?_,?_,?_,trivial⟩
    focus
     refine go A0 false ?_
     conv=>whnf
     refine Ak ?_
     refine Aj [8,10] Aa ⟨?_,?_,trivial⟩
     focus
      refine go A0 false ?_
      conv=>whnf
      refine B8e A0 rfl rfl rfl rfl rfl rfl (c:=F1 (r.2.2.nodes.getD r2.2.2.toNat default).outs) rfl (fun v=>go A0 false ?_)
      conv=>whnf
      refine Ak ?_
      refine Aj [10] Aa ⟨?_,trivial⟩
      refine go A0 false ?_
      conv=>whnf
      refine Fg (E5 d r3.1 r3.2.1 9 hr3.1 Bu) hH hp rfl Ca rfl rfl (fun r4 hr4=>go A0 false ?_)
      conv=>whnf
      refine Ak ?_
      refine M7 A0 false 11 rfl rfl rfl Aa rfl (Af D0) ?_
      refine Aj [12] Aa ⟨?_,trivial⟩
      refine go A0 false ?_
      conv=>whnf
      refine Ak ?_
      refine Aj [13] Aa ⟨?_,trivial⟩
      refine go A0 false ?_
      conv=>whnf
      refine Dp A0 rfl rfl rfl rfl rfl rfl rfl rfl rfl rfl rfl (F1 ((r.2.2.nodes.getD r2.2.2.toNat default).outs++[r4.2.2-1])) (Bf rfl) M1 Ac (Al ?_)
      refine Ak ?_
      refine Aj [14] Aa ⟨?_,trivial⟩
      refine go A0 false ?_
      conv=>whnf
      (repeat refine Ar ?_)
      refine Ak ?_
      refine M7 A0 false 15 rfl rfl rfl Aa rfl (Af D0) ?_
      refine Aj [16] Aa ⟨?_,trivial⟩
      refine go A0 false ?_
      conv=>whnf
      refine D7 (j:=r2.2.2) A0 rfl rfl rfl rfl rfl rfl rfl rfl _ (L1 (j:=r2.2.2.toNat) (xs:=r.2.2.nodes) (e:=Cb.c) (x:=⟨(r.2.2.nodes.getD r2.2.2.toNat default).kind,(r.2.2.nodes.getD r2.2.2.toNat default).a,(r.2.2.nodes.getD r2.2.2.toNat default).b,(r.2.2.nodes.getD r2.2.2.toNat default).outs++[r4.2.2-1]⟩) Ac rfl) (Al ?_)
      refine Ak ?_
      refine Ed Aa (Al ?_)
     rotate_left 1
     focus
      refine go A0 false ?_
      conv=>whnf
      refine Fg (E5 d r3.1 r3.2.1 9 hr3.1 Bu) hH hp rfl Ca rfl rfl (fun r4 hr4=>go A0 false ?_)
      conv=>whnf
      refine Ak ?_
      refine M7 A0 false 11 rfl rfl rfl Aa rfl (Af D0) ?_
      refine Aj [8,12] Aa ⟨?_,?_,trivial⟩
      focus
       refine go A0 false ?_
       conv=>whnf
       refine B8e A0 rfl rfl rfl rfl rfl rfl (c:=F1 (r.2.2.nodes.getD r2.2.2.toNat default).outs) rfl (fun v=>go A0 false ?_)
       conv=>whnf
       refine Ak ?_
       refine Aj [12] Aa ⟨?_,trivial⟩
       refine go A0 false ?_
       conv=>whnf
       refine Ak ?_
       refine Aj [13] Aa ⟨?_,trivial⟩
       refine go A0 false ?_
       conv=>whnf
       refine Dp A0 rfl rfl rfl rfl rfl rfl rfl rfl rfl rfl rfl (F1 ((r.2.2.nodes.getD r2.2.2.toNat default).outs++[r4.2.2-1])) (Bf rfl) M1 Ac (Al ?_)
       refine Ak ?_
       refine Aj [14] Aa ⟨?_,trivial⟩
       refine go A0 false ?_
       conv=>whnf
       (repeat refine Ar ?_)
       refine Ak ?_
       refine M7 A0 false 15 rfl rfl rfl Aa rfl (Af D0) ?_
       refine Aj [16] Aa ⟨?_,trivial⟩
       refine go A0 false ?_
       conv=>whnf
       refine D7 (j:=r2.2.2) A0 rfl rfl rfl rfl rfl rfl rfl rfl _ (L1 (j:=r2.2.2.toNat) (xs:=r.2.2.nodes) (e:=Cb.c) (x:=⟨(r.2.2.nodes.getD r2.2.2.toNat default).kind,(r.2.2.nodes.getD r2.2.2.toNat default).a,(r.2.2.nodes.getD r2.2.2.toNat default).b,(r.2.2.nodes.getD r2.2.2.toNat default).outs++[r4.2.2-1]⟩) Ac rfl) (Al ?_)
       refine Ak ?_
       refine Ed Aa (Al ?_)
      rotate_left 1
      focus
       refine go A0 false ?_
       conv=>whnf
       refine Ak ?_
       refine Aj [8] Aa ⟨?_,trivial⟩
       refine go A0 false ?_
       conv=>whnf
       refine B8e A0 rfl rfl rfl rfl rfl rfl (c:=F1 (r.2.2.nodes.getD r2.2.2.toNat default).outs) rfl (fun v=>go A0 false ?_)
       conv=>whnf
       refine Ak ?_
       refine Aj [13] Aa ⟨?_,trivial⟩
       refine go A0 false ?_
       conv=>whnf
       refine Dp A0 rfl rfl rfl rfl rfl rfl rfl rfl rfl rfl rfl (F1 ((r.2.2.nodes.getD r2.2.2.toNat default).outs++[r4.2.2-1])) (Bf rfl) M1 Ac (Al ?_)
       refine Ak ?_
       refine Aj [14] Aa ⟨?_,trivial⟩
       refine go A0 false ?_
       conv=>whnf
       (repeat refine Ar ?_)
       refine Ak ?_
       refine M7 A0 false 15 rfl rfl rfl Aa rfl (Af D0) ?_
       refine Aj [16] Aa ⟨?_,trivial⟩
       refine go A0 false ?_
       conv=>whnf
       refine D7 (j:=r2.2.2) A0 rfl rfl rfl rfl rfl rfl rfl rfl _ (L1 (j:=r2.2.2.toNat) (xs:=r.2.2.nodes) (e:=Cb.c) (x:=⟨(r.2.2.nodes.getD r2.2.2.toNat default).kind,(r.2.2.nodes.getD r2.2.2.toNat default).a,(r.2.2.nodes.getD r2.2.2.toNat default).b,(r.2.2.nodes.getD r2.2.2.toNat default).outs++[r4.2.2-1]⟩) Ac rfl) (Al ?_)
       refine Ak ?_
       refine Ed Aa (Al ?_)
    rotate_left 3
    focus
     refine go A0 false ?_
     conv=>whnf
     refine B8e A0 rfl rfl rfl rfl rfl rfl (c:=F1 (r.2.2.nodes.getD r2.2.2.toNat default).outs) rfl (fun v=>go A0 false ?_)
     conv=>whnf
     refine Ak ?_
     refine Aj [1,10] Aa ⟨?_,?_,trivial⟩
     focus
      refine go A0 false ?_
      conv=>whnf
      refine Ak ?_
      refine Aj [10] Aa ⟨?_,trivial⟩
      refine go A0 false ?_
      conv=>whnf
      refine Fg (E5 d r3.1 r3.2.1 9 hr3.1 Bu) hH hp rfl Ca rfl rfl (fun r4 hr4=>go A0 false ?_)
      conv=>whnf
      refine Ak ?_
      refine M7 A0 false 11 rfl rfl rfl Aa rfl (Af D0) ?_
      refine Aj [12] Aa ⟨?_,trivial⟩
      refine go A0 false ?_
      conv=>whnf
      refine Ak ?_
      refine Aj [13] Aa ⟨?_,trivial⟩
      refine go A0 false ?_
      conv=>whnf
      refine Dp A0 rfl rfl rfl rfl rfl rfl rfl rfl rfl rfl rfl (F1 ((r.2.2.nodes.getD r2.2.2.toNat default).outs++[r4.2.2-1])) (Bf rfl) M1 Ac (Al ?_)
      refine Ak ?_
      refine Aj [14] Aa ⟨?_,trivial⟩
      refine go A0 false ?_
      conv=>whnf
      (repeat refine Ar ?_)
      refine Ak ?_
      refine M7 A0 false 15 rfl rfl rfl Aa rfl (Af D0) ?_
      refine Aj [16] Aa ⟨?_,trivial⟩
      refine go A0 false ?_
      conv=>whnf
      refine D7 (j:=r2.2.2) A0 rfl rfl rfl rfl rfl rfl rfl rfl _ (L1 (j:=r2.2.2.toNat) (xs:=r.2.2.nodes) (e:=Cb.c) (x:=⟨(r.2.2.nodes.getD r2.2.2.toNat default).kind,(r.2.2.nodes.getD r2.2.2.toNat default).a,(r.2.2.nodes.getD r2.2.2.toNat default).b,(r.2.2.nodes.getD r2.2.2.toNat default).outs++[r4.2.2-1]⟩) Ac rfl) (Al ?_)
      refine Ak ?_
      refine Ed Aa (Al ?_)
     rotate_left 1
     focus
      refine go A0 false ?_
      conv=>whnf
      refine Fg (E5 d r3.1 r3.2.1 9 hr3.1 Bu) hH hp rfl Ca rfl rfl (fun r4 hr4=>go A0 false ?_)
      conv=>whnf
      refine Ak ?_
      refine M7 A0 false 11 rfl rfl rfl Aa rfl (Af D0) ?_
      refine Aj [1,12] Aa ⟨?_,?_,trivial⟩
      focus
       refine go A0 false ?_
       conv=>whnf
       refine Ak ?_
       refine Aj [12] Aa ⟨?_,trivial⟩
       refine go A0 false ?_
       conv=>whnf
       refine Ak ?_
       refine Aj [13] Aa ⟨?_,trivial⟩
       refine go A0 false ?_
       conv=>whnf
       refine Dp A0 rfl rfl rfl rfl rfl rfl rfl rfl rfl rfl rfl (F1 ((r.2.2.nodes.getD r2.2.2.toNat default).outs++[r4.2.2-1])) (Bf rfl) M1 Ac (Al ?_)
       refine Ak ?_
       refine Aj [14] Aa ⟨?_,trivial⟩
       refine go A0 false ?_
       conv=>whnf
       (repeat refine Ar ?_)
       refine Ak ?_
       refine M7 A0 false 15 rfl rfl rfl Aa rfl (Af D0) ?_
       refine Aj [16] Aa ⟨?_,trivial⟩
       refine go A0 false ?_
       conv=>whnf
       refine D7 (j:=r2.2.2) A0 rfl rfl rfl rfl rfl rfl rfl rfl _ (L1 (j:=r2.2.2.toNat) (xs:=r.2.2.nodes) (e:=Cb.c) (x:=⟨(r.2.2.nodes.getD r2.2.2.toNat default).kind,(r.2.2.nodes.getD r2.2.2.toNat default).a,(r.2.2.nodes.getD r2.2.2.toNat default).b,(r.2.2.nodes.getD r2.2.2.toNat default).outs++[r4.2.2-1]⟩) Ac rfl) (Al ?_)
       refine Ak ?_
       refine Ed Aa (Al ?_)
      rotate_left 1
      focus
       refine go A0 false ?_
       conv=>whnf
       refine Ak ?_
       refine Aj [1,13] Aa ⟨?_,?_,trivial⟩
       focus
        refine go A0 false ?_
        conv=>whnf
        refine Ak ?_
        refine Aj [13] Aa ⟨?_,trivial⟩
        refine go A0 false ?_
        conv=>whnf
        refine Dp A0 rfl rfl rfl rfl rfl rfl rfl rfl rfl rfl rfl (F1 ((r.2.2.nodes.getD r2.2.2.toNat default).outs++[r4.2.2-1])) (Bf rfl) M1 Ac (Al ?_)
        refine Ak ?_
        refine Aj [14] Aa ⟨?_,trivial⟩
        refine go A0 false ?_
        conv=>whnf
        (repeat refine Ar ?_)
        refine Ak ?_
        refine M7 A0 false 15 rfl rfl rfl Aa rfl (Af D0) ?_
        refine Aj [16] Aa ⟨?_,trivial⟩
        refine go A0 false ?_
        conv=>whnf
        refine D7 (j:=r2.2.2) A0 rfl rfl rfl rfl rfl rfl rfl rfl _ (L1 (j:=r2.2.2.toNat) (xs:=r.2.2.nodes) (e:=Cb.c) (x:=⟨(r.2.2.nodes.getD r2.2.2.toNat default).kind,(r.2.2.nodes.getD r2.2.2.toNat default).a,(r.2.2.nodes.getD r2.2.2.toNat default).b,(r.2.2.nodes.getD r2.2.2.toNat default).outs++[r4.2.2-1]⟩) Ac rfl) (Al ?_)
        refine Ak ?_
        refine Ed Aa (Al ?_)
       rotate_left 1
       focus
        refine go A0 false ?_
        conv=>whnf
        refine Dp A0 rfl rfl rfl rfl rfl rfl rfl rfl rfl rfl rfl (F1 ((r.2.2.nodes.getD r2.2.2.toNat default).outs++[r4.2.2-1])) (Bf rfl) M1 Ac (Al ?_)
        refine Ak ?_
        refine Aj [1] Aa ⟨?_,trivial⟩
        refine go A0 false ?_
        conv=>whnf
        refine Ak ?_
        refine Aj [14] Aa ⟨?_,trivial⟩
        refine go A0 false ?_
        conv=>whnf
        (repeat refine Ar ?_)
        refine Ak ?_
        refine M7 A0 false 15 rfl rfl rfl Aa rfl (Af D0) ?_
        refine Aj [16] Aa ⟨?_,trivial⟩
        refine go A0 false ?_
        conv=>whnf
        refine D7 (j:=r2.2.2) A0 rfl rfl rfl rfl rfl rfl rfl rfl _ (L1 (j:=r2.2.2.toNat) (xs:=r.2.2.nodes) (e:=Cb.c) (x:=⟨(r.2.2.nodes.getD r2.2.2.toNat default).kind,(r.2.2.nodes.getD r2.2.2.toNat default).a,(r.2.2.nodes.getD r2.2.2.toNat default).b,(r.2.2.nodes.getD r2.2.2.toNat default).outs++[r4.2.2-1]⟩) Ac rfl) (Al ?_)
        refine Ak ?_
        refine Ed Aa (Al ?_)
    rotate_left 4
    focus
     refine go A0 false ?_
     conv=>whnf
     refine Fg (E5 d r3.1 r3.2.1 9 hr3.1 Bu) hH hp rfl Ca rfl rfl (fun r4 hr4=>go A0 false ?_)
     conv=>whnf
     refine Ak ?_
     refine M7 A0 false 11 rfl rfl rfl Aa rfl (Af D0) ?_
     refine Aj [1,8,12] Aa ⟨?_,?_,?_,trivial⟩
     focus
      refine go A0 false ?_
      conv=>whnf
      refine Ak ?_
      refine Aj [8,12] Aa ⟨?_,?_,trivial⟩
      focus
       refine go A0 false ?_
       conv=>whnf
       refine B8e A0 rfl rfl rfl rfl rfl rfl (c:=F1 (r.2.2.nodes.getD r2.2.2.toNat default).outs) rfl (fun v=>go A0 false ?_)
       conv=>whnf
       refine Ak ?_
       refine Aj [12] Aa ⟨?_,trivial⟩
       refine go A0 false ?_
       conv=>whnf
       refine Ak ?_
       refine Aj [13] Aa ⟨?_,trivial⟩
       refine go A0 false ?_
       conv=>whnf
       refine Dp A0 rfl rfl rfl rfl rfl rfl rfl rfl rfl rfl rfl (F1 ((r.2.2.nodes.getD r2.2.2.toNat default).outs++[r4.2.2-1])) (Bf rfl) M1 Ac (Al ?_)
       refine Ak ?_
       refine Aj [14] Aa ⟨?_,trivial⟩
       refine go A0 false ?_
       conv=>whnf
       (repeat refine Ar ?_)
       refine Ak ?_
       refine M7 A0 false 15 rfl rfl rfl Aa rfl (Af D0) ?_
       refine Aj [16] Aa ⟨?_,trivial⟩
       refine go A0 false ?_
       conv=>whnf
       refine D7 (j:=r2.2.2) A0 rfl rfl rfl rfl rfl rfl rfl rfl _ (L1 (j:=r2.2.2.toNat) (xs:=r.2.2.nodes) (e:=Cb.c) (x:=⟨(r.2.2.nodes.getD r2.2.2.toNat default).kind,(r.2.2.nodes.getD r2.2.2.toNat default).a,(r.2.2.nodes.getD r2.2.2.toNat default).b,(r.2.2.nodes.getD r2.2.2.toNat default).outs++[r4.2.2-1]⟩) Ac rfl) (Al ?_)
       refine Ak ?_
       refine Ed Aa (Al ?_)
      rotate_left 1
      focus
       refine go A0 false ?_
       conv=>whnf
       refine Ak ?_
       refine Aj [8] Aa ⟨?_,trivial⟩
       refine go A0 false ?_
       conv=>whnf
       refine B8e A0 rfl rfl rfl rfl rfl rfl (c:=F1 (r.2.2.nodes.getD r2.2.2.toNat default).outs) rfl (fun v=>go A0 false ?_)
       conv=>whnf
       refine Ak ?_
       refine Aj [13] Aa ⟨?_,trivial⟩
       refine go A0 false ?_
       conv=>whnf
       refine Dp A0 rfl rfl rfl rfl rfl rfl rfl rfl rfl rfl rfl (F1 ((r.2.2.nodes.getD r2.2.2.toNat default).outs++[r4.2.2-1])) (Bf rfl) M1 Ac (Al ?_)
       refine Ak ?_
       refine Aj [14] Aa ⟨?_,trivial⟩
       refine go A0 false ?_
       conv=>whnf
       (repeat refine Ar ?_)
       refine Ak ?_
       refine M7 A0 false 15 rfl rfl rfl Aa rfl (Af D0) ?_
       refine Aj [16] Aa ⟨?_,trivial⟩
       refine go A0 false ?_
       conv=>whnf
       refine D7 (j:=r2.2.2) A0 rfl rfl rfl rfl rfl rfl rfl rfl _ (L1 (j:=r2.2.2.toNat) (xs:=r.2.2.nodes) (e:=Cb.c) (x:=⟨(r.2.2.nodes.getD r2.2.2.toNat default).kind,(r.2.2.nodes.getD r2.2.2.toNat default).a,(r.2.2.nodes.getD r2.2.2.toNat default).b,(r.2.2.nodes.getD r2.2.2.toNat default).outs++[r4.2.2-1]⟩) Ac rfl) (Al ?_)
       refine Ak ?_
       refine Ed Aa (Al ?_)
     rotate_left 2
     focus
      refine go A0 false ?_
      conv=>whnf
      refine B8e A0 rfl rfl rfl rfl rfl rfl (c:=F1 (r.2.2.nodes.getD r2.2.2.toNat default).outs) rfl (fun v=>go A0 false ?_)
      conv=>whnf
      refine Ak ?_
      refine Aj [1,12] Aa ⟨?_,?_,trivial⟩
      focus
       refine go A0 false ?_
       conv=>whnf
       refine Ak ?_
       refine Aj [12] Aa ⟨?_,trivial⟩
       refine go A0 false ?_
       conv=>whnf
       refine Ak ?_
       refine Aj [13] Aa ⟨?_,trivial⟩
       refine go A0 false ?_
       conv=>whnf
       refine Dp A0 rfl rfl rfl rfl rfl rfl rfl rfl rfl rfl rfl (F1 ((r.2.2.nodes.getD r2.2.2.toNat default).outs++[r4.2.2-1])) (Bf rfl) M1 Ac (Al ?_)
       refine Ak ?_
       refine Aj [14] Aa ⟨?_,trivial⟩
       refine go A0 false ?_
       conv=>whnf
       (repeat refine Ar ?_)
       refine Ak ?_
       refine M7 A0 false 15 rfl rfl rfl Aa rfl (Af D0) ?_
       refine Aj [16] Aa ⟨?_,trivial⟩
       refine go A0 false ?_
       conv=>whnf
       refine D7 (j:=r2.2.2) A0 rfl rfl rfl rfl rfl rfl rfl rfl _ (L1 (j:=r2.2.2.toNat) (xs:=r.2.2.nodes) (e:=Cb.c) (x:=⟨(r.2.2.nodes.getD r2.2.2.toNat default).kind,(r.2.2.nodes.getD r2.2.2.toNat default).a,(r.2.2.nodes.getD r2.2.2.toNat default).b,(r.2.2.nodes.getD r2.2.2.toNat default).outs++[r4.2.2-1]⟩) Ac rfl) (Al ?_)
       refine Ak ?_
       refine Ed Aa (Al ?_)
      rotate_left 1
      focus
       refine go A0 false ?_
       conv=>whnf
       refine Ak ?_
       refine Aj [1,13] Aa ⟨?_,?_,trivial⟩
       focus
        refine go A0 false ?_
        conv=>whnf
        refine Ak ?_
        refine Aj [13] Aa ⟨?_,trivial⟩
        refine go A0 false ?_
        conv=>whnf
        refine Dp A0 rfl rfl rfl rfl rfl rfl rfl rfl rfl rfl rfl (F1 ((r.2.2.nodes.getD r2.2.2.toNat default).outs++[r4.2.2-1])) (Bf rfl) M1 Ac (Al ?_)
        refine Ak ?_
        refine Aj [14] Aa ⟨?_,trivial⟩
        refine go A0 false ?_
        conv=>whnf
        (repeat refine Ar ?_)
        refine Ak ?_
        refine M7 A0 false 15 rfl rfl rfl Aa rfl (Af D0) ?_
        refine Aj [16] Aa ⟨?_,trivial⟩
        refine go A0 false ?_
        conv=>whnf
        refine D7 (j:=r2.2.2) A0 rfl rfl rfl rfl rfl rfl rfl rfl _ (L1 (j:=r2.2.2.toNat) (xs:=r.2.2.nodes) (e:=Cb.c) (x:=⟨(r.2.2.nodes.getD r2.2.2.toNat default).kind,(r.2.2.nodes.getD r2.2.2.toNat default).a,(r.2.2.nodes.getD r2.2.2.toNat default).b,(r.2.2.nodes.getD r2.2.2.toNat default).outs++[r4.2.2-1]⟩) Ac rfl) (Al ?_)
        refine Ak ?_
        refine Ed Aa (Al ?_)
       rotate_left 1
       focus
        refine go A0 false ?_
        conv=>whnf
        refine Dp A0 rfl rfl rfl rfl rfl rfl rfl rfl rfl rfl rfl (F1 ((r.2.2.nodes.getD r2.2.2.toNat default).outs++[r4.2.2-1])) (Bf rfl) M1 Ac (Al ?_)
        refine Ak ?_
        refine Aj [1] Aa ⟨?_,trivial⟩
        refine go A0 false ?_
        conv=>whnf
        refine Ak ?_
        refine Aj [14] Aa ⟨?_,trivial⟩
        refine go A0 false ?_
        conv=>whnf
        (repeat refine Ar ?_)
        refine Ak ?_
        refine M7 A0 false 15 rfl rfl rfl Aa rfl (Af D0) ?_
        refine Aj [16] Aa ⟨?_,trivial⟩
        refine go A0 false ?_
        conv=>whnf
        refine D7 (j:=r2.2.2) A0 rfl rfl rfl rfl rfl rfl rfl rfl _ (L1 (j:=r2.2.2.toNat) (xs:=r.2.2.nodes) (e:=Cb.c) (x:=⟨(r.2.2.nodes.getD r2.2.2.toNat default).kind,(r.2.2.nodes.getD r2.2.2.toNat default).a,(r.2.2.nodes.getD r2.2.2.toNat default).b,(r.2.2.nodes.getD r2.2.2.toNat default).outs++[r4.2.2-1]⟩) Ac rfl) (Al ?_)
        refine Ak ?_
        refine Ed Aa (Al ?_)
     rotate_left 3
     focus
      refine go A0 false ?_
      conv=>whnf
      refine Ak ?_
      refine Aj [1,8] Aa ⟨?_,?_,trivial⟩
      focus
       refine go A0 false ?_
       conv=>whnf
       refine Ak ?_
       refine Aj [8] Aa ⟨?_,trivial⟩
       refine go A0 false ?_
       conv=>whnf
       refine B8e A0 rfl rfl rfl rfl rfl rfl (c:=F1 (r.2.2.nodes.getD r2.2.2.toNat default).outs) rfl (fun v=>go A0 false ?_)
       conv=>whnf
       refine Ak ?_
       refine Aj [13] Aa ⟨?_,trivial⟩
       refine go A0 false ?_
       conv=>whnf
       refine Dp A0 rfl rfl rfl rfl rfl rfl rfl rfl rfl rfl rfl (F1 ((r.2.2.nodes.getD r2.2.2.toNat default).outs++[r4.2.2-1])) (Bf rfl) M1 Ac (Al ?_)
       refine Ak ?_
       refine Aj [14] Aa ⟨?_,trivial⟩
       refine go A0 false ?_
       conv=>whnf
       (repeat refine Ar ?_)
       refine Ak ?_
       refine M7 A0 false 15 rfl rfl rfl Aa rfl (Af D0) ?_
       refine Aj [16] Aa ⟨?_,trivial⟩
       refine go A0 false ?_
       conv=>whnf
       refine D7 (j:=r2.2.2) A0 rfl rfl rfl rfl rfl rfl rfl rfl _ (L1 (j:=r2.2.2.toNat) (xs:=r.2.2.nodes) (e:=Cb.c) (x:=⟨(r.2.2.nodes.getD r2.2.2.toNat default).kind,(r.2.2.nodes.getD r2.2.2.toNat default).a,(r.2.2.nodes.getD r2.2.2.toNat default).b,(r.2.2.nodes.getD r2.2.2.toNat default).outs++[r4.2.2-1]⟩) Ac rfl) (Al ?_)
       refine Ak ?_
       refine Ed Aa (Al ?_)
      rotate_left 1
      focus
       refine go A0 false ?_
       conv=>whnf
       refine B8e A0 rfl rfl rfl rfl rfl rfl (c:=F1 (r.2.2.nodes.getD r2.2.2.toNat default).outs) rfl (fun v=>go A0 false ?_)
       conv=>whnf
       refine Ak ?_
       refine Aj [1,13] Aa ⟨?_,?_,trivial⟩
       focus
        refine go A0 false ?_
        conv=>whnf
        refine Ak ?_
        refine Aj [13] Aa ⟨?_,trivial⟩
        refine go A0 false ?_
        conv=>whnf
        refine Dp A0 rfl rfl rfl rfl rfl rfl rfl rfl rfl rfl rfl (F1 ((r.2.2.nodes.getD r2.2.2.toNat default).outs++[r4.2.2-1])) (Bf rfl) M1 Ac (Al ?_)
        refine Ak ?_
        refine Aj [14] Aa ⟨?_,trivial⟩
        refine go A0 false ?_
        conv=>whnf
        (repeat refine Ar ?_)
        refine Ak ?_
        refine M7 A0 false 15 rfl rfl rfl Aa rfl (Af D0) ?_
        refine Aj [16] Aa ⟨?_,trivial⟩
        refine go A0 false ?_
        conv=>whnf
        refine D7 (j:=r2.2.2) A0 rfl rfl rfl rfl rfl rfl rfl rfl _ (L1 (j:=r2.2.2.toNat) (xs:=r.2.2.nodes) (e:=Cb.c) (x:=⟨(r.2.2.nodes.getD r2.2.2.toNat default).kind,(r.2.2.nodes.getD r2.2.2.toNat default).a,(r.2.2.nodes.getD r2.2.2.toNat default).b,(r.2.2.nodes.getD r2.2.2.toNat default).outs++[r4.2.2-1]⟩) Ac rfl) (Al ?_)
        refine Ak ?_
        refine Ed Aa (Al ?_)
       rotate_left 1
       focus
        refine go A0 false ?_
        conv=>whnf
        refine Dp A0 rfl rfl rfl rfl rfl rfl rfl rfl rfl rfl rfl (F1 ((r.2.2.nodes.getD r2.2.2.toNat default).outs++[r4.2.2-1])) (Bf rfl) M1 Ac (Al ?_)
        refine Ak ?_
        refine Aj [1] Aa ⟨?_,trivial⟩
        refine go A0 false ?_
        conv=>whnf
        refine Ak ?_
        refine Aj [14] Aa ⟨?_,trivial⟩
        refine go A0 false ?_
        conv=>whnf
        (repeat refine Ar ?_)
        refine Ak ?_
        refine M7 A0 false 15 rfl rfl rfl Aa rfl (Af D0) ?_
        refine Aj [16] Aa ⟨?_,trivial⟩
        refine go A0 false ?_
        conv=>whnf
        refine D7 (j:=r2.2.2) A0 rfl rfl rfl rfl rfl rfl rfl rfl _ (L1 (j:=r2.2.2.toNat) (xs:=r.2.2.nodes) (e:=Cb.c) (x:=⟨(r.2.2.nodes.getD r2.2.2.toNat default).kind,(r.2.2.nodes.getD r2.2.2.toNat default).a,(r.2.2.nodes.getD r2.2.2.toNat default).b,(r.2.2.nodes.getD r2.2.2.toNat default).outs++[r4.2.2-1]⟩) Ac rfl) (Al ?_)
        refine Ak ?_
        refine Ed Aa (Al ?_)
   rotate_left 15
   focus
    refine go A0 false ?_
    conv=>whnf
    refine Fg (E5 d r3.1 r3.2.1 9 hr3.1 Bu) hH hp rfl Ca rfl rfl (fun r4 hr4=>go A0 false ?_)
    conv=>whnf
    refine Ak ?_
    refine M7 A0 false 11 rfl rfl rfl Aa rfl (Af D0) ?_
    refine Aj [1,6,12] Aa ⟨?_,?_,?_,trivial⟩
    focus
     refine go A0 false ?_
     conv=>whnf
     refine Ak ?_
     refine Aj [6,12] Aa ⟨?_,?_,trivial⟩
     focus
      refine go A0 false ?_
      conv=>whnf
      (repeat refine Ar ?_)
      refine Ak ?_
      refine M7 A0 false 7 rfl rfl rfl Aa rfl (Af D0) ?_
      refine Aj [8,12] Aa ⟨?_,?_,trivial⟩
      focus
       refine go A0 false ?_
       conv=>whnf
       refine B8e A0 rfl rfl rfl rfl rfl rfl (c:=F1 (r.2.2.nodes.getD r2.2.2.toNat default).outs) rfl (fun v=>go A0 false ?_)
       conv=>whnf
       refine Ak ?_
       refine Aj [12] Aa ⟨?_,trivial⟩
       refine go A0 false ?_
       conv=>whnf
       refine Ak ?_
       refine Aj [13] Aa ⟨?_,trivial⟩
       refine go A0 false ?_
       conv=>whnf
       refine Dp A0 rfl rfl rfl rfl rfl rfl rfl rfl rfl rfl rfl (F1 ((r.2.2.nodes.getD r2.2.2.toNat default).outs++[r4.2.2-1])) (Bf rfl) M1 Ac (Al ?_)
       refine Ak ?_
       refine Aj [14] Aa ⟨?_,trivial⟩
       refine go A0 false ?_
       conv=>whnf
       (repeat refine Ar ?_)
       refine Ak ?_
       refine M7 A0 false 15 rfl rfl rfl Aa rfl (Af D0) ?_
       refine Aj [16] Aa ⟨?_,trivial⟩
       refine go A0 false ?_
       conv=>whnf
       refine D7 (j:=r2.2.2) A0 rfl rfl rfl rfl rfl rfl rfl rfl _ (L1 (j:=r2.2.2.toNat) (xs:=r.2.2.nodes) (e:=Cb.c) (x:=⟨(r.2.2.nodes.getD r2.2.2.toNat default).kind,(r.2.2.nodes.getD r2.2.2.toNat default).a,(r.2.2.nodes.getD r2.2.2.toNat default).b,(r.2.2.nodes.getD r2.2.2.toNat default).outs++[r4.2.2-1]⟩) Ac rfl) (Al ?_)
       refine Ak ?_
       refine Ed Aa (Al ?_)
      rotate_left 1
      focus
       refine go A0 false ?_
       conv=>whnf
       refine Ak ?_
       refine Aj [8] Aa ⟨?_,trivial⟩
       refine go A0 false ?_
       conv=>whnf
       refine B8e A0 rfl rfl rfl rfl rfl rfl (c:=F1 (r.2.2.nodes.getD r2.2.2.toNat default).outs) rfl (fun v=>go A0 false ?_)
       conv=>whnf
       refine Ak ?_
       refine Aj [13] Aa ⟨?_,trivial⟩
       refine go A0 false ?_
       conv=>whnf
       refine Dp A0 rfl rfl rfl rfl rfl rfl rfl rfl rfl rfl rfl (F1 ((r.2.2.nodes.getD r2.2.2.toNat default).outs++[r4.2.2-1])) (Bf rfl) M1 Ac (Al ?_)
       refine Ak ?_
       refine Aj [14] Aa ⟨?_,trivial⟩
       refine go A0 false ?_
       conv=>whnf
       (repeat refine Ar ?_)
       refine Ak ?_
       refine M7 A0 false 15 rfl rfl rfl Aa rfl (Af D0) ?_
       refine Aj [16] Aa ⟨?_,trivial⟩
       refine go A0 false ?_
       conv=>whnf
       refine D7 (j:=r2.2.2) A0 rfl rfl rfl rfl rfl rfl rfl rfl _ (L1 (j:=r2.2.2.toNat) (xs:=r.2.2.nodes) (e:=Cb.c) (x:=⟨(r.2.2.nodes.getD r2.2.2.toNat default).kind,(r.2.2.nodes.getD r2.2.2.toNat default).a,(r.2.2.nodes.getD r2.2.2.toNat default).b,(r.2.2.nodes.getD r2.2.2.toNat default).outs++[r4.2.2-1]⟩) Ac rfl) (Al ?_)
       refine Ak ?_
       refine Ed Aa (Al ?_)
     rotate_left 2
     focus
      refine go A0 false ?_
      conv=>whnf
      refine Ak ?_
      refine Aj [6] Aa ⟨?_,trivial⟩
      refine go A0 false ?_
      conv=>whnf
      (repeat refine Ar ?_)
      refine Ak ?_
      refine M7 A0 false 7 rfl rfl rfl Aa rfl (Af D0) ?_
      refine Aj [8] Aa ⟨?_,trivial⟩
      refine go A0 false ?_
      conv=>whnf
      refine B8e A0 rfl rfl rfl rfl rfl rfl (c:=F1 (r.2.2.nodes.getD r2.2.2.toNat default).outs) rfl (fun v=>go A0 false ?_)
      conv=>whnf
      refine Ak ?_
      refine Aj [13] Aa ⟨?_,trivial⟩
      refine go A0 false ?_
      conv=>whnf
      refine Dp A0 rfl rfl rfl rfl rfl rfl rfl rfl rfl rfl rfl (F1 ((r.2.2.nodes.getD r2.2.2.toNat default).outs++[r4.2.2-1])) (Bf rfl) M1 Ac (Al ?_)
      refine Ak ?_
      refine Aj [14] Aa ⟨?_,trivial⟩
      refine go A0 false ?_
      conv=>whnf
      (repeat refine Ar ?_)
      refine Ak ?_
      refine M7 A0 false 15 rfl rfl rfl Aa rfl (Af D0) ?_
      refine Aj [16] Aa ⟨?_,trivial⟩
      refine go A0 false ?_
      conv=>whnf
      refine D7 (j:=r2.2.2) A0 rfl rfl rfl rfl rfl rfl rfl rfl _ (L1 (j:=r2.2.2.toNat) (xs:=r.2.2.nodes) (e:=Cb.c) (x:=⟨(r.2.2.nodes.getD r2.2.2.toNat default).kind,(r.2.2.nodes.getD r2.2.2.toNat default).a,(r.2.2.nodes.getD r2.2.2.toNat default).b,(r.2.2.nodes.getD r2.2.2.toNat default).outs++[r4.2.2-1]⟩) Ac rfl) (Al ?_)
      refine Ak ?_
      refine Ed Aa (Al ?_)
    rotate_left 3
    focus
     refine go A0 false ?_
     conv=>whnf
     (repeat refine Ar ?_)
     refine Ak ?_
     refine M7 A0 false 7 rfl rfl rfl Aa rfl (Af D0) ?_
     refine Aj [1,8,12] Aa ⟨?_,?_,?_,trivial⟩
     focus
      refine go A0 false ?_
      conv=>whnf
      refine Ak ?_
      refine Aj [8,12] Aa ⟨?_,?_,trivial⟩
      focus
       refine go A0 false ?_
       conv=>whnf
       refine B8e A0 rfl rfl rfl rfl rfl rfl (c:=F1 (r.2.2.nodes.getD r2.2.2.toNat default).outs) rfl (fun v=>go A0 false ?_)
       conv=>whnf
       refine Ak ?_
       refine Aj [12] Aa ⟨?_,trivial⟩
       refine go A0 false ?_
       conv=>whnf
       refine Ak ?_
       refine Aj [13] Aa ⟨?_,trivial⟩
       refine go A0 false ?_
       conv=>whnf
       refine Dp A0 rfl rfl rfl rfl rfl rfl rfl rfl rfl rfl rfl (F1 ((r.2.2.nodes.getD r2.2.2.toNat default).outs++[r4.2.2-1])) (Bf rfl) M1 Ac (Al ?_)
       refine Ak ?_
       refine Aj [14] Aa ⟨?_,trivial⟩
       refine go A0 false ?_
       conv=>whnf
       (repeat refine Ar ?_)
       refine Ak ?_
       refine M7 A0 false 15 rfl rfl rfl Aa rfl (Af D0) ?_
       refine Aj [16] Aa ⟨?_,trivial⟩
       refine go A0 false ?_
       conv=>whnf
       refine D7 (j:=r2.2.2) A0 rfl rfl rfl rfl rfl rfl rfl rfl _ (L1 (j:=r2.2.2.toNat) (xs:=r.2.2.nodes) (e:=Cb.c) (x:=⟨(r.2.2.nodes.getD r2.2.2.toNat default).kind,(r.2.2.nodes.getD r2.2.2.toNat default).a,(r.2.2.nodes.getD r2.2.2.toNat default).b,(r.2.2.nodes.getD r2.2.2.toNat default).outs++[r4.2.2-1]⟩) Ac rfl) (Al ?_)
       refine Ak ?_
       refine Ed Aa (Al ?_)
      rotate_left 1
      focus
       refine go A0 false ?_
       conv=>whnf
       refine Ak ?_
       refine Aj [8] Aa ⟨?_,trivial⟩
       refine go A0 false ?_
       conv=>whnf
       refine B8e A0 rfl rfl rfl rfl rfl rfl (c:=F1 (r.2.2.nodes.getD r2.2.2.toNat default).outs) rfl (fun v=>go A0 false ?_)
       conv=>whnf
       refine Ak ?_
       refine Aj [13] Aa ⟨?_,trivial⟩
       refine go A0 false ?_
       conv=>whnf
       refine Dp A0 rfl rfl rfl rfl rfl rfl rfl rfl rfl rfl rfl (F1 ((r.2.2.nodes.getD r2.2.2.toNat default).outs++[r4.2.2-1])) (Bf rfl) M1 Ac (Al ?_)
       refine Ak ?_
       refine Aj [14] Aa ⟨?_,trivial⟩
       refine go A0 false ?_
       conv=>whnf
       (repeat refine Ar ?_)
       refine Ak ?_
       refine M7 A0 false 15 rfl rfl rfl Aa rfl (Af D0) ?_
       refine Aj [16] Aa ⟨?_,trivial⟩
       refine go A0 false ?_
       conv=>whnf
       refine D7 (j:=r2.2.2) A0 rfl rfl rfl rfl rfl rfl rfl rfl _ (L1 (j:=r2.2.2.toNat) (xs:=r.2.2.nodes) (e:=Cb.c) (x:=⟨(r.2.2.nodes.getD r2.2.2.toNat default).kind,(r.2.2.nodes.getD r2.2.2.toNat default).a,(r.2.2.nodes.getD r2.2.2.toNat default).b,(r.2.2.nodes.getD r2.2.2.toNat default).outs++[r4.2.2-1]⟩) Ac rfl) (Al ?_)
       refine Ak ?_
       refine Ed Aa (Al ?_)
     rotate_left 2
     focus
      refine go A0 false ?_
      conv=>whnf
      refine B8e A0 rfl rfl rfl rfl rfl rfl (c:=F1 (r.2.2.nodes.getD r2.2.2.toNat default).outs) rfl (fun v=>go A0 false ?_)
      conv=>whnf
      refine Ak ?_
      refine Aj [1,12] Aa ⟨?_,?_,trivial⟩
      focus
       refine go A0 false ?_
       conv=>whnf
       refine Ak ?_
       refine Aj [12] Aa ⟨?_,trivial⟩
       refine go A0 false ?_
       conv=>whnf
       refine Ak ?_
       refine Aj [13] Aa ⟨?_,trivial⟩
       refine go A0 false ?_
       conv=>whnf
       refine Dp A0 rfl rfl rfl rfl rfl rfl rfl rfl rfl rfl rfl (F1 ((r.2.2.nodes.getD r2.2.2.toNat default).outs++[r4.2.2-1])) (Bf rfl) M1 Ac (Al ?_)
       refine Ak ?_
       refine Aj [14] Aa ⟨?_,trivial⟩
       refine go A0 false ?_
       conv=>whnf
       (repeat refine Ar ?_)
       refine Ak ?_
       refine M7 A0 false 15 rfl rfl rfl Aa rfl (Af D0) ?_
       refine Aj [16] Aa ⟨?_,trivial⟩
       refine go A0 false ?_
       conv=>whnf
       refine D7 (j:=r2.2.2) A0 rfl rfl rfl rfl rfl rfl rfl rfl _ (L1 (j:=r2.2.2.toNat) (xs:=r.2.2.nodes) (e:=Cb.c) (x:=⟨(r.2.2.nodes.getD r2.2.2.toNat default).kind,(r.2.2.nodes.getD r2.2.2.toNat default).a,(r.2.2.nodes.getD r2.2.2.toNat default).b,(r.2.2.nodes.getD r2.2.2.toNat default).outs++[r4.2.2-1]⟩) Ac rfl) (Al ?_)
       refine Ak ?_
       refine Ed Aa (Al ?_)
      rotate_left 1
      focus
       refine go A0 false ?_
       conv=>whnf
       refine Ak ?_
       refine Aj [1,13] Aa ⟨?_,?_,trivial⟩
       focus
        refine go A0 false ?_
        conv=>whnf
        refine Ak ?_
        refine Aj [13] Aa ⟨?_,trivial⟩
        refine go A0 false ?_
        conv=>whnf
        refine Dp A0 rfl rfl rfl rfl rfl rfl rfl rfl rfl rfl rfl (F1 ((r.2.2.nodes.getD r2.2.2.toNat default).outs++[r4.2.2-1])) (Bf rfl) M1 Ac (Al ?_)
        refine Ak ?_
        refine Aj [14] Aa ⟨?_,trivial⟩
        refine go A0 false ?_
        conv=>whnf
        (repeat refine Ar ?_)
        refine Ak ?_
        refine M7 A0 false 15 rfl rfl rfl Aa rfl (Af D0) ?_
        refine Aj [16] Aa ⟨?_,trivial⟩
        refine go A0 false ?_
        conv=>whnf
        refine D7 (j:=r2.2.2) A0 rfl rfl rfl rfl rfl rfl rfl rfl _ (L1 (j:=r2.2.2.toNat) (xs:=r.2.2.nodes) (e:=Cb.c) (x:=⟨(r.2.2.nodes.getD r2.2.2.toNat default).kind,(r.2.2.nodes.getD r2.2.2.toNat default).a,(r.2.2.nodes.getD r2.2.2.toNat default).b,(r.2.2.nodes.getD r2.2.2.toNat default).outs++[r4.2.2-1]⟩) Ac rfl) (Al ?_)
        refine Ak ?_
        refine Ed Aa (Al ?_)
       rotate_left 1
       focus
        refine go A0 false ?_
        conv=>whnf
        refine Dp A0 rfl rfl rfl rfl rfl rfl rfl rfl rfl rfl rfl (F1 ((r.2.2.nodes.getD r2.2.2.toNat default).outs++[r4.2.2-1])) (Bf rfl) M1 Ac (Al ?_)
        refine Ak ?_
        refine Aj [1] Aa ⟨?_,trivial⟩
        refine go A0 false ?_
        conv=>whnf
        refine Ak ?_
        refine Aj [14] Aa ⟨?_,trivial⟩
        refine go A0 false ?_
        conv=>whnf
        (repeat refine Ar ?_)
        refine Ak ?_
        refine M7 A0 false 15 rfl rfl rfl Aa rfl (Af D0) ?_
        refine Aj [16] Aa ⟨?_,trivial⟩
        refine go A0 false ?_
        conv=>whnf
        refine D7 (j:=r2.2.2) A0 rfl rfl rfl rfl rfl rfl rfl rfl _ (L1 (j:=r2.2.2.toNat) (xs:=r.2.2.nodes) (e:=Cb.c) (x:=⟨(r.2.2.nodes.getD r2.2.2.toNat default).kind,(r.2.2.nodes.getD r2.2.2.toNat default).a,(r.2.2.nodes.getD r2.2.2.toNat default).b,(r.2.2.nodes.getD r2.2.2.toNat default).outs++[r4.2.2-1]⟩) Ac rfl) (Al ?_)
        refine Ak ?_
        refine Ed Aa (Al ?_)
     rotate_left 3
     focus
      refine go A0 false ?_
      conv=>whnf
      refine Ak ?_
      refine Aj [1,8] Aa ⟨?_,?_,trivial⟩
      focus
       refine go A0 false ?_
       conv=>whnf
       refine Ak ?_
       refine Aj [8] Aa ⟨?_,trivial⟩
       refine go A0 false ?_
       conv=>whnf
       refine B8e A0 rfl rfl rfl rfl rfl rfl (c:=F1 (r.2.2.nodes.getD r2.2.2.toNat default).outs) rfl (fun v=>go A0 false ?_)
       conv=>whnf
       refine Ak ?_
       refine Aj [13] Aa ⟨?_,trivial⟩
       refine go A0 false ?_
       conv=>whnf
       refine Dp A0 rfl rfl rfl rfl rfl rfl rfl rfl rfl rfl rfl (F1 ((r.2.2.nodes.getD r2.2.2.toNat default).outs++[r4.2.2-1])) (Bf rfl) M1 Ac (Al ?_)
       refine Ak ?_
       refine Aj [14] Aa ⟨?_,trivial⟩
       refine go A0 false ?_
       conv=>whnf
       (repeat refine Ar ?_)
       refine Ak ?_
       refine M7 A0 false 15 rfl rfl rfl Aa rfl (Af D0) ?_
       refine Aj [16] Aa ⟨?_,trivial⟩
       refine go A0 false ?_
       conv=>whnf
       refine D7 (j:=r2.2.2) A0 rfl rfl rfl rfl rfl rfl rfl rfl _ (L1 (j:=r2.2.2.toNat) (xs:=r.2.2.nodes) (e:=Cb.c) (x:=⟨(r.2.2.nodes.getD r2.2.2.toNat default).kind,(r.2.2.nodes.getD r2.2.2.toNat default).a,(r.2.2.nodes.getD r2.2.2.toNat default).b,(r.2.2.nodes.getD r2.2.2.toNat default).outs++[r4.2.2-1]⟩) Ac rfl) (Al ?_)
       refine Ak ?_
       refine Ed Aa (Al ?_)
      rotate_left 1
      focus
       refine go A0 false ?_
       conv=>whnf
       refine B8e A0 rfl rfl rfl rfl rfl rfl (c:=F1 (r.2.2.nodes.getD r2.2.2.toNat default).outs) rfl (fun v=>go A0 false ?_)
       conv=>whnf
       refine Ak ?_
       refine Aj [1,13] Aa ⟨?_,?_,trivial⟩
       focus
        refine go A0 false ?_
        conv=>whnf
        refine Ak ?_
        refine Aj [13] Aa ⟨?_,trivial⟩
        refine go A0 false ?_
        conv=>whnf
        refine Dp A0 rfl rfl rfl rfl rfl rfl rfl rfl rfl rfl rfl (F1 ((r.2.2.nodes.getD r2.2.2.toNat default).outs++[r4.2.2-1])) (Bf rfl) M1 Ac (Al ?_)
        refine Ak ?_
        refine Aj [14] Aa ⟨?_,trivial⟩
        refine go A0 false ?_
        conv=>whnf
        (repeat refine Ar ?_)
        refine Ak ?_
        refine M7 A0 false 15 rfl rfl rfl Aa rfl (Af D0) ?_
        refine Aj [16] Aa ⟨?_,trivial⟩
        refine go A0 false ?_
        conv=>whnf
        refine D7 (j:=r2.2.2) A0 rfl rfl rfl rfl rfl rfl rfl rfl _ (L1 (j:=r2.2.2.toNat) (xs:=r.2.2.nodes) (e:=Cb.c) (x:=⟨(r.2.2.nodes.getD r2.2.2.toNat default).kind,(r.2.2.nodes.getD r2.2.2.toNat default).a,(r.2.2.nodes.getD r2.2.2.toNat default).b,(r.2.2.nodes.getD r2.2.2.toNat default).outs++[r4.2.2-1]⟩) Ac rfl) (Al ?_)
        refine Ak ?_
        refine Ed Aa (Al ?_)
       rotate_left 1
       focus
        refine go A0 false ?_
        conv=>whnf
        refine Dp A0 rfl rfl rfl rfl rfl rfl rfl rfl rfl rfl rfl (F1 ((r.2.2.nodes.getD r2.2.2.toNat default).outs++[r4.2.2-1])) (Bf rfl) M1 Ac (Al ?_)
        refine Ak ?_
        refine Aj [1] Aa ⟨?_,trivial⟩
        refine go A0 false ?_
        conv=>whnf
        refine Ak ?_
        refine Aj [14] Aa ⟨?_,trivial⟩
        refine go A0 false ?_
        conv=>whnf
        (repeat refine Ar ?_)
        refine Ak ?_
        refine M7 A0 false 15 rfl rfl rfl Aa rfl (Af D0) ?_
        refine Aj [16] Aa ⟨?_,trivial⟩
        refine go A0 false ?_
        conv=>whnf
        refine D7 (j:=r2.2.2) A0 rfl rfl rfl rfl rfl rfl rfl rfl _ (L1 (j:=r2.2.2.toNat) (xs:=r.2.2.nodes) (e:=Cb.c) (x:=⟨(r.2.2.nodes.getD r2.2.2.toNat default).kind,(r.2.2.nodes.getD r2.2.2.toNat default).a,(r.2.2.nodes.getD r2.2.2.toNat default).b,(r.2.2.nodes.getD r2.2.2.toNat default).outs++[r4.2.2-1]⟩) Ac rfl) (Al ?_)
        refine Ak ?_
        refine Ed Aa (Al ?_)
    rotate_left 8
    focus
     refine go A0 false ?_
     conv=>whnf
     refine Ak ?_
     refine Aj [1,6] Aa ⟨?_,?_,trivial⟩
     focus
      refine go A0 false ?_
      conv=>whnf
      refine Ak ?_
      refine Aj [6] Aa ⟨?_,trivial⟩
      refine go A0 false ?_
      conv=>whnf
      (repeat refine Ar ?_)
      refine Ak ?_
      refine M7 A0 false 7 rfl rfl rfl Aa rfl (Af D0) ?_
      refine Aj [8] Aa ⟨?_,trivial⟩
      refine go A0 false ?_
      conv=>whnf
      refine B8e A0 rfl rfl rfl rfl rfl rfl (c:=F1 (r.2.2.nodes.getD r2.2.2.toNat default).outs) rfl (fun v=>go A0 false ?_)
      conv=>whnf
      refine Ak ?_
      refine Aj [13] Aa ⟨?_,trivial⟩
      refine go A0 false ?_
      conv=>whnf
      refine Dp A0 rfl rfl rfl rfl rfl rfl rfl rfl rfl rfl rfl (F1 ((r.2.2.nodes.getD r2.2.2.toNat default).outs++[r4.2.2-1])) (Bf rfl) M1 Ac (Al ?_)
      refine Ak ?_
      refine Aj [14] Aa ⟨?_,trivial⟩
      refine go A0 false ?_
      conv=>whnf
      (repeat refine Ar ?_)
      refine Ak ?_
      refine M7 A0 false 15 rfl rfl rfl Aa rfl (Af D0) ?_
      refine Aj [16] Aa ⟨?_,trivial⟩
      refine go A0 false ?_
      conv=>whnf
      refine D7 (j:=r2.2.2) A0 rfl rfl rfl rfl rfl rfl rfl rfl _ (L1 (j:=r2.2.2.toNat) (xs:=r.2.2.nodes) (e:=Cb.c) (x:=⟨(r.2.2.nodes.getD r2.2.2.toNat default).kind,(r.2.2.nodes.getD r2.2.2.toNat default).a,(r.2.2.nodes.getD r2.2.2.toNat default).b,(r.2.2.nodes.getD r2.2.2.toNat default).outs++[r4.2.2-1]⟩) Ac rfl) (Al ?_)
      refine Ak ?_
      refine Ed Aa (Al ?_)
     rotate_left 1
     focus
      refine go A0 false ?_
      conv=>whnf
      (repeat refine Ar ?_)
      refine Ak ?_
      refine M7 A0 false 7 rfl rfl rfl Aa rfl (Af D0) ?_
      refine Aj [1,8] Aa ⟨?_,?_,trivial⟩
      focus
       refine go A0 false ?_
       conv=>whnf
       refine Ak ?_
       refine Aj [8] Aa ⟨?_,trivial⟩
       refine go A0 false ?_
       conv=>whnf
       refine B8e A0 rfl rfl rfl rfl rfl rfl (c:=F1 (r.2.2.nodes.getD r2.2.2.toNat default).outs) rfl (fun v=>go A0 false ?_)
       conv=>whnf
       refine Ak ?_
       refine Aj [13] Aa ⟨?_,trivial⟩
       refine go A0 false ?_
       conv=>whnf
       refine Dp A0 rfl rfl rfl rfl rfl rfl rfl rfl rfl rfl rfl (F1 ((r.2.2.nodes.getD r2.2.2.toNat default).outs++[r4.2.2-1])) (Bf rfl) M1 Ac (Al ?_)
       refine Ak ?_
       refine Aj [14] Aa ⟨?_,trivial⟩
       refine go A0 false ?_
       conv=>whnf
       (repeat refine Ar ?_)
       refine Ak ?_
       refine M7 A0 false 15 rfl rfl rfl Aa rfl (Af D0) ?_
       refine Aj [16] Aa ⟨?_,trivial⟩
       refine go A0 false ?_
       conv=>whnf
       refine D7 (j:=r2.2.2) A0 rfl rfl rfl rfl rfl rfl rfl rfl _ (L1 (j:=r2.2.2.toNat) (xs:=r.2.2.nodes) (e:=Cb.c) (x:=⟨(r.2.2.nodes.getD r2.2.2.toNat default).kind,(r.2.2.nodes.getD r2.2.2.toNat default).a,(r.2.2.nodes.getD r2.2.2.toNat default).b,(r.2.2.nodes.getD r2.2.2.toNat default).outs++[r4.2.2-1]⟩) Ac rfl) (Al ?_)
       refine Ak ?_
       refine Ed Aa (Al ?_)
      rotate_left 1
      focus
       refine go A0 false ?_
       conv=>whnf
       refine B8e A0 rfl rfl rfl rfl rfl rfl (c:=F1 (r.2.2.nodes.getD r2.2.2.toNat default).outs) rfl (fun v=>go A0 false ?_)
       conv=>whnf
       refine Ak ?_
       refine Aj [1,13] Aa ⟨?_,?_,trivial⟩
       focus
        refine go A0 false ?_
        conv=>whnf
        refine Ak ?_
        refine Aj [13] Aa ⟨?_,trivial⟩
        refine go A0 false ?_
        conv=>whnf
        refine Dp A0 rfl rfl rfl rfl rfl rfl rfl rfl rfl rfl rfl (F1 ((r.2.2.nodes.getD r2.2.2.toNat default).outs++[r4.2.2-1])) (Bf rfl) M1 Ac (Al ?_)
        refine Ak ?_
        refine Aj [14] Aa ⟨?_,trivial⟩
        refine go A0 false ?_
        conv=>whnf
        (repeat refine Ar ?_)
        refine Ak ?_
        refine M7 A0 false 15 rfl rfl rfl Aa rfl (Af D0) ?_
        refine Aj [16] Aa ⟨?_,trivial⟩
        refine go A0 false ?_
        conv=>whnf
        refine D7 (j:=r2.2.2) A0 rfl rfl rfl rfl rfl rfl rfl rfl _ (L1 (j:=r2.2.2.toNat) (xs:=r.2.2.nodes) (e:=Cb.c) (x:=⟨(r.2.2.nodes.getD r2.2.2.toNat default).kind,(r.2.2.nodes.getD r2.2.2.toNat default).a,(r.2.2.nodes.getD r2.2.2.toNat default).b,(r.2.2.nodes.getD r2.2.2.toNat default).outs++[r4.2.2-1]⟩) Ac rfl) (Al ?_)
        refine Ak ?_
        refine Ed Aa (Al ?_)
       rotate_left 1
       focus
        refine go A0 false ?_
        conv=>whnf
        refine Dp A0 rfl rfl rfl rfl rfl rfl rfl rfl rfl rfl rfl (F1 ((r.2.2.nodes.getD r2.2.2.toNat default).outs++[r4.2.2-1])) (Bf rfl) M1 Ac (Al ?_)
        refine Ak ?_
        refine Aj [1] Aa ⟨?_,trivial⟩
        refine go A0 false ?_
        conv=>whnf
        refine Ak ?_
        refine Aj [14] Aa ⟨?_,trivial⟩
        refine go A0 false ?_
        conv=>whnf
        (repeat refine Ar ?_)
        refine Ak ?_
        refine M7 A0 false 15 rfl rfl rfl Aa rfl (Af D0) ?_
        refine Aj [16] Aa ⟨?_,trivial⟩
        refine go A0 false ?_
        conv=>whnf
        refine D7 (j:=r2.2.2) A0 rfl rfl rfl rfl rfl rfl rfl rfl _ (L1 (j:=r2.2.2.toNat) (xs:=r.2.2.nodes) (e:=Cb.c) (x:=⟨(r.2.2.nodes.getD r2.2.2.toNat default).kind,(r.2.2.nodes.getD r2.2.2.toNat default).a,(r.2.2.nodes.getD r2.2.2.toNat default).b,(r.2.2.nodes.getD r2.2.2.toNat default).outs++[r4.2.2-1]⟩) Ac rfl) (Al ?_)
        refine Ak ?_
        refine Ed Aa (Al ?_)
  rotate_left 36
  focus
   refine go A0 false ?_
   conv=>whnf
   refine Fg (E5 d r3.1 r3.2.1 9 hr3.1 Bu) hH hp rfl Ca rfl rfl (fun r4 hr4=>go A0 false ?_)
   conv=>whnf
   refine Ak ?_
   refine M7 A0 false 11 rfl rfl rfl Aa rfl (Af D0) ?_
   refine Aj [1,4,12] Aa ⟨?_,?_,?_,trivial⟩
   focus
    refine go A0 false ?_
    conv=>whnf
    refine Ak ?_
    refine Aj [4,12] Aa ⟨?_,?_,trivial⟩
    focus
     refine go A0 false ?_
     conv=>whnf
     refine Ak ?_
     refine Aj [6,12] Aa ⟨?_,?_,trivial⟩
     focus
      refine go A0 false ?_
      conv=>whnf
      (repeat refine Ar ?_)
      refine Ak ?_
      refine M7 A0 false 7 rfl rfl rfl Aa rfl (Af D0) ?_
      refine Aj [8,12] Aa ⟨?_,?_,trivial⟩
      focus
       refine go A0 false ?_
       conv=>whnf
       refine B8e A0 rfl rfl rfl rfl rfl rfl (c:=F1 (r.2.2.nodes.getD r2.2.2.toNat default).outs) rfl (fun v=>go A0 false ?_)
       conv=>whnf
       refine Ak ?_
       refine Aj [12] Aa ⟨?_,trivial⟩
       refine go A0 false ?_
       conv=>whnf
       refine Ak ?_
       refine Aj [13] Aa ⟨?_,trivial⟩
       refine go A0 false ?_
       conv=>whnf
       refine Dp A0 rfl rfl rfl rfl rfl rfl rfl rfl rfl rfl rfl (F1 ((r.2.2.nodes.getD r2.2.2.toNat default).outs++[r4.2.2-1])) (Bf rfl) M1 Ac (Al ?_)
       refine Ak ?_
       refine Aj [14] Aa ⟨?_,trivial⟩
       refine go A0 false ?_
       conv=>whnf
       (repeat refine Ar ?_)
       refine Ak ?_
       refine M7 A0 false 15 rfl rfl rfl Aa rfl (Af D0) ?_
       refine Aj [16] Aa ⟨?_,trivial⟩
       refine go A0 false ?_
       conv=>whnf
       refine D7 (j:=r2.2.2) A0 rfl rfl rfl rfl rfl rfl rfl rfl _ (L1 (j:=r2.2.2.toNat) (xs:=r.2.2.nodes) (e:=Cb.c) (x:=⟨(r.2.2.nodes.getD r2.2.2.toNat default).kind,(r.2.2.nodes.getD r2.2.2.toNat default).a,(r.2.2.nodes.getD r2.2.2.toNat default).b,(r.2.2.nodes.getD r2.2.2.toNat default).outs++[r4.2.2-1]⟩) Ac rfl) (Al ?_)
       refine Ak ?_
       refine Ed Aa (Al ?_)
      rotate_left 1
      focus
       refine go A0 false ?_
       conv=>whnf
       refine Ak ?_
       refine Aj [8] Aa ⟨?_,trivial⟩
       refine go A0 false ?_
       conv=>whnf
       refine B8e A0 rfl rfl rfl rfl rfl rfl (c:=F1 (r.2.2.nodes.getD r2.2.2.toNat default).outs) rfl (fun v=>go A0 false ?_)
       conv=>whnf
       refine Ak ?_
       refine Aj [13] Aa ⟨?_,trivial⟩
       refine go A0 false ?_
       conv=>whnf
       refine Dp A0 rfl rfl rfl rfl rfl rfl rfl rfl rfl rfl rfl (F1 ((r.2.2.nodes.getD r2.2.2.toNat default).outs++[r4.2.2-1])) (Bf rfl) M1 Ac (Al ?_)
       refine Ak ?_
       refine Aj [14] Aa ⟨?_,trivial⟩
       refine go A0 false ?_
       conv=>whnf
       (repeat refine Ar ?_)
       refine Ak ?_
       refine M7 A0 false 15 rfl rfl rfl Aa rfl (Af D0) ?_
       refine Aj [16] Aa ⟨?_,trivial⟩
       refine go A0 false ?_
       conv=>whnf
       refine D7 (j:=r2.2.2) A0 rfl rfl rfl rfl rfl rfl rfl rfl _ (L1 (j:=r2.2.2.toNat) (xs:=r.2.2.nodes) (e:=Cb.c) (x:=⟨(r.2.2.nodes.getD r2.2.2.toNat default).kind,(r.2.2.nodes.getD r2.2.2.toNat default).a,(r.2.2.nodes.getD r2.2.2.toNat default).b,(r.2.2.nodes.getD r2.2.2.toNat default).outs++[r4.2.2-1]⟩) Ac rfl) (Al ?_)
       refine Ak ?_
       refine Ed Aa (Al ?_)
     rotate_left 2
     focus
      refine go A0 false ?_
      conv=>whnf
      refine Ak ?_
      refine Aj [6] Aa ⟨?_,trivial⟩
      refine go A0 false ?_
      conv=>whnf
      (repeat refine Ar ?_)
      refine Ak ?_
      refine M7 A0 false 7 rfl rfl rfl Aa rfl (Af D0) ?_
      refine Aj [8] Aa ⟨?_,trivial⟩
      refine go A0 false ?_
      conv=>whnf
      refine B8e A0 rfl rfl rfl rfl rfl rfl (c:=F1 (r.2.2.nodes.getD r2.2.2.toNat default).outs) rfl (fun v=>go A0 false ?_)
      conv=>whnf
      refine Ak ?_
      refine Aj [13] Aa ⟨?_,trivial⟩
      refine go A0 false ?_
      conv=>whnf
      refine Dp A0 rfl rfl rfl rfl rfl rfl rfl rfl rfl rfl rfl (F1 ((r.2.2.nodes.getD r2.2.2.toNat default).outs++[r4.2.2-1])) (Bf rfl) M1 Ac (Al ?_)
      refine Ak ?_
      refine Aj [14] Aa ⟨?_,trivial⟩
      refine go A0 false ?_
      conv=>whnf
      (repeat refine Ar ?_)
      refine Ak ?_
      refine M7 A0 false 15 rfl rfl rfl Aa rfl (Af D0) ?_
      refine Aj [16] Aa ⟨?_,trivial⟩
      refine go A0 false ?_
      conv=>whnf
      refine D7 (j:=r2.2.2) A0 rfl rfl rfl rfl rfl rfl rfl rfl _ (L1 (j:=r2.2.2.toNat) (xs:=r.2.2.nodes) (e:=Cb.c) (x:=⟨(r.2.2.nodes.getD r2.2.2.toNat default).kind,(r.2.2.nodes.getD r2.2.2.toNat default).a,(r.2.2.nodes.getD r2.2.2.toNat default).b,(r.2.2.nodes.getD r2.2.2.toNat default).outs++[r4.2.2-1]⟩) Ac rfl) (Al ?_)
      refine Ak ?_
      refine Ed Aa (Al ?_)
    rotate_left 3
    focus
     refine go A0 false ?_
     conv=>whnf
     refine Ak ?_
     refine Aj [4] Aa ⟨?_,trivial⟩
     refine go A0 false ?_
     conv=>whnf
     refine Ak ?_
     refine Aj [6] Aa ⟨?_,trivial⟩
     refine go A0 false ?_
     conv=>whnf
     (repeat refine Ar ?_)
     refine Ak ?_
     refine M7 A0 false 7 rfl rfl rfl Aa rfl (Af D0) ?_
     refine Aj [8] Aa ⟨?_,trivial⟩
     refine go A0 false ?_
     conv=>whnf
     refine B8e A0 rfl rfl rfl rfl rfl rfl (c:=F1 (r.2.2.nodes.getD r2.2.2.toNat default).outs) rfl (fun v=>go A0 false ?_)
     conv=>whnf
     refine Ak ?_
     refine Aj [13] Aa ⟨?_,trivial⟩
     refine go A0 false ?_
     conv=>whnf
     refine Dp A0 rfl rfl rfl rfl rfl rfl rfl rfl rfl rfl rfl (F1 ((r.2.2.nodes.getD r2.2.2.toNat default).outs++[r4.2.2-1])) (Bf rfl) M1 Ac (Al ?_)
     refine Ak ?_
     refine Aj [14] Aa ⟨?_,trivial⟩
     refine go A0 false ?_
     conv=>whnf
     (repeat refine Ar ?_)
     refine Ak ?_
     refine M7 A0 false 15 rfl rfl rfl Aa rfl (Af D0) ?_
     refine Aj [16] Aa ⟨?_,trivial⟩
     refine go A0 false ?_
     conv=>whnf
     refine D7 (j:=r2.2.2) A0 rfl rfl rfl rfl rfl rfl rfl rfl _ (L1 (j:=r2.2.2.toNat) (xs:=r.2.2.nodes) (e:=Cb.c) (x:=⟨(r.2.2.nodes.getD r2.2.2.toNat default).kind,(r.2.2.nodes.getD r2.2.2.toNat default).a,(r.2.2.nodes.getD r2.2.2.toNat default).b,(r.2.2.nodes.getD r2.2.2.toNat default).outs++[r4.2.2-1]⟩) Ac rfl) (Al ?_)
     refine Ak ?_
     refine Ed Aa (Al ?_)
   rotate_left 4
   focus
    refine go A0 false ?_
    conv=>whnf
    refine Ak ?_
    refine Aj [1,6,12] Aa ⟨?_,?_,?_,trivial⟩
    focus
     refine go A0 false ?_
     conv=>whnf
     refine Ak ?_
     refine Aj [6,12] Aa ⟨?_,?_,trivial⟩
     focus
      refine go A0 false ?_
      conv=>whnf
      (repeat refine Ar ?_)
      refine Ak ?_
      refine M7 A0 false 7 rfl rfl rfl Aa rfl (Af D0) ?_
      refine Aj [8,12] Aa ⟨?_,?_,trivial⟩
      focus
       refine go A0 false ?_
       conv=>whnf
       refine B8e A0 rfl rfl rfl rfl rfl rfl (c:=F1 (r.2.2.nodes.getD r2.2.2.toNat default).outs) rfl (fun v=>go A0 false ?_)
       conv=>whnf
       refine Ak ?_
       refine Aj [12] Aa ⟨?_,trivial⟩
       refine go A0 false ?_
       conv=>whnf
       refine Ak ?_
       refine Aj [13] Aa ⟨?_,trivial⟩
       refine go A0 false ?_
       conv=>whnf
       refine Dp A0 rfl rfl rfl rfl rfl rfl rfl rfl rfl rfl rfl (F1 ((r.2.2.nodes.getD r2.2.2.toNat default).outs++[r4.2.2-1])) (Bf rfl) M1 Ac (Al ?_)
       refine Ak ?_
       refine Aj [14] Aa ⟨?_,trivial⟩
       refine go A0 false ?_
       conv=>whnf
       (repeat refine Ar ?_)
       refine Ak ?_
       refine M7 A0 false 15 rfl rfl rfl Aa rfl (Af D0) ?_
       refine Aj [16] Aa ⟨?_,trivial⟩
       refine go A0 false ?_
       conv=>whnf
       refine D7 (j:=r2.2.2) A0 rfl rfl rfl rfl rfl rfl rfl rfl _ (L1 (j:=r2.2.2.toNat) (xs:=r.2.2.nodes) (e:=Cb.c) (x:=⟨(r.2.2.nodes.getD r2.2.2.toNat default).kind,(r.2.2.nodes.getD r2.2.2.toNat default).a,(r.2.2.nodes.getD r2.2.2.toNat default).b,(r.2.2.nodes.getD r2.2.2.toNat default).outs++[r4.2.2-1]⟩) Ac rfl) (Al ?_)
       refine Ak ?_
       refine Ed Aa (Al ?_)
      rotate_left 1
      focus
       refine go A0 false ?_
       conv=>whnf
       refine Ak ?_
       refine Aj [8] Aa ⟨?_,trivial⟩
       refine go A0 false ?_
       conv=>whnf
       refine B8e A0 rfl rfl rfl rfl rfl rfl (c:=F1 (r.2.2.nodes.getD r2.2.2.toNat default).outs) rfl (fun v=>go A0 false ?_)
       conv=>whnf
       refine Ak ?_
       refine Aj [13] Aa ⟨?_,trivial⟩
       refine go A0 false ?_
       conv=>whnf
       refine Dp A0 rfl rfl rfl rfl rfl rfl rfl rfl rfl rfl rfl (F1 ((r.2.2.nodes.getD r2.2.2.toNat default).outs++[r4.2.2-1])) (Bf rfl) M1 Ac (Al ?_)
       refine Ak ?_
       refine Aj [14] Aa ⟨?_,trivial⟩
       refine go A0 false ?_
       conv=>whnf
       (repeat refine Ar ?_)
       refine Ak ?_
       refine M7 A0 false 15 rfl rfl rfl Aa rfl (Af D0) ?_
       refine Aj [16] Aa ⟨?_,trivial⟩
       refine go A0 false ?_
       conv=>whnf
       refine D7 (j:=r2.2.2) A0 rfl rfl rfl rfl rfl rfl rfl rfl _ (L1 (j:=r2.2.2.toNat) (xs:=r.2.2.nodes) (e:=Cb.c) (x:=⟨(r.2.2.nodes.getD r2.2.2.toNat default).kind,(r.2.2.nodes.getD r2.2.2.toNat default).a,(r.2.2.nodes.getD r2.2.2.toNat default).b,(r.2.2.nodes.getD r2.2.2.toNat default).outs++[r4.2.2-1]⟩) Ac rfl) (Al ?_)
       refine Ak ?_
       refine Ed Aa (Al ?_)
     rotate_left 2
     focus
      refine go A0 false ?_
      conv=>whnf
      refine Ak ?_
      refine Aj [6] Aa ⟨?_,trivial⟩
      refine go A0 false ?_
      conv=>whnf
      (repeat refine Ar ?_)
      refine Ak ?_
      refine M7 A0 false 7 rfl rfl rfl Aa rfl (Af D0) ?_
      refine Aj [8] Aa ⟨?_,trivial⟩
      refine go A0 false ?_
      conv=>whnf
      refine B8e A0 rfl rfl rfl rfl rfl rfl (c:=F1 (r.2.2.nodes.getD r2.2.2.toNat default).outs) rfl (fun v=>go A0 false ?_)
      conv=>whnf
      refine Ak ?_
      refine Aj [13] Aa ⟨?_,trivial⟩
      refine go A0 false ?_
      conv=>whnf
      refine Dp A0 rfl rfl rfl rfl rfl rfl rfl rfl rfl rfl rfl (F1 ((r.2.2.nodes.getD r2.2.2.toNat default).outs++[r4.2.2-1])) (Bf rfl) M1 Ac (Al ?_)
      refine Ak ?_
      refine Aj [14] Aa ⟨?_,trivial⟩
      refine go A0 false ?_
      conv=>whnf
      (repeat refine Ar ?_)
      refine Ak ?_
      refine M7 A0 false 15 rfl rfl rfl Aa rfl (Af D0) ?_
      refine Aj [16] Aa ⟨?_,trivial⟩
      refine go A0 false ?_
      conv=>whnf
      refine D7 (j:=r2.2.2) A0 rfl rfl rfl rfl rfl rfl rfl rfl _ (L1 (j:=r2.2.2.toNat) (xs:=r.2.2.nodes) (e:=Cb.c) (x:=⟨(r.2.2.nodes.getD r2.2.2.toNat default).kind,(r.2.2.nodes.getD r2.2.2.toNat default).a,(r.2.2.nodes.getD r2.2.2.toNat default).b,(r.2.2.nodes.getD r2.2.2.toNat default).outs++[r4.2.2-1]⟩) Ac rfl) (Al ?_)
      refine Ak ?_
      refine Ed Aa (Al ?_)
    rotate_left 3
    focus
     refine go A0 false ?_
     conv=>whnf
     (repeat refine Ar ?_)
     refine Ak ?_
     refine M7 A0 false 7 rfl rfl rfl Aa rfl (Af D0) ?_
     refine Aj [1,8,12] Aa ⟨?_,?_,?_,trivial⟩
     focus
      refine go A0 false ?_
      conv=>whnf
      refine Ak ?_
      refine Aj [8,12] Aa ⟨?_,?_,trivial⟩
      focus
       refine go A0 false ?_
       conv=>whnf
       refine B8e A0 rfl rfl rfl rfl rfl rfl (c:=F1 (r.2.2.nodes.getD r2.2.2.toNat default).outs) rfl (fun v=>go A0 false ?_)
       conv=>whnf
       refine Ak ?_
       refine Aj [12] Aa ⟨?_,trivial⟩
       refine go A0 false ?_
       conv=>whnf
       refine Ak ?_
       refine Aj [13] Aa ⟨?_,trivial⟩
       refine go A0 false ?_
       conv=>whnf
       refine Dp A0 rfl rfl rfl rfl rfl rfl rfl rfl rfl rfl rfl (F1 ((r.2.2.nodes.getD r2.2.2.toNat default).outs++[r4.2.2-1])) (Bf rfl) M1 Ac (Al ?_)
       refine Ak ?_
       refine Aj [14] Aa ⟨?_,trivial⟩
       refine go A0 false ?_
       conv=>whnf
       (repeat refine Ar ?_)
       refine Ak ?_
       refine M7 A0 false 15 rfl rfl rfl Aa rfl (Af D0) ?_
       refine Aj [16] Aa ⟨?_,trivial⟩
       refine go A0 false ?_
       conv=>whnf
       refine D7 (j:=r2.2.2) A0 rfl rfl rfl rfl rfl rfl rfl rfl _ (L1 (j:=r2.2.2.toNat) (xs:=r.2.2.nodes) (e:=Cb.c) (x:=⟨(r.2.2.nodes.getD r2.2.2.toNat default).kind,(r.2.2.nodes.getD r2.2.2.toNat default).a,(r.2.2.nodes.getD r2.2.2.toNat default).b,(r.2.2.nodes.getD r2.2.2.toNat default).outs++[r4.2.2-1]⟩) Ac rfl) (Al ?_)
       refine Ak ?_
       refine Ed Aa (Al ?_)
      rotate_left 1
      focus
       refine go A0 false ?_
       conv=>whnf
       refine Ak ?_
       refine Aj [8] Aa ⟨?_,trivial⟩
       refine go A0 false ?_
       conv=>whnf
       refine B8e A0 rfl rfl rfl rfl rfl rfl (c:=F1 (r.2.2.nodes.getD r2.2.2.toNat default).outs) rfl (fun v=>go A0 false ?_)
       conv=>whnf
       refine Ak ?_
       refine Aj [13] Aa ⟨?_,trivial⟩
       refine go A0 false ?_
       conv=>whnf
       refine Dp A0 rfl rfl rfl rfl rfl rfl rfl rfl rfl rfl rfl (F1 ((r.2.2.nodes.getD r2.2.2.toNat default).outs++[r4.2.2-1])) (Bf rfl) M1 Ac (Al ?_)
       refine Ak ?_
       refine Aj [14] Aa ⟨?_,trivial⟩
       refine go A0 false ?_
       conv=>whnf
       (repeat refine Ar ?_)
       refine Ak ?_
       refine M7 A0 false 15 rfl rfl rfl Aa rfl (Af D0) ?_
       refine Aj [16] Aa ⟨?_,trivial⟩
       refine go A0 false ?_
       conv=>whnf
       refine D7 (j:=r2.2.2) A0 rfl rfl rfl rfl rfl rfl rfl rfl _ (L1 (j:=r2.2.2.toNat) (xs:=r.2.2.nodes) (e:=Cb.c) (x:=⟨(r.2.2.nodes.getD r2.2.2.toNat default).kind,(r.2.2.nodes.getD r2.2.2.toNat default).a,(r.2.2.nodes.getD r2.2.2.toNat default).b,(r.2.2.nodes.getD r2.2.2.toNat default).outs++[r4.2.2-1]⟩) Ac rfl) (Al ?_)
       refine Ak ?_
       refine Ed Aa (Al ?_)
     rotate_left 2
     focus
      refine go A0 false ?_
      conv=>whnf
      refine B8e A0 rfl rfl rfl rfl rfl rfl (c:=F1 (r.2.2.nodes.getD r2.2.2.toNat default).outs) rfl (fun v=>go A0 false ?_)
      conv=>whnf
      refine Ak ?_
      refine Aj [1,12] Aa ⟨?_,?_,trivial⟩
      focus
       refine go A0 false ?_
       conv=>whnf
       refine Ak ?_
       refine Aj [12] Aa ⟨?_,trivial⟩
       refine go A0 false ?_
       conv=>whnf
       refine Ak ?_
       refine Aj [13] Aa ⟨?_,trivial⟩
       refine go A0 false ?_
       conv=>whnf
       refine Dp A0 rfl rfl rfl rfl rfl rfl rfl rfl rfl rfl rfl (F1 ((r.2.2.nodes.getD r2.2.2.toNat default).outs++[r4.2.2-1])) (Bf rfl) M1 Ac (Al ?_)
       refine Ak ?_
       refine Aj [14] Aa ⟨?_,trivial⟩
       refine go A0 false ?_
       conv=>whnf
       (repeat refine Ar ?_)
       refine Ak ?_
       refine M7 A0 false 15 rfl rfl rfl Aa rfl (Af D0) ?_
       refine Aj [16] Aa ⟨?_,trivial⟩
       refine go A0 false ?_
       conv=>whnf
       refine D7 (j:=r2.2.2) A0 rfl rfl rfl rfl rfl rfl rfl rfl _ (L1 (j:=r2.2.2.toNat) (xs:=r.2.2.nodes) (e:=Cb.c) (x:=⟨(r.2.2.nodes.getD r2.2.2.toNat default).kind,(r.2.2.nodes.getD r2.2.2.toNat default).a,(r.2.2.nodes.getD r2.2.2.toNat default).b,(r.2.2.nodes.getD r2.2.2.toNat default).outs++[r4.2.2-1]⟩) Ac rfl) (Al ?_)
       refine Ak ?_
       refine Ed Aa (Al ?_)
      rotate_left 1
      focus
       refine go A0 false ?_
       conv=>whnf
       refine Ak ?_
       refine Aj [1,13] Aa ⟨?_,?_,trivial⟩
       focus
        refine go A0 false ?_
        conv=>whnf
        refine Ak ?_
        refine Aj [13] Aa ⟨?_,trivial⟩
        refine go A0 false ?_
        conv=>whnf
        refine Dp A0 rfl rfl rfl rfl rfl rfl rfl rfl rfl rfl rfl (F1 ((r.2.2.nodes.getD r2.2.2.toNat default).outs++[r4.2.2-1])) (Bf rfl) M1 Ac (Al ?_)
        refine Ak ?_
        refine Aj [14] Aa ⟨?_,trivial⟩
        refine go A0 false ?_
        conv=>whnf
        (repeat refine Ar ?_)
        refine Ak ?_
        refine M7 A0 false 15 rfl rfl rfl Aa rfl (Af D0) ?_
        refine Aj [16] Aa ⟨?_,trivial⟩
        refine go A0 false ?_
        conv=>whnf
        refine D7 (j:=r2.2.2) A0 rfl rfl rfl rfl rfl rfl rfl rfl _ (L1 (j:=r2.2.2.toNat) (xs:=r.2.2.nodes) (e:=Cb.c) (x:=⟨(r.2.2.nodes.getD r2.2.2.toNat default).kind,(r.2.2.nodes.getD r2.2.2.toNat default).a,(r.2.2.nodes.getD r2.2.2.toNat default).b,(r.2.2.nodes.getD r2.2.2.toNat default).outs++[r4.2.2-1]⟩) Ac rfl) (Al ?_)
        refine Ak ?_
        refine Ed Aa (Al ?_)
       rotate_left 1
       focus
        refine go A0 false ?_
        conv=>whnf
        refine Dp A0 rfl rfl rfl rfl rfl rfl rfl rfl rfl rfl rfl (F1 ((r.2.2.nodes.getD r2.2.2.toNat default).outs++[r4.2.2-1])) (Bf rfl) M1 Ac (Al ?_)
        refine Ak ?_
        refine Aj [1] Aa ⟨?_,trivial⟩
        refine go A0 false ?_
        conv=>whnf
        refine Ak ?_
        refine Aj [14] Aa ⟨?_,trivial⟩
        refine go A0 false ?_
        conv=>whnf
        (repeat refine Ar ?_)
        refine Ak ?_
        refine M7 A0 false 15 rfl rfl rfl Aa rfl (Af D0) ?_
        refine Aj [16] Aa ⟨?_,trivial⟩
        refine go A0 false ?_
        conv=>whnf
        refine D7 (j:=r2.2.2) A0 rfl rfl rfl rfl rfl rfl rfl rfl _ (L1 (j:=r2.2.2.toNat) (xs:=r.2.2.nodes) (e:=Cb.c) (x:=⟨(r.2.2.nodes.getD r2.2.2.toNat default).kind,(r.2.2.nodes.getD r2.2.2.toNat default).a,(r.2.2.nodes.getD r2.2.2.toNat default).b,(r.2.2.nodes.getD r2.2.2.toNat default).outs++[r4.2.2-1]⟩) Ac rfl) (Al ?_)
        refine Ak ?_
        refine Ed Aa (Al ?_)
     rotate_left 3
     focus
      refine go A0 false ?_
      conv=>whnf
      refine Ak ?_
      refine Aj [1,8] Aa ⟨?_,?_,trivial⟩
      focus
       refine go A0 false ?_
       conv=>whnf
       refine Ak ?_
       refine Aj [8] Aa ⟨?_,trivial⟩
       refine go A0 false ?_
       conv=>whnf
       refine B8e A0 rfl rfl rfl rfl rfl rfl (c:=F1 (r.2.2.nodes.getD r2.2.2.toNat default).outs) rfl (fun v=>go A0 false ?_)
       conv=>whnf
       refine Ak ?_
       refine Aj [13] Aa ⟨?_,trivial⟩
       refine go A0 false ?_
       conv=>whnf
       refine Dp A0 rfl rfl rfl rfl rfl rfl rfl rfl rfl rfl rfl (F1 ((r.2.2.nodes.getD r2.2.2.toNat default).outs++[r4.2.2-1])) (Bf rfl) M1 Ac (Al ?_)
       refine Ak ?_
       refine Aj [14] Aa ⟨?_,trivial⟩
       refine go A0 false ?_
       conv=>whnf
       (repeat refine Ar ?_)
       refine Ak ?_
       refine M7 A0 false 15 rfl rfl rfl Aa rfl (Af D0) ?_
       refine Aj [16] Aa ⟨?_,trivial⟩
       refine go A0 false ?_
       conv=>whnf
       refine D7 (j:=r2.2.2) A0 rfl rfl rfl rfl rfl rfl rfl rfl _ (L1 (j:=r2.2.2.toNat) (xs:=r.2.2.nodes) (e:=Cb.c) (x:=⟨(r.2.2.nodes.getD r2.2.2.toNat default).kind,(r.2.2.nodes.getD r2.2.2.toNat default).a,(r.2.2.nodes.getD r2.2.2.toNat default).b,(r.2.2.nodes.getD r2.2.2.toNat default).outs++[r4.2.2-1]⟩) Ac rfl) (Al ?_)
       refine Ak ?_
       refine Ed Aa (Al ?_)
      rotate_left 1
      focus
       refine go A0 false ?_
       conv=>whnf
       refine B8e A0 rfl rfl rfl rfl rfl rfl (c:=F1 (r.2.2.nodes.getD r2.2.2.toNat default).outs) rfl (fun v=>go A0 false ?_)
       conv=>whnf
       refine Ak ?_
       refine Aj [1,13] Aa ⟨?_,?_,trivial⟩
       focus
        refine go A0 false ?_
        conv=>whnf
        refine Ak ?_
        refine Aj [13] Aa ⟨?_,trivial⟩
        refine go A0 false ?_
        conv=>whnf
        refine Dp A0 rfl rfl rfl rfl rfl rfl rfl rfl rfl rfl rfl (F1 ((r.2.2.nodes.getD r2.2.2.toNat default).outs++[r4.2.2-1])) (Bf rfl) M1 Ac (Al ?_)
        refine Ak ?_
        refine Aj [14] Aa ⟨?_,trivial⟩
        refine go A0 false ?_
        conv=>whnf
        (repeat refine Ar ?_)
        refine Ak ?_
        refine M7 A0 false 15 rfl rfl rfl Aa rfl (Af D0) ?_
        refine Aj [16] Aa ⟨?_,trivial⟩
        refine go A0 false ?_
        conv=>whnf
        refine D7 (j:=r2.2.2) A0 rfl rfl rfl rfl rfl rfl rfl rfl _ (L1 (j:=r2.2.2.toNat) (xs:=r.2.2.nodes) (e:=Cb.c) (x:=⟨(r.2.2.nodes.getD r2.2.2.toNat default).kind,(r.2.2.nodes.getD r2.2.2.toNat default).a,(r.2.2.nodes.getD r2.2.2.toNat default).b,(r.2.2.nodes.getD r2.2.2.toNat default).outs++[r4.2.2-1]⟩) Ac rfl) (Al ?_)
        refine Ak ?_
        refine Ed Aa (Al ?_)
       rotate_left 1
       focus
        refine go A0 false ?_
        conv=>whnf
        refine Dp A0 rfl rfl rfl rfl rfl rfl rfl rfl rfl rfl rfl (F1 ((r.2.2.nodes.getD r2.2.2.toNat default).outs++[r4.2.2-1])) (Bf rfl) M1 Ac (Al ?_)
        refine Ak ?_
        refine Aj [1] Aa ⟨?_,trivial⟩
        refine go A0 false ?_
        conv=>whnf
        refine Ak ?_
        refine Aj [14] Aa ⟨?_,trivial⟩
        refine go A0 false ?_
        conv=>whnf
        (repeat refine Ar ?_)
        refine Ak ?_
        refine M7 A0 false 15 rfl rfl rfl Aa rfl (Af D0) ?_
        refine Aj [16] Aa ⟨?_,trivial⟩
        refine go A0 false ?_
        conv=>whnf
        refine D7 (j:=r2.2.2) A0 rfl rfl rfl rfl rfl rfl rfl rfl _ (L1 (j:=r2.2.2.toNat) (xs:=r.2.2.nodes) (e:=Cb.c) (x:=⟨(r.2.2.nodes.getD r2.2.2.toNat default).kind,(r.2.2.nodes.getD r2.2.2.toNat default).a,(r.2.2.nodes.getD r2.2.2.toNat default).b,(r.2.2.nodes.getD r2.2.2.toNat default).outs++[r4.2.2-1]⟩) Ac rfl) (Al ?_)
        refine Ak ?_
        refine Ed Aa (Al ?_)
    rotate_left 8
    focus
     refine go A0 false ?_
     conv=>whnf
     refine Ak ?_
     refine Aj [1,6] Aa ⟨?_,?_,trivial⟩
     focus
      refine go A0 false ?_
      conv=>whnf
      refine Ak ?_
      refine Aj [6] Aa ⟨?_,trivial⟩
      refine go A0 false ?_
      conv=>whnf
      (repeat refine Ar ?_)
      refine Ak ?_
      refine M7 A0 false 7 rfl rfl rfl Aa rfl (Af D0) ?_
      refine Aj [8] Aa ⟨?_,trivial⟩
      refine go A0 false ?_
      conv=>whnf
      refine B8e A0 rfl rfl rfl rfl rfl rfl (c:=F1 (r.2.2.nodes.getD r2.2.2.toNat default).outs) rfl (fun v=>go A0 false ?_)
      conv=>whnf
      refine Ak ?_
      refine Aj [13] Aa ⟨?_,trivial⟩
      refine go A0 false ?_
      conv=>whnf
      refine Dp A0 rfl rfl rfl rfl rfl rfl rfl rfl rfl rfl rfl (F1 ((r.2.2.nodes.getD r2.2.2.toNat default).outs++[r4.2.2-1])) (Bf rfl) M1 Ac (Al ?_)
      refine Ak ?_
      refine Aj [14] Aa ⟨?_,trivial⟩
      refine go A0 false ?_
      conv=>whnf
      (repeat refine Ar ?_)
      refine Ak ?_
      refine M7 A0 false 15 rfl rfl rfl Aa rfl (Af D0) ?_
      refine Aj [16] Aa ⟨?_,trivial⟩
      refine go A0 false ?_
      conv=>whnf
      refine D7 (j:=r2.2.2) A0 rfl rfl rfl rfl rfl rfl rfl rfl _ (L1 (j:=r2.2.2.toNat) (xs:=r.2.2.nodes) (e:=Cb.c) (x:=⟨(r.2.2.nodes.getD r2.2.2.toNat default).kind,(r.2.2.nodes.getD r2.2.2.toNat default).a,(r.2.2.nodes.getD r2.2.2.toNat default).b,(r.2.2.nodes.getD r2.2.2.toNat default).outs++[r4.2.2-1]⟩) Ac rfl) (Al ?_)
      refine Ak ?_
      refine Ed Aa (Al ?_)
     rotate_left 1
     focus
      refine go A0 false ?_
      conv=>whnf
      (repeat refine Ar ?_)
      refine Ak ?_
      refine M7 A0 false 7 rfl rfl rfl Aa rfl (Af D0) ?_
      refine Aj [1,8] Aa ⟨?_,?_,trivial⟩
      focus
       refine go A0 false ?_
       conv=>whnf
       refine Ak ?_
       refine Aj [8] Aa ⟨?_,trivial⟩
       refine go A0 false ?_
       conv=>whnf
       refine B8e A0 rfl rfl rfl rfl rfl rfl (c:=F1 (r.2.2.nodes.getD r2.2.2.toNat default).outs) rfl (fun v=>go A0 false ?_)
       conv=>whnf
       refine Ak ?_
       refine Aj [13] Aa ⟨?_,trivial⟩
       refine go A0 false ?_
       conv=>whnf
       refine Dp A0 rfl rfl rfl rfl rfl rfl rfl rfl rfl rfl rfl (F1 ((r.2.2.nodes.getD r2.2.2.toNat default).outs++[r4.2.2-1])) (Bf rfl) M1 Ac (Al ?_)
       refine Ak ?_
       refine Aj [14] Aa ⟨?_,trivial⟩
       refine go A0 false ?_
       conv=>whnf
       (repeat refine Ar ?_)
       refine Ak ?_
       refine M7 A0 false 15 rfl rfl rfl Aa rfl (Af D0) ?_
       refine Aj [16] Aa ⟨?_,trivial⟩
       refine go A0 false ?_
       conv=>whnf
       refine D7 (j:=r2.2.2) A0 rfl rfl rfl rfl rfl rfl rfl rfl _ (L1 (j:=r2.2.2.toNat) (xs:=r.2.2.nodes) (e:=Cb.c) (x:=⟨(r.2.2.nodes.getD r2.2.2.toNat default).kind,(r.2.2.nodes.getD r2.2.2.toNat default).a,(r.2.2.nodes.getD r2.2.2.toNat default).b,(r.2.2.nodes.getD r2.2.2.toNat default).outs++[r4.2.2-1]⟩) Ac rfl) (Al ?_)
       refine Ak ?_
       refine Ed Aa (Al ?_)
      rotate_left 1
      focus
       refine go A0 false ?_
       conv=>whnf
       refine B8e A0 rfl rfl rfl rfl rfl rfl (c:=F1 (r.2.2.nodes.getD r2.2.2.toNat default).outs) rfl (fun v=>go A0 false ?_)
       conv=>whnf
       refine Ak ?_
       refine Aj [1,13] Aa ⟨?_,?_,trivial⟩
       focus
        refine go A0 false ?_
        conv=>whnf
        refine Ak ?_
        refine Aj [13] Aa ⟨?_,trivial⟩
        refine go A0 false ?_
        conv=>whnf
        refine Dp A0 rfl rfl rfl rfl rfl rfl rfl rfl rfl rfl rfl (F1 ((r.2.2.nodes.getD r2.2.2.toNat default).outs++[r4.2.2-1])) (Bf rfl) M1 Ac (Al ?_)
        refine Ak ?_
        refine Aj [14] Aa ⟨?_,trivial⟩
        refine go A0 false ?_
        conv=>whnf
        (repeat refine Ar ?_)
        refine Ak ?_
        refine M7 A0 false 15 rfl rfl rfl Aa rfl (Af D0) ?_
        refine Aj [16] Aa ⟨?_,trivial⟩
        refine go A0 false ?_
        conv=>whnf
        refine D7 (j:=r2.2.2) A0 rfl rfl rfl rfl rfl rfl rfl rfl _ (L1 (j:=r2.2.2.toNat) (xs:=r.2.2.nodes) (e:=Cb.c) (x:=⟨(r.2.2.nodes.getD r2.2.2.toNat default).kind,(r.2.2.nodes.getD r2.2.2.toNat default).a,(r.2.2.nodes.getD r2.2.2.toNat default).b,(r.2.2.nodes.getD r2.2.2.toNat default).outs++[r4.2.2-1]⟩) Ac rfl) (Al ?_)
        refine Ak ?_
        refine Ed Aa (Al ?_)
       rotate_left 1
       focus
        refine go A0 false ?_
        conv=>whnf
        refine Dp A0 rfl rfl rfl rfl rfl rfl rfl rfl rfl rfl rfl (F1 ((r.2.2.nodes.getD r2.2.2.toNat default).outs++[r4.2.2-1])) (Bf rfl) M1 Ac (Al ?_)
        refine Ak ?_
        refine Aj [1] Aa ⟨?_,trivial⟩
        refine go A0 false ?_
        conv=>whnf
        refine Ak ?_
        refine Aj [14] Aa ⟨?_,trivial⟩
        refine go A0 false ?_
        conv=>whnf
        (repeat refine Ar ?_)
        refine Ak ?_
        refine M7 A0 false 15 rfl rfl rfl Aa rfl (Af D0) ?_
        refine Aj [16] Aa ⟨?_,trivial⟩
        refine go A0 false ?_
        conv=>whnf
        refine D7 (j:=r2.2.2) A0 rfl rfl rfl rfl rfl rfl rfl rfl _ (L1 (j:=r2.2.2.toNat) (xs:=r.2.2.nodes) (e:=Cb.c) (x:=⟨(r.2.2.nodes.getD r2.2.2.toNat default).kind,(r.2.2.nodes.getD r2.2.2.toNat default).a,(r.2.2.nodes.getD r2.2.2.toNat default).b,(r.2.2.nodes.getD r2.2.2.toNat default).outs++[r4.2.2-1]⟩) Ac rfl) (Al ?_)
        refine Ak ?_
        refine Ed Aa (Al ?_)
   rotate_left 15
   focus
    refine go A0 false ?_
    conv=>whnf
    refine Ak ?_
    refine Aj [1,4] Aa ⟨?_,?_,trivial⟩
    focus
     refine go A0 false ?_
     conv=>whnf
     refine Ak ?_
     refine Aj [4] Aa ⟨?_,trivial⟩
     refine go A0 false ?_
     conv=>whnf
     refine Ak ?_
     refine Aj [6] Aa ⟨?_,trivial⟩
     refine go A0 false ?_
     conv=>whnf
     (repeat refine Ar ?_)
     refine Ak ?_
     refine M7 A0 false 7 rfl rfl rfl Aa rfl (Af D0) ?_
     refine Aj [8] Aa ⟨?_,trivial⟩
     refine go A0 false ?_
     conv=>whnf
     refine B8e A0 rfl rfl rfl rfl rfl rfl (c:=F1 (r.2.2.nodes.getD r2.2.2.toNat default).outs) rfl (fun v=>go A0 false ?_)
     conv=>whnf
     refine Ak ?_
     refine Aj [13] Aa ⟨?_,trivial⟩
     refine go A0 false ?_
     conv=>whnf
     refine Dp A0 rfl rfl rfl rfl rfl rfl rfl rfl rfl rfl rfl (F1 ((r.2.2.nodes.getD r2.2.2.toNat default).outs++[r4.2.2-1])) (Bf rfl) M1 Ac (Al ?_)
     refine Ak ?_
     refine Aj [14] Aa ⟨?_,trivial⟩
     refine go A0 false ?_
     conv=>whnf
     (repeat refine Ar ?_)
     refine Ak ?_
     refine M7 A0 false 15 rfl rfl rfl Aa rfl (Af D0) ?_
     refine Aj [16] Aa ⟨?_,trivial⟩
     refine go A0 false ?_
     conv=>whnf
     refine D7 (j:=r2.2.2) A0 rfl rfl rfl rfl rfl rfl rfl rfl _ (L1 (j:=r2.2.2.toNat) (xs:=r.2.2.nodes) (e:=Cb.c) (x:=⟨(r.2.2.nodes.getD r2.2.2.toNat default).kind,(r.2.2.nodes.getD r2.2.2.toNat default).a,(r.2.2.nodes.getD r2.2.2.toNat default).b,(r.2.2.nodes.getD r2.2.2.toNat default).outs++[r4.2.2-1]⟩) Ac rfl) (Al ?_)
     refine Ak ?_
     refine Ed Aa (Al ?_)
    rotate_left 1
    focus
     refine go A0 false ?_
     conv=>whnf
     refine Ak ?_
     refine Aj [1,6] Aa ⟨?_,?_,trivial⟩
     focus
      refine go A0 false ?_
      conv=>whnf
      refine Ak ?_
      refine Aj [6] Aa ⟨?_,trivial⟩
      refine go A0 false ?_
      conv=>whnf
      (repeat refine Ar ?_)
      refine Ak ?_
      refine M7 A0 false 7 rfl rfl rfl Aa rfl (Af D0) ?_
      refine Aj [8] Aa ⟨?_,trivial⟩
      refine go A0 false ?_
      conv=>whnf
      refine B8e A0 rfl rfl rfl rfl rfl rfl (c:=F1 (r.2.2.nodes.getD r2.2.2.toNat default).outs) rfl (fun v=>go A0 false ?_)
      conv=>whnf
      refine Ak ?_
      refine Aj [13] Aa ⟨?_,trivial⟩
      refine go A0 false ?_
      conv=>whnf
      refine Dp A0 rfl rfl rfl rfl rfl rfl rfl rfl rfl rfl rfl (F1 ((r.2.2.nodes.getD r2.2.2.toNat default).outs++[r4.2.2-1])) (Bf rfl) M1 Ac (Al ?_)
      refine Ak ?_
      refine Aj [14] Aa ⟨?_,trivial⟩
      refine go A0 false ?_
      conv=>whnf
      (repeat refine Ar ?_)
      refine Ak ?_
      refine M7 A0 false 15 rfl rfl rfl Aa rfl (Af D0) ?_
      refine Aj [16] Aa ⟨?_,trivial⟩
      refine go A0 false ?_
      conv=>whnf
      refine D7 (j:=r2.2.2) A0 rfl rfl rfl rfl rfl rfl rfl rfl _ (L1 (j:=r2.2.2.toNat) (xs:=r.2.2.nodes) (e:=Cb.c) (x:=⟨(r.2.2.nodes.getD r2.2.2.toNat default).kind,(r.2.2.nodes.getD r2.2.2.toNat default).a,(r.2.2.nodes.getD r2.2.2.toNat default).b,(r.2.2.nodes.getD r2.2.2.toNat default).outs++[r4.2.2-1]⟩) Ac rfl) (Al ?_)
      refine Ak ?_
      refine Ed Aa (Al ?_)
     rotate_left 1
     focus
      refine go A0 false ?_
      conv=>whnf
      (repeat refine Ar ?_)
      refine Ak ?_
      refine M7 A0 false 7 rfl rfl rfl Aa rfl (Af D0) ?_
      refine Aj [1,8] Aa ⟨?_,?_,trivial⟩
      focus
       refine go A0 false ?_
       conv=>whnf
       refine Ak ?_
       refine Aj [8] Aa ⟨?_,trivial⟩
       refine go A0 false ?_
       conv=>whnf
       refine B8e A0 rfl rfl rfl rfl rfl rfl (c:=F1 (r.2.2.nodes.getD r2.2.2.toNat default).outs) rfl (fun v=>go A0 false ?_)
       conv=>whnf
       refine Ak ?_
       refine Aj [13] Aa ⟨?_,trivial⟩
       refine go A0 false ?_
       conv=>whnf
       refine Dp A0 rfl rfl rfl rfl rfl rfl rfl rfl rfl rfl rfl (F1 ((r.2.2.nodes.getD r2.2.2.toNat default).outs++[r4.2.2-1])) (Bf rfl) M1 Ac (Al ?_)
       refine Ak ?_
       refine Aj [14] Aa ⟨?_,trivial⟩
       refine go A0 false ?_
       conv=>whnf
       (repeat refine Ar ?_)
       refine Ak ?_
       refine M7 A0 false 15 rfl rfl rfl Aa rfl (Af D0) ?_
       refine Aj [16] Aa ⟨?_,trivial⟩
       refine go A0 false ?_
       conv=>whnf
       refine D7 (j:=r2.2.2) A0 rfl rfl rfl rfl rfl rfl rfl rfl _ (L1 (j:=r2.2.2.toNat) (xs:=r.2.2.nodes) (e:=Cb.c) (x:=⟨(r.2.2.nodes.getD r2.2.2.toNat default).kind,(r.2.2.nodes.getD r2.2.2.toNat default).a,(r.2.2.nodes.getD r2.2.2.toNat default).b,(r.2.2.nodes.getD r2.2.2.toNat default).outs++[r4.2.2-1]⟩) Ac rfl) (Al ?_)
       refine Ak ?_
       refine Ed Aa (Al ?_)
      rotate_left 1
      focus
       refine go A0 false ?_
       conv=>whnf
       refine B8e A0 rfl rfl rfl rfl rfl rfl (c:=F1 (r.2.2.nodes.getD r2.2.2.toNat default).outs) rfl (fun v=>go A0 false ?_)
       conv=>whnf
       refine Ak ?_
       refine Aj [1,13] Aa ⟨?_,?_,trivial⟩
       focus
        refine go A0 false ?_
        conv=>whnf
        refine Ak ?_
        refine Aj [13] Aa ⟨?_,trivial⟩
        refine go A0 false ?_
        conv=>whnf
        refine Dp A0 rfl rfl rfl rfl rfl rfl rfl rfl rfl rfl rfl (F1 ((r.2.2.nodes.getD r2.2.2.toNat default).outs++[r4.2.2-1])) (Bf rfl) M1 Ac (Al ?_)
        refine Ak ?_
        refine Aj [14] Aa ⟨?_,trivial⟩
        refine go A0 false ?_
        conv=>whnf
        (repeat refine Ar ?_)
        refine Ak ?_
        refine M7 A0 false 15 rfl rfl rfl Aa rfl (Af D0) ?_
        refine Aj [16] Aa ⟨?_,trivial⟩
        refine go A0 false ?_
        conv=>whnf
        refine D7 (j:=r2.2.2) A0 rfl rfl rfl rfl rfl rfl rfl rfl _ (L1 (j:=r2.2.2.toNat) (xs:=r.2.2.nodes) (e:=Cb.c) (x:=⟨(r.2.2.nodes.getD r2.2.2.toNat default).kind,(r.2.2.nodes.getD r2.2.2.toNat default).a,(r.2.2.nodes.getD r2.2.2.toNat default).b,(r.2.2.nodes.getD r2.2.2.toNat default).outs++[r4.2.2-1]⟩) Ac rfl) (Al ?_)
        refine Ak ?_
        refine Ed Aa (Al ?_)
       rotate_left 1
       focus
        refine go A0 false ?_
        conv=>whnf
        refine Dp A0 rfl rfl rfl rfl rfl rfl rfl rfl rfl rfl rfl (F1 ((r.2.2.nodes.getD r2.2.2.toNat default).outs++[r4.2.2-1])) (Bf rfl) M1 Ac (Al ?_)
        refine Ak ?_
        refine Aj [1] Aa ⟨?_,trivial⟩
        refine go A0 false ?_
        conv=>whnf
        refine Ak ?_
        refine Aj [14] Aa ⟨?_,trivial⟩
        refine go A0 false ?_
        conv=>whnf
        (repeat refine Ar ?_)
        refine Ak ?_
        refine M7 A0 false 15 rfl rfl rfl Aa rfl (Af D0) ?_
        refine Aj [16] Aa ⟨?_,trivial⟩
        refine go A0 false ?_
        conv=>whnf
        refine D7 (j:=r2.2.2) A0 rfl rfl rfl rfl rfl rfl rfl rfl _ (L1 (j:=r2.2.2.toNat) (xs:=r.2.2.nodes) (e:=Cb.c) (x:=⟨(r.2.2.nodes.getD r2.2.2.toNat default).kind,(r.2.2.nodes.getD r2.2.2.toNat default).a,(r.2.2.nodes.getD r2.2.2.toNat default).b,(r.2.2.nodes.getD r2.2.2.toNat default).outs++[r4.2.2-1]⟩) Ac rfl) (Al ?_)
        refine Ak ?_
        refine Ed Aa (Al ?_)
  all_goals
   have h4:=hr4.2.2.2 Bu
   have h5:=hr4.2.1
   exact Kk A0 (r4.1,r4.2.1,⟨r.2.2.nodes.set r2.2.2.toNat ⟨(r.2.2.nodes.getD r2.2.2.toNat default).kind,(r.2.2.nodes.getD r2.2.2.toNat default).a,(r.2.2.nodes.getD r2.2.2.toNat default).b,(r.2.2.nodes.getD r2.2.2.toNat default).outs++[r4.2.2-1]⟩,r.2.2.workers,r.2.2.cap⟩) ⟨hr4.1,B6s (C3c hm ((C34 (m:=10) ⟨hx.1,hx2⟩ Bu (A5q Ac Ac)).m Bu)) (by rw [List.length_set];omega) (A5q Ac Ac) (A5q Ac Ac)⟩ rfl rfl rfl rfl Ca
 repeat refine Bi ?_
 refine ⟨fun c4=>?_,fun c4=>?_⟩<;>conv=>whnf
 ·repeat refine Bi ?_
  refine Bw A0 false [6,9] (fun j:JGr=>[]) (fun j=>[⟨0,[.c (.val d.v),.c (vi j.i),.c (vi j.h)]⟩,⟨3,[.own 2,.c (vi r.2.2.workers),.c (vi r.2.2.cap)]⟩,⟨1,[.c (.val (.slice none 0 0)),.c (vi 0),.c (vi 0)]⟩]) (fun j=>[⟨2,Bp j.xs⟩]) (fun j=>(0≤j.i∧j.i≤d.n)∧C2j j.xs∧j.xs.length≤9) (fun j=>9-j.xs.length) (⟨r3.1,r3.2.1,r.2.2.nodes⟩) (⟨hr3.1,hm,Nat.le_trans hl.2 Bu⟩) trivial F3 ⟨by first|rfl|exact (congrArg (fun l=>Du _ _ l) (List.append_nil _)).symm|(show (_:A8)=_;simp)|simp,trivial⟩ Dh Aa (fun j hj=>?_)
  conv=>whnf
  obtain ⟨hi2,hm2,hl2⟩:=hj
  refine A8a rfl ?_
  refine M7 A0 false 0 rfl rfl rfl Aa rfl (Af D0) ?_
  refine M7 A0 false 3 rfl rfl rfl Aa rfl (Af D0) ?_
  refine Aj [1,4] Aa ⟨?_,?_,trivial⟩
  focus
   refine go A0 false ?_
   conv=>whnf
   refine Ak ?_
   refine Aj [2,4] Aa ⟨?_,?_,trivial⟩
   focus
    refine go A0 false ?_
    conv=>whnf
    refine Ak ?_
    refine Aj [4] Aa ⟨?_,trivial⟩
    refine go A0 false ?_
    conv=>whnf
    refine Fg (E5 d j.i j.h 2 hi2 Bu) hH hp rfl Ca rfl rfl (fun r9 hr9=>go A0 false ?_)
    conv=>whnf
    refine Ak ?_
    refine M7 A0 false 5 rfl rfl rfl Aa rfl (Af D0) ?_
    refine M7 A0 false 6 rfl rfl rfl Aa rfl (Af D0) ?_
    refine Ed Aa (Al ?_)
   rotate_left 1
   focus
    refine go A0 false ?_
    conv=>whnf
    refine Fg (E5 d j.i j.h 2 hi2 Bu) hH hp rfl Ca rfl rfl (fun r9 hr9=>go A0 false ?_)
    conv=>whnf
    refine Ak ?_
    refine M7 A0 false 5 rfl rfl rfl Aa rfl (Af D0) ?_
    refine Aj [2] Aa ⟨?_,trivial⟩
    refine go A0 false ?_
    conv=>whnf
    refine Ak ?_
    refine M7 A0 false 6 rfl rfl rfl Aa rfl (Af D0) ?_
    refine Ed Aa (Al ?_)
  rotate_left 2
  focus
   refine go A0 false ?_
   conv=>whnf
   refine Fg (E5 d j.i j.h 2 hi2 Bu) hH hp rfl Ca rfl rfl (fun r9 hr9=>go A0 false ?_)
   conv=>whnf
   refine Ak ?_
   refine M7 A0 false 5 rfl rfl rfl Aa rfl (Af D0) ?_
   refine Aj [1] Aa ⟨?_,trivial⟩
   refine go A0 false ?_
   conv=>whnf
   refine Ak ?_
   refine Aj [2] Aa ⟨?_,trivial⟩
   refine go A0 false ?_
   conv=>whnf
   refine Ak ?_
   refine M7 A0 false 6 rfl rfl rfl Aa rfl (Af D0) ?_
   refine Ed Aa (Al ?_)
  all_goals
   have hn9:=hr9.2.2.2 Bu
   have hn8:=hr9.2.1
   (repeat refine Ar ?_)
   refine G5 (fun hlt=>?_) fun hlt=>?_<;>conv=>whnf
   ·refine G4 4 (Bp [⟨8,0,0,[]⟩]) rfl (Jg rfl Bj) ?_
    refine Dp A0 rfl rfl rfl rfl rfl rfl rfl rfl rfl rfl rfl (Bp (j.xs++[⟨8,0,0,[]⟩])) (Bf (xs:=j.xs) (x:=⟨8,0,0,[]⟩) (e:=Cb.c) rfl) M1 (by simp only [List.length_cons,List.length_nil];omega) (Al ?_)
    refine B5 [(2,5)] (⟨r9.1,r9.2.1,j.xs++[⟨8,0,0,[]⟩]⟩) (⟨hr9.1,C39 hm2 C55,by rw [List.length_append];show _+1≤9;omega⟩) (by show 9-(j.xs++[(⟨8,0,0,[]⟩:Cb)]).length<_;rw [List.length_append];show 9-(_+1)<_;omega) trivial ⟨rfl,trivial⟩ F3 Aa Dh Aa
   ·exact Kk A0 (r9.1,r9.2.1,⟨j.xs,r.2.2.workers,r.2.2.cap⟩) ⟨hr9.1,B6s hm2 Ac (A5q Ac Ac) (A5q Ac Ac)⟩ rfl rfl rfl rfl Ca
 repeat refine Bi ?_
 refine ⟨fun c5=>?_,fun c5=>?_⟩<;>conv=>whnf
 ·repeat refine Bi ?_
  refine C35 A0 rfl rfl rfl rfl rfl rfl rfl rfl rfl ⟨hk0,by omega⟩ Ac _ rfl (Al ?_)
  refine To 4 (Bp (r.2.2.nodes.take r2.2.2.toNat)) rfl (C4b Ac) ?_
  exact Kk A0 (r3.1,r3.2.1,⟨r.2.2.nodes.take r2.2.2.toNat,r.2.2.workers,r.2.2.cap⟩) ⟨hr3.1,B6s (C4a _ hm) (by rw [List.length_take];omega) (A5q Ac Ac) (A5q Ac Ac)⟩ rfl rfl rfl rfl Ca
 ·repeat refine Bi ?_
  exact Kk A0 (r3.1,r3.2.1,r.2.2) ⟨hr3.1,B6s (ns:=r.2.2.nodes) (a:=r.2.2.workers) (b:=r.2.2.cap) hm Ac (A5q Ac Ac) (A5q Ac Ac)⟩ rfl rfl rfl rfl Ca
end Go.Proofs.YtonodkjaoalfjaaGreat
