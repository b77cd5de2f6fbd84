/- Part 32 of the proof that each of the laws FnTold returns true for every input. No conditions. -/
import Derived.Test.YtdendlkeiaccpaaGreatDoorP4
import Derived.Test.YtdendlkeiaccpaaGreatDoorP31
import Derived.Test.YtdendlkeiaccpaaGreatDoorP25

set_option linter.unusedSimpArgs false
set_option linter.unusedVariables false
set_option maxRecDepth 100000
namespace Go.Proofs.YtdendlkeiaccpaaGreatDoor
open Go.Sx
def A0m (x:Aq):Prop:=x.ok∧x.outs.length≤20
def W2 (xs:List Aq):Prop:=∀x∈xs,A0m x
theorem Jg.m {m:Nat}{x:Aq}(h:Jg m x)(hm:m≤20):A0m x:=⟨h.1,Nat.le_trans h.2 hm⟩
theorem Vk {x:Aq}(h:Rb x):x.ok∧x.outs.length≤10:=by
 obtain ⟨h1,h2,h3,h4,h5⟩:=h
 exact ⟨⟨Dp Ab Ab,Dp Ab Ab,Dp Ab Ab,by rw [maxLen];omega,fun n hn=>by have:=h5 n hn;exact Dp Ab Ab⟩,h4⟩
theorem B2n {xs:List Aq}(h:Yc xs):W2 xs:=fun x hx=>⟨(Vk (h x hx)).1,Nat.le_trans (Vk (h x hx)).2 Aw⟩
theorem A6l {x:Aq}{xs:List Aq}(hs:W2 xs)(h:A0m x):W2 (xs++[x]):=fun y hy=>by
 rcases List.mem_append.1 hy with hy|hy
 ·exact hs y hy
 rw [List.mem_singleton.1 hy];exact h
theorem A0u {x:Aq}{xs:List Aq}{j:Nat}(hs:W2 xs)(h:A0m x):W2 (xs.set j x):=fun y hy=>by
 rcases List.mem_or_eq_of_mem_set hy with hy|rfl
 ·exact hs y hy
 exact h
theorem A6m {xs:List Aq}(k:Nat)(hs:W2 xs):W2 (xs.take k):=fun y hy=>hs y (List.mem_of_mem_take hy)
def A8o (g:Ap):Prop:=g.ok∧g.w≤1000
theorem A59:∀{xs:List Aq},W2 xs→(xs.map Aq.w).sum≤20 * xs.length
 | [],_=>Nat.le_refl _
 |x::r,h=>by
  have h1:x.w≤20:=(h x (List.mem_cons_self ..)).2
  have h2:=A59 fun y hy=>h y (List.mem_cons_of_mem _ hy)
  rw [List.map_cons,List.sum_cons,List.length_cons]
  omega
theorem Io {ns:List Aq}{a b:Int}(h:W2 ns)(hl:ns.length≤10)(ha:Ee .i64 a)(hb:Ee .i64 b):A8o ⟨ns,a,b⟩:=by
 refine ⟨⟨⟨by show ns.length≤maxLen;rw [maxLen];omega,fun x hx=>(h x hx).1⟩,ha,hb⟩,?_⟩
 have:=A59 h
 show ns.length+(ns.map Aq.w).sum≤1000
 omega
theorem Az {α:Type} [Inhabited α] {es:Nat}{e:α→List Ac}{xs:List α}{j off:Nat}{v:Value}{x:α}{cs:List Ac}(hj:j<xs.length)(h:D4 (D4 (e (xs.getD j default)) off [.val v]) off cs=e x):
  O8 xs.length es (fun i=>if i=j then D4 (e (xs.getD i default)) off [.val v] else e (xs.getD i default)) j off cs (Is es e (xs.set j x)):=by
 refine ⟨_,by rw [Is,List.length_set],fun i hi hne=>?_,?_⟩
 ·simp only [if_neg hne,Go.Sx.getD_set_ne _ _ _ _ _ hne]
 simp only [if_true,h,Go.Sx.getD_set_self _ _ _ _ hj]
theorem A6r {α:Type} [Inhabited α] {es:Nat}{e:α→List Ac}{xs:List α}{m:Nat}(hm:m≤xs.length):Gy (.sl m es fun i=>e (xs.getD i default)) (Is es e (xs.take m)):=by
 have hl:(xs.take m).length=m:=by rw [List.length_take];omega
 refine ⟨hl,rfl,fun i hi=>?_⟩
 have:(xs.take m).getD i default=xs.getD i default:=by
  simp [List.getD,hi]
 show Fx _ (e ((xs.take m).getD i default))
 rw [this]
 exact Fx.rfl' _
theorem B6v:A0m ⟨8,0,0,[]⟩:=by
 refine ⟨⟨Dp Aw Aw,Dp Aw Aw,Dp Aw Aw,Nat.zero_le _,fun n hn=>by cases hn⟩,Nat.zero_le _⟩
structure JGr where
 i:Int
 h:Int
 xs:List Aq
set_option maxHeartbeats 4000000 in
theorem A02 (d:Dx)(i h:Int)(hi:0≤i∧i≤d.n):Cw Tryz.prog HT 122 d.pins (d.cur i h) [] (fun r:Int×Int×Ap=>(0≤r.1∧r.1≤d.n)∧A8o r.2.2) (fun r=>d.cur r.1 r.2.1) (fun r=>[.agg r.2.2.c]):=by
 refine Dn A0 false Tryz.func122 rfl Aw fun B b hH hp=>?_
 conv=>whnf
 refine Aj (A6x d i h hi) hH hp rfl Ay rfl rfl (fun r hr=>go A0 false ?_)
 conv=>whnf
 obtain ⟨hr1,_,hn,hl,hw,hc⟩:=hr
 have hm:=B2n hn
 refine Aj (Ai d r.1 r.2.1 r.2.2.nodes.length hr1 Ab) hH hp rfl Ay rfl rfl (fun r2 hr2=>go A0 false ?_)
 conv=>whnf
 have hk:=hr2.2.2.2 Ab
 have hk0:=hr2.2.1
 refine Aj (Ai d r2.1 r2.2.1 12 hr2.1 Aw) hH hp rfl Ay rfl rfl (fun r3 hr3=>go A0 false ?_)
 conv=>whnf
 refine ⟨fun c0=>?_,fun c0=>?_⟩<;>conv=>whnf
 ·repeat refine Bj ?_
  refine Fq rfl ?_
  refine Am A0 false 0 rfl rfl rfl A7 rfl (A4 B2) ?_
  refine Am A0 false 2 rfl rfl rfl A7 rfl (A4 B2) ?_
  refine Am A0 false 3 rfl rfl rfl A7 rfl (A4 B2) ?_
  refine A3 [1,4] A7 ⟨?_,?_,trivial⟩
  focus
   refine A8 ?_
   refine A6 (A3 [4] A7 ⟨A8 ?_,trivial⟩)
   refine Aj (Ty d r3.1 r3.2.1 hr3.1) hH hp rfl Ay rfl rfl (fun r4 hr4=>go A0 false ?_)
   conv=>whnf
   refine A6 (A3 [5] A7 ⟨A8 ?_,trivial⟩)
   (repeat refine An ?_)
   refine A6 (A3 [6] A7 ⟨A8 ?_,trivial⟩)
   refine Ao (j:=r2.2.2) A0 rfl rfl rfl rfl rfl rfl rfl rfl _ (Cb (j:=r2.2.2.toNat) (xs:=r.2.2.nodes) (e:=Aq.c) (x:=r4.2.2) Ab rfl) (A8 ?_)
   refine A6 (Au A7 (A8 ?_))
  rotate_left 1
  focus
   refine A8 ?_
   refine Aj (Ty d r3.1 r3.2.1 hr3.1) hH hp rfl Ay rfl rfl (fun r4 hr4=>go A0 false ?_)
   conv=>whnf
   refine A6 (A3 [1] A7 ⟨A8 ?_,trivial⟩)
   refine A6 (A3 [5] A7 ⟨A8 ?_,trivial⟩)
   (repeat refine An ?_)
   refine A6 (A3 [6] A7 ⟨A8 ?_,trivial⟩)
   refine Ao (j:=r2.2.2) A0 rfl rfl rfl rfl rfl rfl rfl rfl _ (Cb (j:=r2.2.2.toNat) (xs:=r.2.2.nodes) (e:=Aq.c) (x:=r4.2.2) Ab rfl) (A8 ?_)
   refine A6 (Au A7 (A8 ?_))
  all_goals exact Bl A0 (r4.1,r4.2.1,⟨r.2.2.nodes.set r2.2.2.toNat r4.2.2,r.2.2.workers,r.2.2.cap⟩) ⟨hr4.1,Io (A0u hm (hr4.2.m Aw)) (by rw [List.length_set];omega) (Dp Ab Ab) (Dp Ab Ab)⟩ rfl rfl rfl rfl Ay
 repeat refine Bj ?_
 refine ⟨fun c1=>?_,fun c1=>?_⟩<;>conv=>whnf
 ·repeat refine Bj ?_
  refine Ev 4 (At [0,4,5,-1]) rfl (Bd rfl Cf) ?_
  refine Aj (Cn d r3.1 r3.2.1 [0,4,5,-1] hr3.1 Aw) hH hp rfl Ay rfl rfl (fun r4 hr4=>go A0 false ?_)
  conv=>whnf
  exact Bl A0 (r4.1,r4.2.1,⟨r.2.2.nodes,[0,4,5,-1].getD r4.2.2 0,r.2.2.cap⟩) ⟨hr4.1,Io hm Ab (Fs _ _ (by intro x hx;simp only [List.mem_cons,List.not_mem_nil,or_false] at hx;show _∧_;omega)) (Dp Ab Ab)⟩ rfl rfl rfl rfl Ay
 repeat refine Bj ?_
 refine ⟨fun c2=>?_,fun c2=>?_⟩<;>conv=>whnf
 ·repeat refine Bj ?_
  refine Ev 4 (At [0,4,5,-1]) rfl (Bd rfl Cf) ?_
  refine Aj (Cn d r3.1 r3.2.1 [0,4,5,-1] hr3.1 Aw) hH hp rfl Ay rfl rfl (fun r4 hr4=>go A0 false ?_)
  conv=>whnf
  exact Bl A0 (r4.1,r4.2.1,⟨r.2.2.nodes,r.2.2.workers,[0,4,5,-1].getD r4.2.2 0⟩) ⟨hr4.1,Io hm Ab (Dp Ab Ab) (Fs _ _ (by intro x hx;simp only [List.mem_cons,List.not_mem_nil,or_false] at hx;show _∧_;omega))⟩ rfl rfl rfl rfl Ay
 repeat refine Bj ?_
 refine ⟨fun c3=>?_,fun c3=>?_⟩<;>conv=>whnf
 ·repeat refine Bj ?_
  have hx:=hm _ (B8 (d:=default) (show r2.2.2.toNat<r.2.2.nodes.length by omega))
  have hx2:=(Vk (hn _ (B8 (d:=default) (show r2.2.2.toNat<r.2.2.nodes.length by omega)))).2
  refine Fq rfl ?_
  refine Am A0 false 0 rfl rfl rfl A7 rfl (A4 B2) ?_
  refine Am A0 false 2 rfl rfl rfl A7 rfl (A4 B2) ?_
  refine Am A0 false 3 rfl rfl rfl A7 rfl (A4 B2) ?_
  refine Am A0 false 5 rfl rfl rfl A7 rfl (A4 B2) ?_
  refine Am A0 false 9 rfl rfl rfl A7 rfl (A4 B2) ?_
  refine A3 [1,4,10] A7 ⟨?_,?_,?_,trivial⟩
  focus
   refine A8 ?_
   refine A6 ?_
   refine A3 [4,10] A7 ⟨?_,?_,trivial⟩
   focus
    refine A8 ?_
    refine A6 ?_
    refine A3 [6,10] A7 ⟨?_,?_,trivial⟩
    focus
     refine A8 ?_
     (repeat refine An ?_)
     refine A6 ?_
     refine Am A0 false 7 rfl rfl rfl A7 rfl (A4 B2) ?_
     refine A3 [8,10] A7 ⟨?_,?_,trivial⟩
     focus
      refine A8 ?_
      refine C6 A0 rfl rfl rfl rfl rfl rfl (c:=At (r.2.2.nodes.getD r2.2.2.toNat default).outs) rfl (fun v=>go A0 false ?_)
      conv=>whnf
      refine A6 (A3 [10] A7 ⟨A8 ?_,trivial⟩)
      refine Aj (Ai d r3.1 r3.2.1 9 hr3.1 Aw) hH hp rfl Ay rfl rfl (fun r4 hr4=>go A0 false ?_)
      conv=>whnf
      refine A6 ?_
      refine Am A0 false 11 rfl rfl rfl A7 rfl (A4 B2) ?_
      refine A3 [12] A7 ⟨A8 ?_,trivial⟩
      refine A6 (A3 [13] A7 ⟨A8 ?_,trivial⟩)
      refine B1 A0 rfl rfl rfl rfl rfl rfl rfl rfl rfl rfl rfl (At ((r.2.2.nodes.getD r2.2.2.toNat default).outs++[r4.2.2-1])) (Aa rfl) Bg Ab (A8 ?_)
      refine A6 (A3 [14] A7 ⟨A8 ?_,trivial⟩)
      (repeat refine An ?_)
      refine A6 ?_
      refine Am A0 false 15 rfl rfl rfl A7 rfl (A4 B2) ?_
      refine A3 [16] A7 ⟨A8 ?_,trivial⟩
      refine Ao (j:=r2.2.2) A0 rfl rfl rfl rfl rfl rfl rfl rfl _ (Az (j:=r2.2.2.toNat) (xs:=r.2.2.nodes) (e:=Aq.c) (x:=⟨(r.2.2.nodes.getD r2.2.2.toNat default).kind,(r.2.2.nodes.getD r2.2.2.toNat default).a,(r.2.2.nodes.getD r2.2.2.toNat default).b,(r.2.2.nodes.getD r2.2.2.toNat default).outs++[r4.2.2-1]⟩) Ab rfl) (A8 ?_)
      refine A6 (Au A7 (A8 ?_))
     rotate_left 1
     focus
      refine A8 ?_
      refine Aj (Ai d r3.1 r3.2.1 9 hr3.1 Aw) hH hp rfl Ay rfl rfl (fun r4 hr4=>go A0 false ?_)
      conv=>whnf
      refine A6 ?_
      refine Am A0 false 11 rfl rfl rfl A7 rfl (A4 B2) ?_
      refine A3 [8,12] A7 ⟨?_,?_,trivial⟩
      focus
       refine A8 ?_
       refine C6 A0 rfl rfl rfl rfl rfl rfl (c:=At (r.2.2.nodes.getD r2.2.2.toNat default).outs) rfl (fun v=>go A0 false ?_)
       conv=>whnf
       refine A6 (A3 [12] A7 ⟨A8 ?_,trivial⟩)
       refine A6 (A3 [13] A7 ⟨A8 ?_,trivial⟩)
       refine B1 A0 rfl rfl rfl rfl rfl rfl rfl rfl rfl rfl rfl (At ((r.2.2.nodes.getD r2.2.2.toNat default).outs++[r4.2.2-1])) (Aa rfl) Bg Ab (A8 ?_)
       refine A6 (A3 [14] A7 ⟨A8 ?_,trivial⟩)
       (repeat refine An ?_)
       refine A6 ?_
       refine Am A0 false 15 rfl rfl rfl A7 rfl (A4 B2) ?_
       refine A3 [16] A7 ⟨A8 ?_,trivial⟩
       refine Ao (j:=r2.2.2) A0 rfl rfl rfl rfl rfl rfl rfl rfl _ (Az (j:=r2.2.2.toNat) (xs:=r.2.2.nodes) (e:=Aq.c) (x:=⟨(r.2.2.nodes.getD r2.2.2.toNat default).kind,(r.2.2.nodes.getD r2.2.2.toNat default).a,(r.2.2.nodes.getD r2.2.2.toNat default).b,(r.2.2.nodes.getD r2.2.2.toNat default).outs++[r4.2.2-1]⟩) Ab rfl) (A8 ?_)
       refine A6 (Au A7 (A8 ?_))
      rotate_left 1
      focus
       refine A8 ?_
       refine A6 (A3 [8] A7 ⟨A8 ?_,trivial⟩)
       refine C6 A0 rfl rfl rfl rfl rfl rfl (c:=At (r.2.2.nodes.getD r2.2.2.toNat default).outs) rfl (fun v=>go A0 false ?_)
       conv=>whnf
       refine A6 (A3 [13] A7 ⟨A8 ?_,trivial⟩)
       refine B1 A0 rfl rfl rfl rfl rfl rfl rfl rfl rfl rfl rfl (At ((r.2.2.nodes.getD r2.2.2.toNat default).outs++[r4.2.2-1])) (Aa rfl) Bg Ab (A8 ?_)
       refine A6 (A3 [14] A7 ⟨A8 ?_,trivial⟩)
       (repeat refine An ?_)
       refine A6 ?_
       refine Am A0 false 15 rfl rfl rfl A7 rfl (A4 B2) ?_
       refine A3 [16] A7 ⟨A8 ?_,trivial⟩
       refine Ao (j:=r2.2.2) A0 rfl rfl rfl rfl rfl rfl rfl rfl _ (Az (j:=r2.2.2.toNat) (xs:=r.2.2.nodes) (e:=Aq.c) (x:=⟨(r.2.2.nodes.getD r2.2.2.toNat default).kind,(r.2.2.nodes.getD r2.2.2.toNat default).a,(r.2.2.nodes.getD r2.2.2.toNat default).b,(r.2.2.nodes.getD r2.2.2.toNat default).outs++[r4.2.2-1]⟩) Ab rfl) (A8 ?_)
       refine A6 (Au A7 (A8 ?_))
    rotate_left 3
    focus
     refine A8 ?_
     refine Aj (Ai d r3.1 r3.2.1 9 hr3.1 Aw) hH hp rfl Ay rfl rfl (fun r4 hr4=>go A0 false ?_)
     conv=>whnf
     refine A6 ?_
     refine Am A0 false 11 rfl rfl rfl A7 rfl (A4 B2) ?_
     refine A3 [6,12] A7 ⟨?_,?_,trivial⟩
     focus
      refine A8 ?_
      (repeat refine An ?_)
      refine A6 ?_
      refine Am A0 false 7 rfl rfl rfl A7 rfl (A4 B2) ?_
      refine A3 [8,12] A7 ⟨?_,?_,trivial⟩
      focus
       refine A8 ?_
       refine C6 A0 rfl rfl rfl rfl rfl rfl (c:=At (r.2.2.nodes.getD r2.2.2.toNat default).outs) rfl (fun v=>go A0 false ?_)
       conv=>whnf
       refine A6 (A3 [12] A7 ⟨A8 ?_,trivial⟩)
       refine A6 (A3 [13] A7 ⟨A8 ?_,trivial⟩)
       refine B1 A0 rfl rfl rfl rfl rfl rfl rfl rfl rfl rfl rfl (At ((r.2.2.nodes.getD r2.2.2.toNat default).outs++[r4.2.2-1])) (Aa rfl) Bg Ab (A8 ?_)
       refine A6 (A3 [14] A7 ⟨A8 ?_,trivial⟩)
       (repeat refine An ?_)
       refine A6 ?_
       refine Am A0 false 15 rfl rfl rfl A7 rfl (A4 B2) ?_
       refine A3 [16] A7 ⟨A8 ?_,trivial⟩
       refine Ao (j:=r2.2.2) A0 rfl rfl rfl rfl rfl rfl rfl rfl _ (Az (j:=r2.2.2.toNat) (xs:=r.2.2.nodes) (e:=Aq.c) (x:=⟨(r.2.2.nodes.getD r2.2.2.toNat default).kind,(r.2.2.nodes.getD r2.2.2.toNat default).a,(r.2.2.nodes.getD r2.2.2.toNat default).b,(r.2.2.nodes.getD r2.2.2.toNat default).outs++[r4.2.2-1]⟩) Ab rfl) (A8 ?_)
       refine A6 (Au A7 (A8 ?_))
      rotate_left 1
      focus
       refine A8 ?_
       refine A6 (A3 [8] A7 ⟨A8 ?_,trivial⟩)
       refine C6 A0 rfl rfl rfl rfl rfl rfl (c:=At (r.2.2.nodes.getD r2.2.2.toNat default).outs) rfl (fun v=>go A0 false ?_)
       conv=>whnf
       refine A6 (A3 [13] A7 ⟨A8 ?_,trivial⟩)
       refine B1 A0 rfl rfl rfl rfl rfl rfl rfl rfl rfl rfl rfl (At ((r.2.2.nodes.getD r2.2.2.toNat default).outs++[r4.2.2-1])) (Aa rfl) Bg Ab (A8 ?_)
       refine A6 (A3 [14] A7 ⟨A8 ?_,trivial⟩)
       (repeat refine An ?_)
       refine A6 ?_
       refine Am A0 false 15 rfl rfl rfl A7 rfl (A4 B2) ?_
       refine A3 [16] A7 ⟨A8 ?_,trivial⟩
       refine Ao (j:=r2.2.2) A0 rfl rfl rfl rfl rfl rfl rfl rfl _ (Az (j:=r2.2.2.toNat) (xs:=r.2.2.nodes) (e:=Aq.c) (x:=⟨(r.2.2.nodes.getD r2.2.2.toNat default).kind,(r.2.2.nodes.getD r2.2.2.toNat default).a,(r.2.2.nodes.getD r2.2.2.toNat default).b,(r.2.2.nodes.getD r2.2.2.toNat default).outs++[r4.2.2-1]⟩) Ab rfl) (A8 ?_)
       refine A6 (Au A7 (A8 ?_))
     rotate_left 2
     focus
      refine A8 ?_
      refine A6 (A3 [6] A7 ⟨A8 ?_,trivial⟩)
      (repeat refine An ?_)
      refine A6 ?_
      refine Am A0 false 7 rfl rfl rfl A7 rfl (A4 B2) ?_
      refine A3 [8] A7 ⟨A8 ?_,trivial⟩
      refine C6 A0 rfl rfl rfl rfl rfl rfl (c:=At (r.2.2.nodes.getD r2.2.2.toNat default).outs) rfl (fun v=>go A0 false ?_)
      conv=>whnf
      refine A6 (A3 [13] A7 ⟨A8 ?_,trivial⟩)
      refine B1 A0 rfl rfl rfl rfl rfl rfl rfl rfl rfl rfl rfl (At ((r.2.2.nodes.getD r2.2.2.toNat default).outs++[r4.2.2-1])) (Aa rfl) Bg Ab (A8 ?_)
      refine A6 (A3 [14] A7 ⟨A8 ?_,trivial⟩)
      (repeat refine An ?_)
      refine A6 ?_
      refine Am A0 false 15 rfl rfl rfl A7 rfl (A4 B2) ?_
      refine A3 [16] A7 ⟨A8 ?_,trivial⟩
      refine Ao (j:=r2.2.2) A0 rfl rfl rfl rfl rfl rfl rfl rfl _ (Az (j:=r2.2.2.toNat) (xs:=r.2.2.nodes) (e:=Aq.c) (x:=⟨(r.2.2.nodes.getD r2.2.2.toNat default).kind,(r.2.2.nodes.getD r2.2.2.toNat default).a,(r.2.2.nodes.getD r2.2.2.toNat default).b,(r.2.2.nodes.getD r2.2.2.toNat default).outs++[r4.2.2-1]⟩) Ab rfl) (A8 ?_)
      refine A6 (Au A7 (A8 ?_))
   rotate_left 6
   focus
    refine A8 ?_
    refine Aj (Ai d r3.1 r3.2.1 9 hr3.1 Aw) hH hp rfl Ay rfl rfl (fun r4 hr4=>go A0 false ?_)
    conv=>whnf
    refine A6 ?_
    refine Am A0 false 11 rfl rfl rfl A7 rfl (A4 B2) ?_
    refine A3 [4,12] A7 ⟨?_,?_,trivial⟩
    focus
     refine A8 ?_
     refine A6 ?_
     refine A3 [6,12] A7 ⟨?_,?_,trivial⟩
     focus
      refine A8 ?_
      (repeat refine An ?_)
      refine A6 ?_
      refine Am A0 false 7 rfl rfl rfl A7 rfl (A4 B2) ?_
      refine A3 [8,12] A7 ⟨?_,?_,trivial⟩
      focus
       refine A8 ?_
       refine C6 A0 rfl rfl rfl rfl rfl rfl (c:=At (r.2.2.nodes.getD r2.2.2.toNat default).outs) rfl (fun v=>go A0 false ?_)
       conv=>whnf
       refine A6 (A3 [12] A7 ⟨A8 ?_,trivial⟩)
       refine A6 (A3 [13] A7 ⟨A8 ?_,trivial⟩)
       refine B1 A0 rfl rfl rfl rfl rfl rfl rfl rfl rfl rfl rfl (At ((r.2.2.nodes.getD r2.2.2.toNat default).outs++[r4.2.2-1])) (Aa rfl) Bg Ab (A8 ?_)
       refine A6 (A3 [14] A7 ⟨A8 ?_,trivial⟩)
       (repeat refine An ?_)
       refine A6 ?_
       refine Am A0 false 15 rfl rfl rfl A7 rfl (A4 B2) ?_
       refine A3 [16] A7 ⟨A8 ?_,trivial⟩
       refine Ao (j:=r2.2.2) A0 rfl rfl rfl rfl rfl rfl rfl rfl _ (Az (j:=r2.2.2.toNat) (xs:=r.2.2.nodes) (e:=Aq.c) (x:=⟨(r.2.2.nodes.getD r2.2.2.toNat default).kind,(r.2.2.nodes.getD r2.2.2.toNat default).a,(r.2.2.nodes.getD r2.2.2.toNat default).b,(r.2.2.nodes.getD r2.2.2.toNat default).outs++[r4.2.2-1]⟩) Ab rfl) (A8 ?_)
       refine A6 (Au A7 (A8 ?_))
      rotate_left 1
      focus
       refine A8 ?_
       refine A6 (A3 [8] A7 ⟨A8 ?_,trivial⟩)
       refine C6 A0 rfl rfl rfl rfl rfl rfl (c:=At (r.2.2.nodes.getD r2.2.2.toNat default).outs) rfl (fun v=>go A0 false ?_)
       conv=>whnf
       refine A6 (A3 [13] A7 ⟨A8 ?_,trivial⟩)
       refine B1 A0 rfl rfl rfl rfl rfl rfl rfl rfl rfl rfl rfl (At ((r.2.2.nodes.getD r2.2.2.toNat default).outs++[r4.2.2-1])) (Aa rfl) Bg Ab (A8 ?_)
       refine A6 (A3 [14] A7 ⟨A8 ?_,trivial⟩)
       (repeat refine An ?_)
       refine A6 ?_
       refine Am A0 false 15 rfl rfl rfl A7 rfl (A4 B2) ?_
       refine A3 [16] A7 ⟨A8 ?_,trivial⟩
       refine Ao (j:=r2.2.2) A0 rfl rfl rfl rfl rfl rfl rfl rfl _ (Az (j:=r2.2.2.toNat) (xs:=r.2.2.nodes) (e:=Aq.c) (x:=⟨(r.2.2.nodes.getD r2.2.2.toNat default).kind,(r.2.2.nodes.getD r2.2.2.toNat default).a,(r.2.2.nodes.getD r2.2.2.toNat default).b,(r.2.2.nodes.getD r2.2.2.toNat default).outs++[r4.2.2-1]⟩) Ab rfl) (A8 ?_)
       refine A6 (Au A7 (A8 ?_))
     rotate_left 2
     focus
      refine A8 ?_
      refine A6 (A3 [6] A7 ⟨A8 ?_,trivial⟩)
      (repeat refine An ?_)
      refine A6 ?_
      refine Am A0 false 7 rfl rfl rfl A7 rfl (A4 B2) ?_
      refine A3 [8] A7 ⟨A8 ?_,trivial⟩
      refine C6 A0 rfl rfl rfl rfl rfl rfl (c:=At (r.2.2.nodes.getD r2.2.2.toNat default).outs) rfl (fun v=>go A0 false ?_)
      conv=>whnf
      refine A6 (A3 [13] A7 ⟨A8 ?_,trivial⟩)
      refine B1 A0 rfl rfl rfl rfl rfl rfl rfl rfl rfl rfl rfl (At ((r.2.2.nodes.getD r2.2.2.toNat default).outs++[r4.2.2-1])) (Aa rfl) Bg Ab (A8 ?_)
      refine A6 (A3 [14] A7 ⟨A8 ?_,trivial⟩)
      (repeat refine An ?_)
      refine A6 ?_
      refine Am A0 false 15 rfl rfl rfl A7 rfl (A4 B2) ?_
      refine A3 [16] A7 ⟨A8 ?_,trivial⟩
      refine Ao (j:=r2.2.2) A0 rfl rfl rfl rfl rfl rfl rfl rfl _ (Az (j:=r2.2.2.toNat) (xs:=r.2.2.nodes) (e:=Aq.c) (x:=⟨(r.2.2.nodes.getD r2.2.2.toNat default).kind,(r.2.2.nodes.getD r2.2.2.toNat default).a,(r.2.2.nodes.getD r2.2.2.toNat default).b,(r.2.2.nodes.getD r2.2.2.toNat default).outs++[r4.2.2-1]⟩) Ab rfl) (A8 ?_)
      refine A6 (Au A7 (A8 ?_))
    rotate_left 3
    focus
     refine A8 ?_
     refine A6 (A3 [4] A7 ⟨A8 ?_,trivial⟩)
     refine A6 (A3 [6] A7 ⟨A8 ?_,trivial⟩)
     (repeat refine An ?_)
     refine A6 ?_
     refine Am A0 false 7 rfl rfl rfl A7 rfl (A4 B2) ?_
     refine A3 [8] A7 ⟨A8 ?_,trivial⟩
     refine C6 A0 rfl rfl rfl rfl rfl rfl (c:=At (r.2.2.nodes.getD r2.2.2.toNat default).outs) rfl (fun v=>go A0 false ?_)
     conv=>whnf
     refine A6 (A3 [13] A7 ⟨A8 ?_,trivial⟩)
     refine B1 A0 rfl rfl rfl rfl rfl rfl rfl rfl rfl rfl rfl (At ((r.2.2.nodes.getD r2.2.2.toNat default).outs++[r4.2.2-1])) (Aa rfl) Bg Ab (A8 ?_)
     refine A6 (A3 [14] A7 ⟨A8 ?_,trivial⟩)
     (repeat refine An ?_)
     refine A6 ?_
     refine Am A0 false 15 rfl rfl rfl A7 rfl (A4 B2) ?_
     refine A3 [16] A7 ⟨A8 ?_,trivial⟩
     refine Ao (j:=r2.2.2) A0 rfl rfl rfl rfl rfl rfl rfl rfl _ (Az (j:=r2.2.2.toNat) (xs:=r.2.2.nodes) (e:=Aq.c) (x:=⟨(r.2.2.nodes.getD r2.2.2.toNat default).kind,(r.2.2.nodes.getD r2.2.2.toNat default).a,(r.2.2.nodes.getD r2.2.2.toNat default).b,(r.2.2.nodes.getD r2.2.2.toNat default).outs++[r4.2.2-1]⟩) Ab rfl) (A8 ?_)
     refine A6 (Au A7 (A8 ?_))
  rotate_left 10
  focus
   refine A8 ?_
   refine A6 ?_
   refine A3 [1,6,10] A7 ⟨?_,?_,?_,trivial⟩
   focus
    refine A8 ?_
    refine A6 ?_
    refine A3 [6,10] A7 ⟨?_,?_,trivial⟩
    focus
     refine A8 ?_
     (repeat refine An ?_)
     refine A6 ?_
     refine Am A0 false 7 rfl rfl rfl A7 rfl (A4 B2) ?_
     refine A3 [8,10] A7 ⟨?_,?_,trivial⟩
     focus
      refine A8 ?_
      refine C6 A0 rfl rfl rfl rfl rfl rfl (c:=At (r.2.2.nodes.getD r2.2.2.toNat default).outs) rfl (fun v=>go A0 false ?_)
      conv=>whnf
      refine A6 (A3 [10] A7 ⟨A8 ?_,trivial⟩)
      refine Aj (Ai d r3.1 r3.2.1 9 hr3.1 Aw) hH hp rfl Ay rfl rfl (fun r4 hr4=>go A0 false ?_)
      conv=>whnf
      refine A6 ?_
      refine Am A0 false 11 rfl rfl rfl A7 rfl (A4 B2) ?_
      refine A3 [12] A7 ⟨A8 ?_,trivial⟩
      refine A6 (A3 [13] A7 ⟨A8 ?_,trivial⟩)
      refine B1 A0 rfl rfl rfl rfl rfl rfl rfl rfl rfl rfl rfl (At ((r.2.2.nodes.getD r2.2.2.toNat default).outs++[r4.2.2-1])) (Aa rfl) Bg Ab (A8 ?_)
      refine A6 (A3 [14] A7 ⟨A8 ?_,trivial⟩)
      (repeat refine An ?_)
      refine A6 ?_
      refine Am A0 false 15 rfl rfl rfl A7 rfl (A4 B2) ?_
      refine A3 [16] A7 ⟨A8 ?_,trivial⟩
      refine Ao (j:=r2.2.2) A0 rfl rfl rfl rfl rfl rfl rfl rfl _ (Az (j:=r2.2.2.toNat) (xs:=r.2.2.nodes) (e:=Aq.c) (x:=⟨(r.2.2.nodes.getD r2.2.2.toNat default).kind,(r.2.2.nodes.getD r2.2.2.toNat default).a,(r.2.2.nodes.getD r2.2.2.toNat default).b,(r.2.2.nodes.getD r2.2.2.toNat default).outs++[r4.2.2-1]⟩) Ab rfl) (A8 ?_)
      refine A6 (Au A7 (A8 ?_))
     rotate_left 1
     focus
      refine A8 ?_
      refine Aj (Ai d r3.1 r3.2.1 9 hr3.1 Aw) hH hp rfl Ay rfl rfl (fun r4 hr4=>go A0 false ?_)
      conv=>whnf
      refine A6 ?_
      refine Am A0 false 11 rfl rfl rfl A7 rfl (A4 B2) ?_
      refine A3 [8,12] A7 ⟨?_,?_,trivial⟩
      focus
       refine A8 ?_
       refine C6 A0 rfl rfl rfl rfl rfl rfl (c:=At (r.2.2.nodes.getD r2.2.2.toNat default).outs) rfl (fun v=>go A0 false ?_)
       conv=>whnf
       refine A6 (A3 [12] A7 ⟨A8 ?_,trivial⟩)
       refine A6 (A3 [13] A7 ⟨A8 ?_,trivial⟩)
       refine B1 A0 rfl rfl rfl rfl rfl rfl rfl rfl rfl rfl rfl (At ((r.2.2.nodes.getD r2.2.2.toNat default).outs++[r4.2.2-1])) (Aa rfl) Bg Ab (A8 ?_)
       refine A6 (A3 [14] A7 ⟨A8 ?_,trivial⟩)
       (repeat refine An ?_)
       refine A6 ?_
       refine Am A0 false 15 rfl rfl rfl A7 rfl (A4 B2) ?_
       refine A3 [16] A7 ⟨A8 ?_,trivial⟩
       refine Ao (j:=r2.2.2) A0 rfl rfl rfl rfl rfl rfl rfl rfl _ (Az (j:=r2.2.2.toNat) (xs:=r.2.2.nodes) (e:=Aq.c) (x:=⟨(r.2.2.nodes.getD r2.2.2.toNat default).kind,(r.2.2.nodes.getD r2.2.2.toNat default).a,(r.2.2.nodes.getD r2.2.2.toNat default).b,(r.2.2.nodes.getD r2.2.2.toNat default).outs++[r4.2.2-1]⟩) Ab rfl) (A8 ?_)
       refine A6 (Au A7 (A8 ?_))
      rotate_left 1
      focus
       refine A8 ?_
       refine A6 (A3 [8] A7 ⟨A8 ?_,trivial⟩)
       refine C6 A0 rfl rfl rfl rfl rfl rfl (c:=At (r.2.2.nodes.getD r2.2.2.toNat default).outs) rfl (fun v=>go A0 false ?_)
       conv=>whnf
       refine A6 (A3 [13] A7 ⟨A8 ?_,trivial⟩)
       refine B1 A0 rfl rfl rfl rfl rfl rfl rfl rfl rfl rfl rfl (At ((r.2.2.nodes.getD r2.2.2.toNat default).outs++[r4.2.2-1])) (Aa rfl) Bg Ab (A8 ?_)
       refine A6 (A3 [14] A7 ⟨A8 ?_,trivial⟩)
       (repeat refine An ?_)
       refine A6 ?_
       refine Am A0 false 15 rfl rfl rfl A7 rfl (A4 B2) ?_
       refine A3 [16] A7 ⟨A8 ?_,trivial⟩
       refine Ao (j:=r2.2.2) A0 rfl rfl rfl rfl rfl rfl rfl rfl _ (Az (j:=r2.2.2.toNat) (xs:=r.2.2.nodes) (e:=Aq.c) (x:=⟨(r.2.2.nodes.getD r2.2.2.toNat default).kind,(r.2.2.nodes.getD r2.2.2.toNat default).a,(r.2.2.nodes.getD r2.2.2.toNat default).b,(r.2.2.nodes.getD r2.2.2.toNat default).outs++[r4.2.2-1]⟩) Ab rfl) (A8 ?_)
       refine A6 (Au A7 (A8 ?_))
    rotate_left 3
    focus
     refine A8 ?_
     refine Aj (Ai d r3.1 r3.2.1 9 hr3.1 Aw) hH hp rfl Ay rfl rfl (fun r4 hr4=>go A0 false ?_)
     conv=>whnf
     refine A6 ?_
     refine Am A0 false 11 rfl rfl rfl A7 rfl (A4 B2) ?_
     refine A3 [6,12] A7 ⟨?_,?_,trivial⟩
     focus
      refine A8 ?_
      (repeat refine An ?_)
      refine A6 ?_
      refine Am A0 false 7 rfl rfl rfl A7 rfl (A4 B2) ?_
      refine A3 [8,12] A7 ⟨?_,?_,trivial⟩
      focus
       refine A8 ?_
       refine C6 A0 rfl rfl rfl rfl rfl rfl (c:=At (r.2.2.nodes.getD r2.2.2.toNat default).outs) rfl (fun v=>go A0 false ?_)
       conv=>whnf
       refine A6 (A3 [12] A7 ⟨A8 ?_,trivial⟩)
       refine A6 (A3 [13] A7 ⟨A8 ?_,trivial⟩)
       refine B1 A0 rfl rfl rfl rfl rfl rfl rfl rfl rfl rfl rfl (At ((r.2.2.nodes.getD r2.2.2.toNat default).outs++[r4.2.2-1])) (Aa rfl) Bg Ab (A8 ?_)
       refine A6 (A3 [14] A7 ⟨A8 ?_,trivial⟩)
       (repeat refine An ?_)
       refine A6 ?_
       refine Am A0 false 15 rfl rfl rfl A7 rfl (A4 B2) ?_
       refine A3 [16] A7 ⟨A8 ?_,trivial⟩
       refine Ao (j:=r2.2.2) A0 rfl rfl rfl rfl rfl rfl rfl rfl _ (Az (j:=r2.2.2.toNat) (xs:=r.2.2.nodes) (e:=Aq.c) (x:=⟨(r.2.2.nodes.getD r2.2.2.toNat default).kind,(r.2.2.nodes.getD r2.2.2.toNat default).a,(r.2.2.nodes.getD r2.2.2.toNat default).b,(r.2.2.nodes.getD r2.2.2.toNat default).outs++[r4.2.2-1]⟩) Ab rfl) (A8 ?_)
       refine A6 (Au A7 (A8 ?_))
      rotate_left 1
      focus
       refine A8 ?_
       refine A6 (A3 [8] A7 ⟨A8 ?_,trivial⟩)
       refine C6 A0 rfl rfl rfl rfl rfl rfl (c:=At (r.2.2.nodes.getD r2.2.2.toNat default).outs) rfl (fun v=>go A0 false ?_)
       conv=>whnf
       refine A6 (A3 [13] A7 ⟨A8 ?_,trivial⟩)
       refine B1 A0 rfl rfl rfl rfl rfl rfl rfl rfl rfl rfl rfl (At ((r.2.2.nodes.getD r2.2.2.toNat default).outs++[r4.2.2-1])) (Aa rfl) Bg Ab (A8 ?_)
       refine A6 (A3 [14] A7 ⟨A8 ?_,trivial⟩)
       (repeat refine An ?_)
       refine A6 ?_
       refine Am A0 false 15 rfl rfl rfl A7 rfl (A4 B2) ?_
       refine A3 [16] A7 ⟨A8 ?_,trivial⟩
       refine Ao (j:=r2.2.2) A0 rfl rfl rfl rfl rfl rfl rfl rfl _ (Az (j:=r2.2.2.toNat) (xs:=r.2.2.nodes) (e:=Aq.c) (x:=⟨(r.2.2.nodes.getD r2.2.2.toNat default).kind,(r.2.2.nodes.getD r2.2.2.toNat default).a,(r.2.2.nodes.getD r2.2.2.toNat default).b,(r.2.2.nodes.getD r2.2.2.toNat default).outs++[r4.2.2-1]⟩) Ab rfl) (A8 ?_)
       refine A6 (Au A7 (A8 ?_))
     rotate_left 2
     focus
      refine A8 ?_
      refine A6 (A3 [6] A7 ⟨A8 ?_,trivial⟩)
      (repeat refine An ?_)
      refine A6 ?_
      refine Am A0 false 7 rfl rfl rfl A7 rfl (A4 B2) ?_
      refine A3 [8] A7 ⟨A8 ?_,trivial⟩
      refine C6 A0 rfl rfl rfl rfl rfl rfl (c:=At (r.2.2.nodes.getD r2.2.2.toNat default).outs) rfl (fun v=>go A0 false ?_)
      conv=>whnf
      refine A6 (A3 [13] A7 ⟨A8 ?_,trivial⟩)
      refine B1 A0 rfl rfl rfl rfl rfl rfl rfl rfl rfl rfl rfl (At ((r.2.2.nodes.getD r2.2.2.toNat default).outs++[r4.2.2-1])) (Aa rfl) Bg Ab (A8 ?_)
      refine A6 (A3 [14] A7 ⟨A8 ?_,trivial⟩)
      (repeat refine An ?_)
      refine A6 ?_
      refine Am A0 false 15 rfl rfl rfl A7 rfl (A4 B2) ?_
      refine A3 [16] A7 ⟨A8 ?_,trivial⟩
      refine Ao (j:=r2.2.2) A0 rfl rfl rfl rfl rfl rfl rfl rfl _ (Az (j:=r2.2.2.toNat) (xs:=r.2.2.nodes) (e:=Aq.c) (x:=⟨(r.2.2.nodes.getD r2.2.2.toNat default).kind,(r.2.2.nodes.getD r2.2.2.toNat default).a,(r.2.2.nodes.getD r2.2.2.toNat default).b,(r.2.2.nodes.getD r2.2.2.toNat default).outs++[r4.2.2-1]⟩) Ab rfl) (A8 ?_)
      refine A6 (Au A7 (A8 ?_))
   rotate_left 6
   focus
    refine A8 ?_
    (repeat refine An ?_)
    refine A6 ?_
    refine Am A0 false 7 rfl rfl rfl A7 rfl (A4 B2) ?_
    refine A3 [1,8,10] A7 ⟨?_,?_,?_,trivial⟩
    focus
     refine A8 ?_
     refine A6 ?_
     refine A3 [8,10] A7 ⟨?_,?_,trivial⟩
     focus
      refine A8 ?_
      refine C6 A0 rfl rfl rfl rfl rfl rfl (c:=At (r.2.2.nodes.getD r2.2.2.toNat default).outs) rfl (fun v=>go A0 false ?_)
      conv=>whnf
      refine A6 (A3 [10] A7 ⟨A8 ?_,trivial⟩)
      refine Aj (Ai d r3.1 r3.2.1 9 hr3.1 Aw) hH hp rfl Ay rfl rfl (fun r4 hr4=>go A0 false ?_)
      conv=>whnf
      refine A6 ?_
      refine Am A0 false 11 rfl rfl rfl A7 rfl (A4 B2) ?_
      refine A3 [12] A7 ⟨A8 ?_,trivial⟩
      refine A6 (A3 [13] A7 ⟨A8 ?_,trivial⟩)
      refine B1 A0 rfl rfl rfl rfl rfl rfl rfl rfl rfl rfl rfl (At ((r.2.2.nodes.getD r2.2.2.toNat default).outs++[r4.2.2-1])) (Aa rfl) Bg Ab (A8 ?_)
      refine A6 (A3 [14] A7 ⟨A8 ?_,trivial⟩)
      (repeat refine An ?_)
      refine A6 ?_
      refine Am A0 false 15 rfl rfl rfl A7 rfl (A4 B2) ?_
      refine A3 [16] A7 ⟨A8 ?_,trivial⟩
      refine Ao (j:=r2.2.2) A0 rfl rfl rfl rfl rfl rfl rfl rfl _ (Az (j:=r2.2.2.toNat) (xs:=r.2.2.nodes) (e:=Aq.c) (x:=⟨(r.2.2.nodes.getD r2.2.2.toNat default).kind,(r.2.2.nodes.getD r2.2.2.toNat default).a,(r.2.2.nodes.getD r2.2.2.toNat default).b,(r.2.2.nodes.getD r2.2.2.toNat default).outs++[r4.2.2-1]⟩) Ab rfl) (A8 ?_)
      refine A6 (Au A7 (A8 ?_))
     rotate_left 1
     focus
      refine A8 ?_
      refine Aj (Ai d r3.1 r3.2.1 9 hr3.1 Aw) hH hp rfl Ay rfl rfl (fun r4 hr4=>go A0 false ?_)
      conv=>whnf
      refine A6 ?_
      refine Am A0 false 11 rfl rfl rfl A7 rfl (A4 B2) ?_
      refine A3 [8,12] A7 ⟨?_,?_,trivial⟩
      focus
       refine A8 ?_
       refine C6 A0 rfl rfl rfl rfl rfl rfl (c:=At (r.2.2.nodes.getD r2.2.2.toNat default).outs) rfl (fun v=>go A0 false ?_)
       conv=>whnf
       refine A6 (A3 [12] A7 ⟨A8 ?_,trivial⟩)
       refine A6 (A3 [13] A7 ⟨A8 ?_,trivial⟩)
       refine B1 A0 rfl rfl rfl rfl rfl rfl rfl rfl rfl rfl rfl (At ((r.2.2.nodes.getD r2.2.2.toNat default).outs++[r4.2.2-1])) (Aa rfl) Bg Ab (A8 ?_)
       refine A6 (A3 [14] A7 ⟨A8 ?_,trivial⟩)
       (repeat refine An ?_)
       refine A6 ?_
       refine Am A0 false 15 rfl rfl rfl A7 rfl (A4 B2) ?_
       refine A3 [16] A7 ⟨A8 ?_,trivial⟩
       refine Ao (j:=r2.2.2) A0 rfl rfl rfl rfl rfl rfl rfl rfl _ (Az (j:=r2.2.2.toNat) (xs:=r.2.2.nodes) (e:=Aq.c) (x:=⟨(r.2.2.nodes.getD r2.2.2.toNat default).kind,(r.2.2.nodes.getD r2.2.2.toNat default).a,(r.2.2.nodes.getD r2.2.2.toNat default).b,(r.2.2.nodes.getD r2.2.2.toNat default).outs++[r4.2.2-1]⟩) Ab rfl) (A8 ?_)
       refine A6 (Au A7 (A8 ?_))
      rotate_left 1
      focus
       refine A8 ?_
       refine A6 (A3 [8] A7 ⟨A8 ?_,trivial⟩)
       refine C6 A0 rfl rfl rfl rfl rfl rfl (c:=At (r.2.2.nodes.getD r2.2.2.toNat default).outs) rfl (fun v=>go A0 false ?_)
       conv=>whnf
       refine A6 (A3 [13] A7 ⟨A8 ?_,trivial⟩)
       refine B1 A0 rfl rfl rfl rfl rfl rfl rfl rfl rfl rfl rfl (At ((r.2.2.nodes.getD r2.2.2.toNat default).outs++[r4.2.2-1])) (Aa rfl) Bg Ab (A8 ?_)
       refine A6 (A3 [14] A7 ⟨A8 ?_,trivial⟩)
       (repeat refine An ?_)
       refine A6 ?_
       refine Am A0 false 15 rfl rfl rfl A7 rfl (A4 B2) ?_
       refine A3 [16] A7 ⟨A8 ?_,trivial⟩
       refine Ao (j:=r2.2.2) A0 rfl rfl rfl rfl rfl rfl rfl rfl _ (Az (j:=r2.2.2.toNat) (xs:=r.2.2.nodes) (e:=Aq.c) (x:=⟨(r.2.2.nodes.getD r2.2.2.toNat default).kind,(r.2.2.nodes.getD r2.2.2.toNat default).a,(r.2.2.nodes.getD r2.2.2.toNat default).b,(r.2.2.nodes.getD r2.2.2.toNat default).outs++[r4.2.2-1]⟩) Ab rfl) (A8 ?_)
       refine A6 (Au A7 (A8 ?_))
    rotate_left 3
    focus
     refine A8 ?_
     refine C6 A0 rfl rfl rfl rfl rfl rfl (c:=At (r.2.2.nodes.getD r2.2.2.toNat default).outs) rfl (fun v=>go A0 false ?_)
     conv=>whnf
     refine A6 ?_
     refine A3 [1,10] A7 ⟨?_,?_,trivial⟩
     focus
      refine A8 ?_
      refine A6 (A3 [10] A7 ⟨A8 ?_,trivial⟩)
      refine Aj (Ai d r3.1 r3.2.1 9 hr3.1 Aw) hH hp rfl Ay rfl rfl (fun r4 hr4=>go A0 false ?_)
      conv=>whnf
      refine A6 ?_
      refine Am A0 false 11 rfl rfl rfl A7 rfl (A4 B2) ?_
      refine A3 [12] A7 ⟨A8 ?_,trivial⟩
      refine A6 (A3 [13] A7 ⟨A8 ?_,trivial⟩)
      refine B1 A0 rfl rfl rfl rfl rfl rfl rfl rfl rfl rfl rfl (At ((r.2.2.nodes.getD r2.2.2.toNat default).outs++[r4.2.2-1])) (Aa rfl) Bg Ab (A8 ?_)
      refine A6 (A3 [14] A7 ⟨A8 ?_,trivial⟩)
      (repeat refine An ?_)
      refine A6 ?_
      refine Am A0 false 15 rfl rfl rfl A7 rfl (A4 B2) ?_
      refine A3 [16] A7 ⟨A8 ?_,trivial⟩
      refine Ao (j:=r2.2.2) A0 rfl rfl rfl rfl rfl rfl rfl rfl _ (Az (j:=r2.2.2.toNat) (xs:=r.2.2.nodes) (e:=Aq.c) (x:=⟨(r.2.2.nodes.getD r2.2.2.toNat default).kind,(r.2.2.nodes.getD r2.2.2.toNat default).a,(r.2.2.nodes.getD r2.2.2.toNat default).b,(r.2.2.nodes.getD r2.2.2.toNat default).outs++[r4.2.2-1]⟩) Ab rfl) (A8 ?_)
      refine A6 (Au A7 (A8 ?_))
     rotate_left 1
     focus
      refine A8 ?_
      refine Aj (Ai d r3.1 r3.2.1 9 hr3.1 Aw) hH hp rfl Ay rfl rfl (fun r4 hr4=>go A0 false ?_)
      conv=>whnf
      refine A6 ?_
      refine Am A0 false 11 rfl rfl rfl A7 rfl (A4 B2) ?_
      refine A3 [1,12] A7 ⟨?_,?_,trivial⟩
      focus
       refine A8 ?_
       refine A6 (A3 [12] A7 ⟨A8 ?_,trivial⟩)
       refine A6 (A3 [13] A7 ⟨A8 ?_,trivial⟩)
       refine B1 A0 rfl rfl rfl rfl rfl rfl rfl rfl rfl rfl rfl (At ((r.2.2.nodes.getD r2.2.2.toNat default).outs++[r4.2.2-1])) (Aa rfl) Bg Ab (A8 ?_)
       refine A6 (A3 [14] A7 ⟨A8 ?_,trivial⟩)
       (repeat refine An ?_)
       refine A6 ?_
       refine Am A0 false 15 rfl rfl rfl A7 rfl (A4 B2) ?_
       refine A3 [16] A7 ⟨A8 ?_,trivial⟩
       refine Ao (j:=r2.2.2) A0 rfl rfl rfl rfl rfl rfl rfl rfl _ (Az (j:=r2.2.2.toNat) (xs:=r.2.2.nodes) (e:=Aq.c) (x:=⟨(r.2.2.nodes.getD r2.2.2.toNat default).kind,(r.2.2.nodes.getD r2.2.2.toNat default).a,(r.2.2.nodes.getD r2.2.2.toNat default).b,(r.2.2.nodes.getD r2.2.2.toNat default).outs++[r4.2.2-1]⟩) Ab rfl) (A8 ?_)
       refine A6 (Au A7 (A8 ?_))
      rotate_left 1
      focus
       refine A8 ?_
       refine A6 ?_
       refine A3 [1,13] A7 ⟨?_,?_,trivial⟩
       focus
        refine A8 ?_
        refine A6 (A3 [13] A7 ⟨A8 ?_,trivial⟩)
        refine B1 A0 rfl rfl rfl rfl rfl rfl rfl rfl rfl rfl rfl (At ((r.2.2.nodes.getD r2.2.2.toNat default).outs++[r4.2.2-1])) (Aa rfl) Bg Ab (A8 ?_)
        refine A6 (A3 [14] A7 ⟨A8 ?_,trivial⟩)
        (repeat refine An ?_)
        refine A6 ?_
        refine Am A0 false 15 rfl rfl rfl A7 rfl (A4 B2) ?_
        refine A3 [16] A7 ⟨A8 ?_,trivial⟩
        refine Ao (j:=r2.2.2) A0 rfl rfl rfl rfl rfl rfl rfl rfl _ (Az (j:=r2.2.2.toNat) (xs:=r.2.2.nodes) (e:=Aq.c) (x:=⟨(r.2.2.nodes.getD r2.2.2.toNat default).kind,(r.2.2.nodes.getD r2.2.2.toNat default).a,(r.2.2.nodes.getD r2.2.2.toNat default).b,(r.2.2.nodes.getD r2.2.2.toNat default).outs++[r4.2.2-1]⟩) Ab rfl) (A8 ?_)
        refine A6 (Au A7 (A8 ?_))
       rotate_left 1
       focus
        refine A8 ?_
        refine B1 A0 rfl rfl rfl rfl rfl rfl rfl rfl rfl rfl rfl (At ((r.2.2.nodes.getD r2.2.2.toNat default).outs++[r4.2.2-1])) (Aa rfl) Bg Ab (A8 ?_)
        refine A6 (A3 [1] A7 ⟨A8 ?_,trivial⟩)
        refine A6 (A3 [14] A7 ⟨A8 ?_,trivial⟩)
        (repeat refine An ?_)
        refine A6 ?_
        refine Am A0 false 15 rfl rfl rfl A7 rfl (A4 B2) ?_
        refine A3 [16] A7 ⟨A8 ?_,trivial⟩
        refine Ao (j:=r2.2.2) A0 rfl rfl rfl rfl rfl rfl rfl rfl _ (Az (j:=r2.2.2.toNat) (xs:=r.2.2.nodes) (e:=Aq.c) (x:=⟨(r.2.2.nodes.getD r2.2.2.toNat default).kind,(r.2.2.nodes.getD r2.2.2.toNat default).a,(r.2.2.nodes.getD r2.2.2.toNat default).b,(r.2.2.nodes.getD r2.2.2.toNat default).outs++[r4.2.2-1]⟩) Ab rfl) (A8 ?_)
        refine A6 (Au A7 (A8 ?_))
    rotate_left 4
    focus
     refine A8 ?_
     refine Aj (Ai d r3.1 r3.2.1 9 hr3.1 Aw) hH hp rfl Ay rfl rfl (fun r4 hr4=>go A0 false ?_)
     conv=>whnf
     refine A6 ?_
     refine Am A0 false 11 rfl rfl rfl A7 rfl (A4 B2) ?_
     refine A3 [1,8,12] A7 ⟨?_,?_,?_,trivial⟩
     focus
      refine A8 ?_
      refine A6 ?_
      refine A3 [8,12] A7 ⟨?_,?_,trivial⟩
      focus
       refine A8 ?_
       refine C6 A0 rfl rfl rfl rfl rfl rfl (c:=At (r.2.2.nodes.getD r2.2.2.toNat default).outs) rfl (fun v=>go A0 false ?_)
       conv=>whnf
       refine A6 (A3 [12] A7 ⟨A8 ?_,trivial⟩)
       refine A6 (A3 [13] A7 ⟨A8 ?_,trivial⟩)
       refine B1 A0 rfl rfl rfl rfl rfl rfl rfl rfl rfl rfl rfl (At ((r.2.2.nodes.getD r2.2.2.toNat default).outs++[r4.2.2-1])) (Aa rfl) Bg Ab (A8 ?_)
       refine A6 (A3 [14] A7 ⟨A8 ?_,trivial⟩)
       (repeat refine An ?_)
       refine A6 ?_
       refine Am A0 false 15 rfl rfl rfl A7 rfl (A4 B2) ?_
       refine A3 [16] A7 ⟨A8 ?_,trivial⟩
       refine Ao (j:=r2.2.2) A0 rfl rfl rfl rfl rfl rfl rfl rfl _ (Az (j:=r2.2.2.toNat) (xs:=r.2.2.nodes) (e:=Aq.c) (x:=⟨(r.2.2.nodes.getD r2.2.2.toNat default).kind,(r.2.2.nodes.getD r2.2.2.toNat default).a,(r.2.2.nodes.getD r2.2.2.toNat default).b,(r.2.2.nodes.getD r2.2.2.toNat default).outs++[r4.2.2-1]⟩) Ab rfl) (A8 ?_)
       refine A6 (Au A7 (A8 ?_))
      rotate_left 1
      focus
       refine A8 ?_
       refine A6 (A3 [8] A7 ⟨A8 ?_,trivial⟩)
       refine C6 A0 rfl rfl rfl rfl rfl rfl (c:=At (r.2.2.nodes.getD r2.2.2.toNat default).outs) rfl (fun v=>go A0 false ?_)
       conv=>whnf
       refine A6 (A3 [13] A7 ⟨A8 ?_,trivial⟩)
       refine B1 A0 rfl rfl rfl rfl rfl rfl rfl rfl rfl rfl rfl (At ((r.2.2.nodes.getD r2.2.2.toNat default).outs++[r4.2.2-1])) (Aa rfl) Bg Ab (A8 ?_)
       refine A6 (A3 [14] A7 ⟨A8 ?_,trivial⟩)
       (repeat refine An ?_)
       refine A6 ?_
       refine Am A0 false 15 rfl rfl rfl A7 rfl (A4 B2) ?_
       refine A3 [16] A7 ⟨A8 ?_,trivial⟩
       refine Ao (j:=r2.2.2) A0 rfl rfl rfl rfl rfl rfl rfl rfl _ (Az (j:=r2.2.2.toNat) (xs:=r.2.2.nodes) (e:=Aq.c) (x:=⟨(r.2.2.nodes.getD r2.2.2.toNat default).kind,(r.2.2.nodes.getD r2.2.2.toNat default).a,(r.2.2.nodes.getD r2.2.2.toNat default).b,(r.2.2.nodes.getD r2.2.2.toNat default).outs++[r4.2.2-1]⟩) Ab rfl) (A8 ?_)
       refine A6 (Au A7 (A8 ?_))
     rotate_left 2
     focus
      refine A8 ?_
      refine C6 A0 rfl rfl rfl rfl rfl rfl (c:=At (r.2.2.nodes.getD r2.2.2.toNat default).outs) rfl (fun v=>go A0 false ?_)
      conv=>whnf
      refine A6 ?_
      refine A3 [1,12] A7 ⟨?_,?_,trivial⟩
      focus
       refine A8 ?_
       refine A6 (A3 [12] A7 ⟨A8 ?_,trivial⟩)
       refine A6 (A3 [13] A7 ⟨A8 ?_,trivial⟩)
       refine B1 A0 rfl rfl rfl rfl rfl rfl rfl rfl rfl rfl rfl (At ((r.2.2.nodes.getD r2.2.2.toNat default).outs++[r4.2.2-1])) (Aa rfl) Bg Ab (A8 ?_)
       refine A6 (A3 [14] A7 ⟨A8 ?_,trivial⟩)
       (repeat refine An ?_)
       refine A6 ?_
       refine Am A0 false 15 rfl rfl rfl A7 rfl (A4 B2) ?_
       refine A3 [16] A7 ⟨A8 ?_,trivial⟩
       refine Ao (j:=r2.2.2) A0 rfl rfl rfl rfl rfl rfl rfl rfl _ (Az (j:=r2.2.2.toNat) (xs:=r.2.2.nodes) (e:=Aq.c) (x:=⟨(r.2.2.nodes.getD r2.2.2.toNat default).kind,(r.2.2.nodes.getD r2.2.2.toNat default).a,(r.2.2.nodes.getD r2.2.2.toNat default).b,(r.2.2.nodes.getD r2.2.2.toNat default).outs++[r4.2.2-1]⟩) Ab rfl) (A8 ?_)
       refine A6 (Au A7 (A8 ?_))
      rotate_left 1
      focus
       refine A8 ?_
       refine A6 ?_
       refine A3 [1,13] A7 ⟨?_,?_,trivial⟩
       focus
        refine A8 ?_
        refine A6 (A3 [13] A7 ⟨A8 ?_,trivial⟩)
        refine B1 A0 rfl rfl rfl rfl rfl rfl rfl rfl rfl rfl rfl (At ((r.2.2.nodes.getD r2.2.2.toNat default).outs++[r4.2.2-1])) (Aa rfl) Bg Ab (A8 ?_)
        refine A6 (A3 [14] A7 ⟨A8 ?_,trivial⟩)
        (repeat refine An ?_)
        refine A6 ?_
        refine Am A0 false 15 rfl rfl rfl A7 rfl (A4 B2) ?_
        refine A3 [16] A7 ⟨A8 ?_,trivial⟩
        refine Ao (j:=r2.2.2) A0 rfl rfl rfl rfl rfl rfl rfl rfl _ (Az (j:=r2.2.2.toNat) (xs:=r.2.2.nodes) (e:=Aq.c) (x:=⟨(r.2.2.nodes.getD r2.2.2.toNat default).kind,(r.2.2.nodes.getD r2.2.2.toNat default).a,(r.2.2.nodes.getD r2.2.2.toNat default).b,(r.2.2.nodes.getD r2.2.2.toNat default).outs++[r4.2.2-1]⟩) Ab rfl) (A8 ?_)
        refine A6 (Au A7 (A8 ?_))
       rotate_left 1
       focus
        refine A8 ?_
        refine B1 A0 rfl rfl rfl rfl rfl rfl rfl rfl rfl rfl rfl (At ((r.2.2.nodes.getD r2.2.2.toNat default).outs++[r4.2.2-1])) (Aa rfl) Bg Ab (A8 ?_)
        refine A6 (A3 [1] A7 ⟨A8 ?_,trivial⟩)
        refine A6 (A3 [14] A7 ⟨A8 ?_,trivial⟩)
        (repeat refine An ?_)
        refine A6 ?_
        refine Am A0 false 15 rfl rfl rfl A7 rfl (A4 B2) ?_
        refine A3 [16] A7 ⟨A8 ?_,trivial⟩
        refine Ao (j:=r2.2.2) A0 rfl rfl rfl rfl rfl rfl rfl rfl _ (Az (j:=r2.2.2.toNat) (xs:=r.2.2.nodes) (e:=Aq.c) (x:=⟨(r.2.2.nodes.getD r2.2.2.toNat default).kind,(r.2.2.nodes.getD r2.2.2.toNat default).a,(r.2.2.nodes.getD r2.2.2.toNat default).b,(r.2.2.nodes.getD r2.2.2.toNat default).outs++[r4.2.2-1]⟩) Ab rfl) (A8 ?_)
        refine A6 (Au A7 (A8 ?_))
     rotate_left 3
     focus
      refine A8 ?_
      refine A6 ?_
      refine A3 [1,8] A7 ⟨?_,?_,trivial⟩
      focus
       refine A8 ?_
       refine A6 (A3 [8] A7 ⟨A8 ?_,trivial⟩)
       refine C6 A0 rfl rfl rfl rfl rfl rfl (c:=At (r.2.2.nodes.getD r2.2.2.toNat default).outs) rfl (fun v=>go A0 false ?_)
       conv=>whnf
       refine A6 (A3 [13] A7 ⟨A8 ?_,trivial⟩)
       refine B1 A0 rfl rfl rfl rfl rfl rfl rfl rfl rfl rfl rfl (At ((r.2.2.nodes.getD r2.2.2.toNat default).outs++[r4.2.2-1])) (Aa rfl) Bg Ab (A8 ?_)
       refine A6 (A3 [14] A7 ⟨A8 ?_,trivial⟩)
       (repeat refine An ?_)
       refine A6 ?_
       refine Am A0 false 15 rfl rfl rfl A7 rfl (A4 B2) ?_
       refine A3 [16] A7 ⟨A8 ?_,trivial⟩
       refine Ao (j:=r2.2.2) A0 rfl rfl rfl rfl rfl rfl rfl rfl _ (Az (j:=r2.2.2.toNat) (xs:=r.2.2.nodes) (e:=Aq.c) (x:=⟨(r.2.2.nodes.getD r2.2.2.toNat default).kind,(r.2.2.nodes.getD r2.2.2.toNat default).a,(r.2.2.nodes.getD r2.2.2.toNat default).b,(r.2.2.nodes.getD r2.2.2.toNat default).outs++[r4.2.2-1]⟩) Ab rfl) (A8 ?_)
       refine A6 (Au A7 (A8 ?_))
      rotate_left 1
      focus
       refine A8 ?_
       refine C6 A0 rfl rfl rfl rfl rfl rfl (c:=At (r.2.2.nodes.getD r2.2.2.toNat default).outs) rfl (fun v=>go A0 false ?_)
       conv=>whnf
       refine A6 ?_
       refine A3 [1,13] A7 ⟨?_,?_,trivial⟩
       focus
        refine A8 ?_
        refine A6 (A3 [13] A7 ⟨A8 ?_,trivial⟩)
        refine B1 A0 rfl rfl rfl rfl rfl rfl rfl rfl rfl rfl rfl (At ((r.2.2.nodes.getD r2.2.2.toNat default).outs++[r4.2.2-1])) (Aa rfl) Bg Ab (A8 ?_)
        refine A6 (A3 [14] A7 ⟨A8 ?_,trivial⟩)
        (repeat refine An ?_)
        refine A6 ?_
        refine Am A0 false 15 rfl rfl rfl A7 rfl (A4 B2) ?_
        refine A3 [16] A7 ⟨A8 ?_,trivial⟩
        refine Ao (j:=r2.2.2) A0 rfl rfl rfl rfl rfl rfl rfl rfl _ (Az (j:=r2.2.2.toNat) (xs:=r.2.2.nodes) (e:=Aq.c) (x:=⟨(r.2.2.nodes.getD r2.2.2.toNat default).kind,(r.2.2.nodes.getD r2.2.2.toNat default).a,(r.2.2.nodes.getD r2.2.2.toNat default).b,(r.2.2.nodes.getD r2.2.2.toNat default).outs++[r4.2.2-1]⟩) Ab rfl) (A8 ?_)
        refine A6 (Au A7 (A8 ?_))
       rotate_left 1
       focus
        refine A8 ?_
        refine B1 A0 rfl rfl rfl rfl rfl rfl rfl rfl rfl rfl rfl (At ((r.2.2.nodes.getD r2.2.2.toNat default).outs++[r4.2.2-1])) (Aa rfl) Bg Ab (A8 ?_)
        refine A6 (A3 [1] A7 ⟨A8 ?_,trivial⟩)
        refine A6 (A3 [14] A7 ⟨A8 ?_,trivial⟩)
        (repeat refine An ?_)
        refine A6 ?_
        refine Am A0 false 15 rfl rfl rfl A7 rfl (A4 B2) ?_
        refine A3 [16] A7 ⟨A8 ?_,trivial⟩
        refine Ao (j:=r2.2.2) A0 rfl rfl rfl rfl rfl rfl rfl rfl _ (Az (j:=r2.2.2.toNat) (xs:=r.2.2.nodes) (e:=Aq.c) (x:=⟨(r.2.2.nodes.getD r2.2.2.toNat default).kind,(r.2.2.nodes.getD r2.2.2.toNat default).a,(r.2.2.nodes.getD r2.2.2.toNat default).b,(r.2.2.nodes.getD r2.2.2.toNat default).outs++[r4.2.2-1]⟩) Ab rfl) (A8 ?_)
        refine A6 (Au A7 (A8 ?_))
   rotate_left 15
   focus
    refine A8 ?_
    refine Aj (Ai d r3.1 r3.2.1 9 hr3.1 Aw) hH hp rfl Ay rfl rfl (fun r4 hr4=>go A0 false ?_)
    conv=>whnf
    refine A6 ?_
    refine Am A0 false 11 rfl rfl rfl A7 rfl (A4 B2) ?_
    refine A3 [1,6,12] A7 ⟨?_,?_,?_,trivial⟩
    focus
     refine A8 ?_
     refine A6 ?_
     refine A3 [6,12] A7 ⟨?_,?_,trivial⟩
     focus
      refine A8 ?_
      (repeat refine An ?_)
      refine A6 ?_
      refine Am A0 false 7 rfl rfl rfl A7 rfl (A4 B2) ?_
      refine A3 [8,12] A7 ⟨?_,?_,trivial⟩
      focus
       refine A8 ?_
       refine C6 A0 rfl rfl rfl rfl rfl rfl (c:=At (r.2.2.nodes.getD r2.2.2.toNat default).outs) rfl (fun v=>go A0 false ?_)
       conv=>whnf
       refine A6 (A3 [12] A7 ⟨A8 ?_,trivial⟩)
       refine A6 (A3 [13] A7 ⟨A8 ?_,trivial⟩)
       refine B1 A0 rfl rfl rfl rfl rfl rfl rfl rfl rfl rfl rfl (At ((r.2.2.nodes.getD r2.2.2.toNat default).outs++[r4.2.2-1])) (Aa rfl) Bg Ab (A8 ?_)
       refine A6 (A3 [14] A7 ⟨A8 ?_,trivial⟩)
       (repeat refine An ?_)
       refine A6 ?_
       refine Am A0 false 15 rfl rfl rfl A7 rfl (A4 B2) ?_
       refine A3 [16] A7 ⟨A8 ?_,trivial⟩
       refine Ao (j:=r2.2.2) A0 rfl rfl rfl rfl rfl rfl rfl rfl _ (Az (j:=r2.2.2.toNat) (xs:=r.2.2.nodes) (e:=Aq.c) (x:=⟨(r.2.2.nodes.getD r2.2.2.toNat default).kind,(r.2.2.nodes.getD r2.2.2.toNat default).a,(r.2.2.nodes.getD r2.2.2.toNat default).b,(r.2.2.nodes.getD r2.2.2.toNat default).outs++[r4.2.2-1]⟩) Ab rfl) (A8 ?_)
       refine A6 (Au A7 (A8 ?_))
      rotate_left 1
      focus
       refine A8 ?_
       refine A6 (A3 [8] A7 ⟨A8 ?_,trivial⟩)
       refine C6 A0 rfl rfl rfl rfl rfl rfl (c:=At (r.2.2.nodes.getD r2.2.2.toNat default).outs) rfl (fun v=>go A0 false ?_)
       conv=>whnf
       refine A6 (A3 [13] A7 ⟨A8 ?_,trivial⟩)
       refine B1 A0 rfl rfl rfl rfl rfl rfl rfl rfl rfl rfl rfl (At ((r.2.2.nodes.getD r2.2.2.toNat default).outs++[r4.2.2-1])) (Aa rfl) Bg Ab (A8 ?_)
       refine A6 (A3 [14] A7 ⟨A8 ?_,trivial⟩)
       (repeat refine An ?_)
       refine A6 ?_
       refine Am A0 false 15 rfl rfl rfl A7 rfl (A4 B2) ?_
       refine A3 [16] A7 ⟨A8 ?_,trivial⟩
       refine Ao (j:=r2.2.2) A0 rfl rfl rfl rfl rfl rfl rfl rfl _ (Az (j:=r2.2.2.toNat) (xs:=r.2.2.nodes) (e:=Aq.c) (x:=⟨(r.2.2.nodes.getD r2.2.2.toNat default).kind,(r.2.2.nodes.getD r2.2.2.toNat default).a,(r.2.2.nodes.getD r2.2.2.toNat default).b,(r.2.2.nodes.getD r2.2.2.toNat default).outs++[r4.2.2-1]⟩) Ab rfl) (A8 ?_)
       refine A6 (Au A7 (A8 ?_))
     rotate_left 2
     focus
      refine A8 ?_
      refine A6 (A3 [6] A7 ⟨A8 ?_,trivial⟩)
      (repeat refine An ?_)
      refine A6 ?_
      refine Am A0 false 7 rfl rfl rfl A7 rfl (A4 B2) ?_
      refine A3 [8] A7 ⟨A8 ?_,trivial⟩
      refine C6 A0 rfl rfl rfl rfl rfl rfl (c:=At (r.2.2.nodes.getD r2.2.2.toNat default).outs) rfl (fun v=>go A0 false ?_)
      conv=>whnf
      refine A6 (A3 [13] A7 ⟨A8 ?_,trivial⟩)
      refine B1 A0 rfl rfl rfl rfl rfl rfl rfl rfl rfl rfl rfl (At ((r.2.2.nodes.getD r2.2.2.toNat default).outs++[r4.2.2-1])) (Aa rfl) Bg Ab (A8 ?_)
      refine A6 (A3 [14] A7 ⟨A8 ?_,trivial⟩)
      (repeat refine An ?_)
      refine A6 ?_
      refine Am A0 false 15 rfl rfl rfl A7 rfl (A4 B2) ?_
      refine A3 [16] A7 ⟨A8 ?_,trivial⟩
      refine Ao (j:=r2.2.2) A0 rfl rfl rfl rfl rfl rfl rfl rfl _ (Az (j:=r2.2.2.toNat) (xs:=r.2.2.nodes) (e:=Aq.c) (x:=⟨(r.2.2.nodes.getD r2.2.2.toNat default).kind,(r.2.2.nodes.getD r2.2.2.toNat default).a,(r.2.2.nodes.getD r2.2.2.toNat default).b,(r.2.2.nodes.getD r2.2.2.toNat default).outs++[r4.2.2-1]⟩) Ab rfl) (A8 ?_)
      refine A6 (Au A7 (A8 ?_))
    rotate_left 3
    focus
     refine A8 ?_
     (repeat refine An ?_)
     refine A6 ?_
     refine Am A0 false 7 rfl rfl rfl A7 rfl (A4 B2) ?_
     refine A3 [1,8,12] A7 ⟨?_,?_,?_,trivial⟩
     focus
      refine A8 ?_
      refine A6 ?_
      refine A3 [8,12] A7 ⟨?_,?_,trivial⟩
      focus
       refine A8 ?_
       refine C6 A0 rfl rfl rfl rfl rfl rfl (c:=At (r.2.2.nodes.getD r2.2.2.toNat default).outs) rfl (fun v=>go A0 false ?_)
       conv=>whnf
       refine A6 (A3 [12] A7 ⟨A8 ?_,trivial⟩)
       refine A6 (A3 [13] A7 ⟨A8 ?_,trivial⟩)
       refine B1 A0 rfl rfl rfl rfl rfl rfl rfl rfl rfl rfl rfl (At ((r.2.2.nodes.getD r2.2.2.toNat default).outs++[r4.2.2-1])) (Aa rfl) Bg Ab (A8 ?_)
       refine A6 (A3 [14] A7 ⟨A8 ?_,trivial⟩)
       (repeat refine An ?_)
       refine A6 ?_
       refine Am A0 false 15 rfl rfl rfl A7 rfl (A4 B2) ?_
       refine A3 [16] A7 ⟨A8 ?_,trivial⟩
       refine Ao (j:=r2.2.2) A0 rfl rfl rfl rfl rfl rfl rfl rfl _ (Az (j:=r2.2.2.toNat) (xs:=r.2.2.nodes) (e:=Aq.c) (x:=⟨(r.2.2.nodes.getD r2.2.2.toNat default).kind,(r.2.2.nodes.getD r2.2.2.toNat default).a,(r.2.2.nodes.getD r2.2.2.toNat default).b,(r.2.2.nodes.getD r2.2.2.toNat default).outs++[r4.2.2-1]⟩) Ab rfl) (A8 ?_)
       refine A6 (Au A7 (A8 ?_))
      rotate_left 1
      focus
       refine A8 ?_
       refine A6 (A3 [8] A7 ⟨A8 ?_,trivial⟩)
       refine C6 A0 rfl rfl rfl rfl rfl rfl (c:=At (r.2.2.nodes.getD r2.2.2.toNat default).outs) rfl (fun v=>go A0 false ?_)
       conv=>whnf
       refine A6 (A3 [13] A7 ⟨A8 ?_,trivial⟩)
       refine B1 A0 rfl rfl rfl rfl rfl rfl rfl rfl rfl rfl rfl (At ((r.2.2.nodes.getD r2.2.2.toNat default).outs++[r4.2.2-1])) (Aa rfl) Bg Ab (A8 ?_)
       refine A6 (A3 [14] A7 ⟨A8 ?_,trivial⟩)
       (repeat refine An ?_)
       refine A6 ?_
       refine Am A0 false 15 rfl rfl rfl A7 rfl (A4 B2) ?_
       refine A3 [16] A7 ⟨A8 ?_,trivial⟩
       refine Ao (j:=r2.2.2) A0 rfl rfl rfl rfl rfl rfl rfl rfl _ (Az (j:=r2.2.2.toNat) (xs:=r.2.2.nodes) (e:=Aq.c) (x:=⟨(r.2.2.nodes.getD r2.2.2.toNat default).kind,(r.2.2.nodes.getD r2.2.2.toNat default).a,(r.2.2.nodes.getD r2.2.2.toNat default).b,(r.2.2.nodes.getD r2.2.2.toNat default).outs++[r4.2.2-1]⟩) Ab rfl) (A8 ?_)
       refine A6 (Au A7 (A8 ?_))
     rotate_left 2
     focus
      refine A8 ?_
      refine C6 A0 rfl rfl rfl rfl rfl rfl (c:=At (r.2.2.nodes.getD r2.2.2.toNat default).outs) rfl (fun v=>go A0 false ?_)
      conv=>whnf
      refine A6 ?_
      refine A3 [1,12] A7 ⟨?_,?_,trivial⟩
      focus
       refine A8 ?_
       refine A6 (A3 [12] A7 ⟨A8 ?_,trivial⟩)
       refine A6 (A3 [13] A7 ⟨A8 ?_,trivial⟩)
       refine B1 A0 rfl rfl rfl rfl rfl rfl rfl rfl rfl rfl rfl (At ((r.2.2.nodes.getD r2.2.2.toNat default).outs++[r4.2.2-1])) (Aa rfl) Bg Ab (A8 ?_)
       refine A6 (A3 [14] A7 ⟨A8 ?_,trivial⟩)
       (repeat refine An ?_)
       refine A6 ?_
       refine Am A0 false 15 rfl rfl rfl A7 rfl (A4 B2) ?_
       refine A3 [16] A7 ⟨A8 ?_,trivial⟩
       refine Ao (j:=r2.2.2) A0 rfl rfl rfl rfl rfl rfl rfl rfl _ (Az (j:=r2.2.2.toNat) (xs:=r.2.2.nodes) (e:=Aq.c) (x:=⟨(r.2.2.nodes.getD r2.2.2.toNat default).kind,(r.2.2.nodes.getD r2.2.2.toNat default).a,(r.2.2.nodes.getD r2.2.2.toNat default).b,(r.2.2.nodes.getD r2.2.2.toNat default).outs++[r4.2.2-1]⟩) Ab rfl) (A8 ?_)
       refine A6 (Au A7 (A8 ?_))
      rotate_left 1
      focus
       refine A8 ?_
       refine A6 ?_
       refine A3 [1,13] A7 ⟨?_,?_,trivial⟩
       focus
        refine A8 ?_
        refine A6 (A3 [13] A7 ⟨A8 ?_,trivial⟩)
        refine B1 A0 rfl rfl rfl rfl rfl rfl rfl rfl rfl rfl rfl (At ((r.2.2.nodes.getD r2.2.2.toNat default).outs++[r4.2.2-1])) (Aa rfl) Bg Ab (A8 ?_)
        refine A6 (A3 [14] A7 ⟨A8 ?_,trivial⟩)
        (repeat refine An ?_)
        refine A6 ?_
        refine Am A0 false 15 rfl rfl rfl A7 rfl (A4 B2) ?_
        refine A3 [16] A7 ⟨A8 ?_,trivial⟩
        refine Ao (j:=r2.2.2) A0 rfl rfl rfl rfl rfl rfl rfl rfl _ (Az (j:=r2.2.2.toNat) (xs:=r.2.2.nodes) (e:=Aq.c) (x:=⟨(r.2.2.nodes.getD r2.2.2.toNat default).kind,(r.2.2.nodes.getD r2.2.2.toNat default).a,(r.2.2.nodes.getD r2.2.2.toNat default).b,(r.2.2.nodes.getD r2.2.2.toNat default).outs++[r4.2.2-1]⟩) Ab rfl) (A8 ?_)
        refine A6 (Au A7 (A8 ?_))
       rotate_left 1
       focus
        refine A8 ?_
        refine B1 A0 rfl rfl rfl rfl rfl rfl rfl rfl rfl rfl rfl (At ((r.2.2.nodes.getD r2.2.2.toNat default).outs++[r4.2.2-1])) (Aa rfl) Bg Ab (A8 ?_)
        refine A6 (A3 [1] A7 ⟨A8 ?_,trivial⟩)
        refine A6 (A3 [14] A7 ⟨A8 ?_,trivial⟩)
        (repeat refine An ?_)
        refine A6 ?_
        refine Am A0 false 15 rfl rfl rfl A7 rfl (A4 B2) ?_
        refine A3 [16] A7 ⟨A8 ?_,trivial⟩
        refine Ao (j:=r2.2.2) A0 rfl rfl rfl rfl rfl rfl rfl rfl _ (Az (j:=r2.2.2.toNat) (xs:=r.2.2.nodes) (e:=Aq.c) (x:=⟨(r.2.2.nodes.getD r2.2.2.toNat default).kind,(r.2.2.nodes.getD r2.2.2.toNat default).a,(r.2.2.nodes.getD r2.2.2.toNat default).b,(r.2.2.nodes.getD r2.2.2.toNat default).outs++[r4.2.2-1]⟩) Ab rfl) (A8 ?_)
        refine A6 (Au A7 (A8 ?_))
     rotate_left 3
     focus
      refine A8 ?_
      refine A6 ?_
      refine A3 [1,8] A7 ⟨?_,?_,trivial⟩
      focus
       refine A8 ?_
       refine A6 (A3 [8] A7 ⟨A8 ?_,trivial⟩)
       refine C6 A0 rfl rfl rfl rfl rfl rfl (c:=At (r.2.2.nodes.getD r2.2.2.toNat default).outs) rfl (fun v=>go A0 false ?_)
       conv=>whnf
       refine A6 (A3 [13] A7 ⟨A8 ?_,trivial⟩)
       refine B1 A0 rfl rfl rfl rfl rfl rfl rfl rfl rfl rfl rfl (At ((r.2.2.nodes.getD r2.2.2.toNat default).outs++[r4.2.2-1])) (Aa rfl) Bg Ab (A8 ?_)
       refine A6 (A3 [14] A7 ⟨A8 ?_,trivial⟩)
       (repeat refine An ?_)
       refine A6 ?_
       refine Am A0 false 15 rfl rfl rfl A7 rfl (A4 B2) ?_
       refine A3 [16] A7 ⟨A8 ?_,trivial⟩
       refine Ao (j:=r2.2.2) A0 rfl rfl rfl rfl rfl rfl rfl rfl _ (Az (j:=r2.2.2.toNat) (xs:=r.2.2.nodes) (e:=Aq.c) (x:=⟨(r.2.2.nodes.getD r2.2.2.toNat default).kind,(r.2.2.nodes.getD r2.2.2.toNat default).a,(r.2.2.nodes.getD r2.2.2.toNat default).b,(r.2.2.nodes.getD r2.2.2.toNat default).outs++[r4.2.2-1]⟩) Ab rfl) (A8 ?_)
       refine A6 (Au A7 (A8 ?_))
      rotate_left 1
      focus
       refine A8 ?_
       refine C6 A0 rfl rfl rfl rfl rfl rfl (c:=At (r.2.2.nodes.getD r2.2.2.toNat default).outs) rfl (fun v=>go A0 false ?_)
       conv=>whnf
       refine A6 ?_
       refine A3 [1,13] A7 ⟨?_,?_,trivial⟩
       focus
        refine A8 ?_
        refine A6 (A3 [13] A7 ⟨A8 ?_,trivial⟩)
        refine B1 A0 rfl rfl rfl rfl rfl rfl rfl rfl rfl rfl rfl (At ((r.2.2.nodes.getD r2.2.2.toNat default).outs++[r4.2.2-1])) (Aa rfl) Bg Ab (A8 ?_)
        refine A6 (A3 [14] A7 ⟨A8 ?_,trivial⟩)
        (repeat refine An ?_)
        refine A6 ?_
        refine Am A0 false 15 rfl rfl rfl A7 rfl (A4 B2) ?_
        refine A3 [16] A7 ⟨A8 ?_,trivial⟩
        refine Ao (j:=r2.2.2) A0 rfl rfl rfl rfl rfl rfl rfl rfl _ (Az (j:=r2.2.2.toNat) (xs:=r.2.2.nodes) (e:=Aq.c) (x:=⟨(r.2.2.nodes.getD r2.2.2.toNat default).kind,(r.2.2.nodes.getD r2.2.2.toNat default).a,(r.2.2.nodes.getD r2.2.2.toNat default).b,(r.2.2.nodes.getD r2.2.2.toNat default).outs++[r4.2.2-1]⟩) Ab rfl) (A8 ?_)
        refine A6 (Au A7 (A8 ?_))
       rotate_left 1
       focus
        refine A8 ?_
        refine B1 A0 rfl rfl rfl rfl rfl rfl rfl rfl rfl rfl rfl (At ((r.2.2.nodes.getD r2.2.2.toNat default).outs++[r4.2.2-1])) (Aa rfl) Bg Ab (A8 ?_)
        refine A6 (A3 [1] A7 ⟨A8 ?_,trivial⟩)
        refine A6 (A3 [14] A7 ⟨A8 ?_,trivial⟩)
        (repeat refine An ?_)
        refine A6 ?_
        refine Am A0 false 15 rfl rfl rfl A7 rfl (A4 B2) ?_
        refine A3 [16] A7 ⟨A8 ?_,trivial⟩
        refine Ao (j:=r2.2.2) A0 rfl rfl rfl rfl rfl rfl rfl rfl _ (Az (j:=r2.2.2.toNat) (xs:=r.2.2.nodes) (e:=Aq.c) (x:=⟨(r.2.2.nodes.getD r2.2.2.toNat default).kind,(r.2.2.nodes.getD r2.2.2.toNat default).a,(r.2.2.nodes.getD r2.2.2.toNat default).b,(r.2.2.nodes.getD r2.2.2.toNat default).outs++[r4.2.2-1]⟩) Ab rfl) (A8 ?_)
        refine A6 (Au A7 (A8 ?_))
    rotate_left 8
    focus
     refine A8 ?_
     refine A6 ?_
     refine A3 [1,6] A7 ⟨?_,?_,trivial⟩
     focus
      refine A8 ?_
      refine A6 (A3 [6] A7 ⟨A8 ?_,trivial⟩)
      (repeat refine An ?_)
      refine A6 ?_
      refine Am A0 false 7 rfl rfl rfl A7 rfl (A4 B2) ?_
      refine A3 [8] A7 ⟨A8 ?_,trivial⟩
      refine C6 A0 rfl rfl rfl rfl rfl rfl (c:=At (r.2.2.nodes.getD r2.2.2.toNat default).outs) rfl (fun v=>go A0 false ?_)
      conv=>whnf
      refine A6 (A3 [13] A7 ⟨A8 ?_,trivial⟩)
      refine B1 A0 rfl rfl rfl rfl rfl rfl rfl rfl rfl rfl rfl (At ((r.2.2.nodes.getD r2.2.2.toNat default).outs++[r4.2.2-1])) (Aa rfl) Bg Ab (A8 ?_)
      refine A6 (A3 [14] A7 ⟨A8 ?_,trivial⟩)
      (repeat refine An ?_)
      refine A6 ?_
      refine Am A0 false 15 rfl rfl rfl A7 rfl (A4 B2) ?_
      refine A3 [16] A7 ⟨A8 ?_,trivial⟩
      refine Ao (j:=r2.2.2) A0 rfl rfl rfl rfl rfl rfl rfl rfl _ (Az (j:=r2.2.2.toNat) (xs:=r.2.2.nodes) (e:=Aq.c) (x:=⟨(r.2.2.nodes.getD r2.2.2.toNat default).kind,(r.2.2.nodes.getD r2.2.2.toNat default).a,(r.2.2.nodes.getD r2.2.2.toNat default).b,(r.2.2.nodes.getD r2.2.2.toNat default).outs++[r4.2.2-1]⟩) Ab rfl) (A8 ?_)
      refine A6 (Au A7 (A8 ?_))
     rotate_left 1
     focus
      refine A8 ?_
      (repeat refine An ?_)
      refine A6 ?_
      refine Am A0 false 7 rfl rfl rfl A7 rfl (A4 B2) ?_
      refine A3 [1,8] A7 ⟨?_,?_,trivial⟩
      focus
       refine A8 ?_
       refine A6 (A3 [8] A7 ⟨A8 ?_,trivial⟩)
       refine C6 A0 rfl rfl rfl rfl rfl rfl (c:=At (r.2.2.nodes.getD r2.2.2.toNat default).outs) rfl (fun v=>go A0 false ?_)
       conv=>whnf
       refine A6 (A3 [13] A7 ⟨A8 ?_,trivial⟩)
       refine B1 A0 rfl rfl rfl rfl rfl rfl rfl rfl rfl rfl rfl (At ((r.2.2.nodes.getD r2.2.2.toNat default).outs++[r4.2.2-1])) (Aa rfl) Bg Ab (A8 ?_)
       refine A6 (A3 [14] A7 ⟨A8 ?_,trivial⟩)
       (repeat refine An ?_)
       refine A6 ?_
       refine Am A0 false 15 rfl rfl rfl A7 rfl (A4 B2) ?_
       refine A3 [16] A7 ⟨A8 ?_,trivial⟩
       refine Ao (j:=r2.2.2) A0 rfl rfl rfl rfl rfl rfl rfl rfl _ (Az (j:=r2.2.2.toNat) (xs:=r.2.2.nodes) (e:=Aq.c) (x:=⟨(r.2.2.nodes.getD r2.2.2.toNat default).kind,(r.2.2.nodes.getD r2.2.2.toNat default).a,(r.2.2.nodes.getD r2.2.2.toNat default).b,(r.2.2.nodes.getD r2.2.2.toNat default).outs++[r4.2.2-1]⟩) Ab rfl) (A8 ?_)
       refine A6 (Au A7 (A8 ?_))
      rotate_left 1
      focus
       refine A8 ?_
       refine C6 A0 rfl rfl rfl rfl rfl rfl (c:=At (r.2.2.nodes.getD r2.2.2.toNat default).outs) rfl (fun v=>go A0 false ?_)
       conv=>whnf
       refine A6 ?_
       refine A3 [1,13] A7 ⟨?_,?_,trivial⟩
       focus
        refine A8 ?_
        refine A6 (A3 [13] A7 ⟨A8 ?_,trivial⟩)
        refine B1 A0 rfl rfl rfl rfl rfl rfl rfl rfl rfl rfl rfl (At ((r.2.2.nodes.getD r2.2.2.toNat default).outs++[r4.2.2-1])) (Aa rfl) Bg Ab (A8 ?_)
        refine A6 (A3 [14] A7 ⟨A8 ?_,trivial⟩)
        (repeat refine An ?_)
        refine A6 ?_
        refine Am A0 false 15 rfl rfl rfl A7 rfl (A4 B2) ?_
        refine A3 [16] A7 ⟨A8 ?_,trivial⟩
        refine Ao (j:=r2.2.2) A0 rfl rfl rfl rfl rfl rfl rfl rfl _ (Az (j:=r2.2.2.toNat) (xs:=r.2.2.nodes) (e:=Aq.c) (x:=⟨(r.2.2.nodes.getD r2.2.2.toNat default).kind,(r.2.2.nodes.getD r2.2.2.toNat default).a,(r.2.2.nodes.getD r2.2.2.toNat default).b,(r.2.2.nodes.getD r2.2.2.toNat default).outs++[r4.2.2-1]⟩) Ab rfl) (A8 ?_)
        refine A6 (Au A7 (A8 ?_))
       rotate_left 1
       focus
        refine A8 ?_
        refine B1 A0 rfl rfl rfl rfl rfl rfl rfl rfl rfl rfl rfl (At ((r.2.2.nodes.getD r2.2.2.toNat default).outs++[r4.2.2-1])) (Aa rfl) Bg Ab (A8 ?_)
        refine A6 (A3 [1] A7 ⟨A8 ?_,trivial⟩)
        refine A6 (A3 [14] A7 ⟨A8 ?_,trivial⟩)
        (repeat refine An ?_)
        refine A6 ?_
        refine Am A0 false 15 rfl rfl rfl A7 rfl (A4 B2) ?_
        refine A3 [16] A7 ⟨A8 ?_,trivial⟩
        refine Ao (j:=r2.2.2) A0 rfl rfl rfl rfl rfl rfl rfl rfl _ (Az (j:=r2.2.2.toNat) (xs:=r.2.2.nodes) (e:=Aq.c) (x:=⟨(r.2.2.nodes.getD r2.2.2.toNat default).kind,(r.2.2.nodes.getD r2.2.2.toNat default).a,(r.2.2.nodes.getD r2.2.2.toNat default).b,(r.2.2.nodes.getD r2.2.2.toNat default).outs++[r4.2.2-1]⟩) Ab rfl) (A8 ?_)
        refine A6 (Au A7 (A8 ?_))
  rotate_left 36
  focus
   refine A8 ?_
   refine Aj (Ai d r3.1 r3.2.1 9 hr3.1 Aw) hH hp rfl Ay rfl rfl (fun r4 hr4=>go A0 false ?_)
   conv=>whnf
   refine A6 ?_
   refine Am A0 false 11 rfl rfl rfl A7 rfl (A4 B2) ?_
   refine A3 [1,4,12] A7 ⟨?_,?_,?_,trivial⟩
   focus
    refine A8 ?_
    refine A6 ?_
    refine A3 [4,12] A7 ⟨?_,?_,trivial⟩
    focus
     refine A8 ?_
     refine A6 ?_
     refine A3 [6,12] A7 ⟨?_,?_,trivial⟩
     focus
      refine A8 ?_
      (repeat refine An ?_)
      refine A6 ?_
      refine Am A0 false 7 rfl rfl rfl A7 rfl (A4 B2) ?_
      refine A3 [8,12] A7 ⟨?_,?_,trivial⟩
      focus
       refine A8 ?_
       refine C6 A0 rfl rfl rfl rfl rfl rfl (c:=At (r.2.2.nodes.getD r2.2.2.toNat default).outs) rfl (fun v=>go A0 false ?_)
       conv=>whnf
       refine A6 (A3 [12] A7 ⟨A8 ?_,trivial⟩)
       refine A6 (A3 [13] A7 ⟨A8 ?_,trivial⟩)
       refine B1 A0 rfl rfl rfl rfl rfl rfl rfl rfl rfl rfl rfl (At ((r.2.2.nodes.getD r2.2.2.toNat default).outs++[r4.2.2-1])) (Aa rfl) Bg Ab (A8 ?_)
       refine A6 (A3 [14] A7 ⟨A8 ?_,trivial⟩)
       (repeat refine An ?_)
       refine A6 ?_
       refine Am A0 false 15 rfl rfl rfl A7 rfl (A4 B2) ?_
       refine A3 [16] A7 ⟨A8 ?_,trivial⟩
       refine Ao (j:=r2.2.2) A0 rfl rfl rfl rfl rfl rfl rfl rfl _ (Az (j:=r2.2.2.toNat) (xs:=r.2.2.nodes) (e:=Aq.c) (x:=⟨(r.2.2.nodes.getD r2.2.2.toNat default).kind,(r.2.2.nodes.getD r2.2.2.toNat default).a,(r.2.2.nodes.getD r2.2.2.toNat default).b,(r.2.2.nodes.getD r2.2.2.toNat default).outs++[r4.2.2-1]⟩) Ab rfl) (A8 ?_)
       refine A6 (Au A7 (A8 ?_))
      rotate_left 1
      focus
       refine A8 ?_
       refine A6 (A3 [8] A7 ⟨A8 ?_,trivial⟩)
       refine C6 A0 rfl rfl rfl rfl rfl rfl (c:=At (r.2.2.nodes.getD r2.2.2.toNat default).outs) rfl (fun v=>go A0 false ?_)
       conv=>whnf
       refine A6 (A3 [13] A7 ⟨A8 ?_,trivial⟩)
       refine B1 A0 rfl rfl rfl rfl rfl rfl rfl rfl rfl rfl rfl (At ((r.2.2.nodes.getD r2.2.2.toNat default).outs++[r4.2.2-1])) (Aa rfl) Bg Ab (A8 ?_)
       refine A6 (A3 [14] A7 ⟨A8 ?_,trivial⟩)
       (repeat refine An ?_)
       refine A6 ?_
       refine Am A0 false 15 rfl rfl rfl A7 rfl (A4 B2) ?_
       refine A3 [16] A7 ⟨A8 ?_,trivial⟩
       refine Ao (j:=r2.2.2) A0 rfl rfl rfl rfl rfl rfl rfl rfl _ (Az (j:=r2.2.2.toNat) (xs:=r.2.2.nodes) (e:=Aq.c) (x:=⟨(r.2.2.nodes.getD r2.2.2.toNat default).kind,(r.2.2.nodes.getD r2.2.2.toNat default).a,(r.2.2.nodes.getD r2.2.2.toNat default).b,(r.2.2.nodes.getD r2.2.2.toNat default).outs++[r4.2.2-1]⟩) Ab rfl) (A8 ?_)
       refine A6 (Au A7 (A8 ?_))
     rotate_left 2
     focus
      refine A8 ?_
      refine A6 (A3 [6] A7 ⟨A8 ?_,trivial⟩)
      (repeat refine An ?_)
      refine A6 ?_
      refine Am A0 false 7 rfl rfl rfl A7 rfl (A4 B2) ?_
      refine A3 [8] A7 ⟨A8 ?_,trivial⟩
      refine C6 A0 rfl rfl rfl rfl rfl rfl (c:=At (r.2.2.nodes.getD r2.2.2.toNat default).outs) rfl (fun v=>go A0 false ?_)
      conv=>whnf
      refine A6 (A3 [13] A7 ⟨A8 ?_,trivial⟩)
      refine B1 A0 rfl rfl rfl rfl rfl rfl rfl rfl rfl rfl rfl (At ((r.2.2.nodes.getD r2.2.2.toNat default).outs++[r4.2.2-1])) (Aa rfl) Bg Ab (A8 ?_)
      refine A6 (A3 [14] A7 ⟨A8 ?_,trivial⟩)
      (repeat refine An ?_)
      refine A6 ?_
      refine Am A0 false 15 rfl rfl rfl A7 rfl (A4 B2) ?_
      refine A3 [16] A7 ⟨A8 ?_,trivial⟩
      refine Ao (j:=r2.2.2) A0 rfl rfl rfl rfl rfl rfl rfl rfl _ (Az (j:=r2.2.2.toNat) (xs:=r.2.2.nodes) (e:=Aq.c) (x:=⟨(r.2.2.nodes.getD r2.2.2.toNat default).kind,(r.2.2.nodes.getD r2.2.2.toNat default).a,(r.2.2.nodes.getD r2.2.2.toNat default).b,(r.2.2.nodes.getD r2.2.2.toNat default).outs++[r4.2.2-1]⟩) Ab rfl) (A8 ?_)
      refine A6 (Au A7 (A8 ?_))
    rotate_left 3
    focus
     refine A8 ?_
     refine A6 (A3 [4] A7 ⟨A8 ?_,trivial⟩)
     refine A6 (A3 [6] A7 ⟨A8 ?_,trivial⟩)
     (repeat refine An ?_)
     refine A6 ?_
     refine Am A0 false 7 rfl rfl rfl A7 rfl (A4 B2) ?_
     refine A3 [8] A7 ⟨A8 ?_,trivial⟩
     refine C6 A0 rfl rfl rfl rfl rfl rfl (c:=At (r.2.2.nodes.getD r2.2.2.toNat default).outs) rfl (fun v=>go A0 false ?_)
     conv=>whnf
     refine A6 (A3 [13] A7 ⟨A8 ?_,trivial⟩)
     refine B1 A0 rfl rfl rfl rfl rfl rfl rfl rfl rfl rfl rfl (At ((r.2.2.nodes.getD r2.2.2.toNat default).outs++[r4.2.2-1])) (Aa rfl) Bg Ab (A8 ?_)
     refine A6 (A3 [14] A7 ⟨A8 ?_,trivial⟩)
     (repeat refine An ?_)
     refine A6 ?_
     refine Am A0 false 15 rfl rfl rfl A7 rfl (A4 B2) ?_
     refine A3 [16] A7 ⟨A8 ?_,trivial⟩
     refine Ao (j:=r2.2.2) A0 rfl rfl rfl rfl rfl rfl rfl rfl _ (Az (j:=r2.2.2.toNat) (xs:=r.2.2.nodes) (e:=Aq.c) (x:=⟨(r.2.2.nodes.getD r2.2.2.toNat default).kind,(r.2.2.nodes.getD r2.2.2.toNat default).a,(r.2.2.nodes.getD r2.2.2.toNat default).b,(r.2.2.nodes.getD r2.2.2.toNat default).outs++[r4.2.2-1]⟩) Ab rfl) (A8 ?_)
     refine A6 (Au A7 (A8 ?_))
   rotate_left 4
   focus
    refine A8 ?_
    refine A6 ?_
    refine A3 [1,6,12] A7 ⟨?_,?_,?_,trivial⟩
    focus
     refine A8 ?_
     refine A6 ?_
     refine A3 [6,12] A7 ⟨?_,?_,trivial⟩
     focus
      refine A8 ?_
      (repeat refine An ?_)
      refine A6 ?_
      refine Am A0 false 7 rfl rfl rfl A7 rfl (A4 B2) ?_
      refine A3 [8,12] A7 ⟨?_,?_,trivial⟩
      focus
       refine A8 ?_
       refine C6 A0 rfl rfl rfl rfl rfl rfl (c:=At (r.2.2.nodes.getD r2.2.2.toNat default).outs) rfl (fun v=>go A0 false ?_)
       conv=>whnf
       refine A6 (A3 [12] A7 ⟨A8 ?_,trivial⟩)
       refine A6 (A3 [13] A7 ⟨A8 ?_,trivial⟩)
       refine B1 A0 rfl rfl rfl rfl rfl rfl rfl rfl rfl rfl rfl (At ((r.2.2.nodes.getD r2.2.2.toNat default).outs++[r4.2.2-1])) (Aa rfl) Bg Ab (A8 ?_)
       refine A6 (A3 [14] A7 ⟨A8 ?_,trivial⟩)
       (repeat refine An ?_)
       refine A6 ?_
       refine Am A0 false 15 rfl rfl rfl A7 rfl (A4 B2) ?_
       refine A3 [16] A7 ⟨A8 ?_,trivial⟩
       refine Ao (j:=r2.2.2) A0 rfl rfl rfl rfl rfl rfl rfl rfl _ (Az (j:=r2.2.2.toNat) (xs:=r.2.2.nodes) (e:=Aq.c) (x:=⟨(r.2.2.nodes.getD r2.2.2.toNat default).kind,(r.2.2.nodes.getD r2.2.2.toNat default).a,(r.2.2.nodes.getD r2.2.2.toNat default).b,(r.2.2.nodes.getD r2.2.2.toNat default).outs++[r4.2.2-1]⟩) Ab rfl) (A8 ?_)
       refine A6 (Au A7 (A8 ?_))
      rotate_left 1
      focus
       refine A8 ?_
       refine A6 (A3 [8] A7 ⟨A8 ?_,trivial⟩)
       refine C6 A0 rfl rfl rfl rfl rfl rfl (c:=At (r.2.2.nodes.getD r2.2.2.toNat default).outs) rfl (fun v=>go A0 false ?_)
       conv=>whnf
       refine A6 (A3 [13] A7 ⟨A8 ?_,trivial⟩)
       refine B1 A0 rfl rfl rfl rfl rfl rfl rfl rfl rfl rfl rfl (At ((r.2.2.nodes.getD r2.2.2.toNat default).outs++[r4.2.2-1])) (Aa rfl) Bg Ab (A8 ?_)
       refine A6 (A3 [14] A7 ⟨A8 ?_,trivial⟩)
       (repeat refine An ?_)
       refine A6 ?_
       refine Am A0 false 15 rfl rfl rfl A7 rfl (A4 B2) ?_
       refine A3 [16] A7 ⟨A8 ?_,trivial⟩
       refine Ao (j:=r2.2.2) A0 rfl rfl rfl rfl rfl rfl rfl rfl _ (Az (j:=r2.2.2.toNat) (xs:=r.2.2.nodes) (e:=Aq.c) (x:=⟨(r.2.2.nodes.getD r2.2.2.toNat default).kind,(r.2.2.nodes.getD r2.2.2.toNat default).a,(r.2.2.nodes.getD r2.2.2.toNat default).b,(r.2.2.nodes.getD r2.2.2.toNat default).outs++[r4.2.2-1]⟩) Ab rfl) (A8 ?_)
       refine A6 (Au A7 (A8 ?_))
     rotate_left 2
     focus
      refine A8 ?_
      refine A6 (A3 [6] A7 ⟨A8 ?_,trivial⟩)
      (repeat refine An ?_)
      refine A6 ?_
      refine Am A0 false 7 rfl rfl rfl A7 rfl (A4 B2) ?_
      refine A3 [8] A7 ⟨A8 ?_,trivial⟩
      refine C6 A0 rfl rfl rfl rfl rfl rfl (c:=At (r.2.2.nodes.getD r2.2.2.toNat default).outs) rfl (fun v=>go A0 false ?_)
      conv=>whnf
      refine A6 (A3 [13] A7 ⟨A8 ?_,trivial⟩)
      refine B1 A0 rfl rfl rfl rfl rfl rfl rfl rfl rfl rfl rfl (At ((r.2.2.nodes.getD r2.2.2.toNat default).outs++[r4.2.2-1])) (Aa rfl) Bg Ab (A8 ?_)
      refine A6 (A3 [14] A7 ⟨A8 ?_,trivial⟩)
      (repeat refine An ?_)
      refine A6 ?_
      refine Am A0 false 15 rfl rfl rfl A7 rfl (A4 B2) ?_
      refine A3 [16] A7 ⟨A8 ?_,trivial⟩
      refine Ao (j:=r2.2.2) A0 rfl rfl rfl rfl rfl rfl rfl rfl _ (Az (j:=r2.2.2.toNat) (xs:=r.2.2.nodes) (e:=Aq.c) (x:=⟨(r.2.2.nodes.getD r2.2.2.toNat default).kind,(r.2.2.nodes.getD r2.2.2.toNat default).a,(r.2.2.nodes.getD r2.2.2.toNat default).b,(r.2.2.nodes.getD r2.2.2.toNat default).outs++[r4.2.2-1]⟩) Ab rfl) (A8 ?_)
      refine A6 (Au A7 (A8 ?_))
    rotate_left 3
    focus
     refine A8 ?_
     (repeat refine An ?_)
     refine A6 ?_
     refine Am A0 false 7 rfl rfl rfl A7 rfl (A4 B2) ?_
     refine A3 [1,8,12] A7 ⟨?_,?_,?_,trivial⟩
     focus
      refine A8 ?_
      refine A6 ?_
      refine A3 [8,12] A7 ⟨?_,?_,trivial⟩
      focus
       refine A8 ?_
       refine C6 A0 rfl rfl rfl rfl rfl rfl (c:=At (r.2.2.nodes.getD r2.2.2.toNat default).outs) rfl (fun v=>go A0 false ?_)
       conv=>whnf
       refine A6 (A3 [12] A7 ⟨A8 ?_,trivial⟩)
       refine A6 (A3 [13] A7 ⟨A8 ?_,trivial⟩)
       refine B1 A0 rfl rfl rfl rfl rfl rfl rfl rfl rfl rfl rfl (At ((r.2.2.nodes.getD r2.2.2.toNat default).outs++[r4.2.2-1])) (Aa rfl) Bg Ab (A8 ?_)
       refine A6 (A3 [14] A7 ⟨A8 ?_,trivial⟩)
       (repeat refine An ?_)
       refine A6 ?_
       refine Am A0 false 15 rfl rfl rfl A7 rfl (A4 B2) ?_
       refine A3 [16] A7 ⟨A8 ?_,trivial⟩
       refine Ao (j:=r2.2.2) A0 rfl rfl rfl rfl rfl rfl rfl rfl _ (Az (j:=r2.2.2.toNat) (xs:=r.2.2.nodes) (e:=Aq.c) (x:=⟨(r.2.2.nodes.getD r2.2.2.toNat default).kind,(r.2.2.nodes.getD r2.2.2.toNat default).a,(r.2.2.nodes.getD r2.2.2.toNat default).b,(r.2.2.nodes.getD r2.2.2.toNat default).outs++[r4.2.2-1]⟩) Ab rfl) (A8 ?_)
       refine A6 (Au A7 (A8 ?_))
      rotate_left 1
      focus
       refine A8 ?_
       refine A6 (A3 [8] A7 ⟨A8 ?_,trivial⟩)
       refine C6 A0 rfl rfl rfl rfl rfl rfl (c:=At (r.2.2.nodes.getD r2.2.2.toNat default).outs) rfl (fun v=>go A0 false ?_)
       conv=>whnf
       refine A6 (A3 [13] A7 ⟨A8 ?_,trivial⟩)
       refine B1 A0 rfl rfl rfl rfl rfl rfl rfl rfl rfl rfl rfl (At ((r.2.2.nodes.getD r2.2.2.toNat default).outs++[r4.2.2-1])) (Aa rfl) Bg Ab (A8 ?_)
       refine A6 (A3 [14] A7 ⟨A8 ?_,trivial⟩)
       (repeat refine An ?_)
       refine A6 ?_
       refine Am A0 false 15 rfl rfl rfl A7 rfl (A4 B2) ?_
       refine A3 [16] A7 ⟨A8 ?_,trivial⟩
       refine Ao (j:=r2.2.2) A0 rfl rfl rfl rfl rfl rfl rfl rfl _ (Az (j:=r2.2.2.toNat) (xs:=r.2.2.nodes) (e:=Aq.c) (x:=⟨(r.2.2.nodes.getD r2.2.2.toNat default).kind,(r.2.2.nodes.getD r2.2.2.toNat default).a,(r.2.2.nodes.getD r2.2.2.toNat default).b,(r.2.2.nodes.getD r2.2.2.toNat default).outs++[r4.2.2-1]⟩) Ab rfl) (A8 ?_)
       refine A6 (Au A7 (A8 ?_))
     rotate_left 2
     focus
      refine A8 ?_
      refine C6 A0 rfl rfl rfl rfl rfl rfl (c:=At (r.2.2.nodes.getD r2.2.2.toNat default).outs) rfl (fun v=>go A0 false ?_)
      conv=>whnf
      refine A6 ?_
      refine A3 [1,12] A7 ⟨?_,?_,trivial⟩
      focus
       refine A8 ?_
       refine A6 (A3 [12] A7 ⟨A8 ?_,trivial⟩)
       refine A6 (A3 [13] A7 ⟨A8 ?_,trivial⟩)
       refine B1 A0 rfl rfl rfl rfl rfl rfl rfl rfl rfl rfl rfl (At ((r.2.2.nodes.getD r2.2.2.toNat default).outs++[r4.2.2-1])) (Aa rfl) Bg Ab (A8 ?_)
       refine A6 (A3 [14] A7 ⟨A8 ?_,trivial⟩)
       (repeat refine An ?_)
       refine A6 ?_
       refine Am A0 false 15 rfl rfl rfl A7 rfl (A4 B2) ?_
       refine A3 [16] A7 ⟨A8 ?_,trivial⟩
       refine Ao (j:=r2.2.2) A0 rfl rfl rfl rfl rfl rfl rfl rfl _ (Az (j:=r2.2.2.toNat) (xs:=r.2.2.nodes) (e:=Aq.c) (x:=⟨(r.2.2.nodes.getD r2.2.2.toNat default).kind,(r.2.2.nodes.getD r2.2.2.toNat default).a,(r.2.2.nodes.getD r2.2.2.toNat default).b,(r.2.2.nodes.getD r2.2.2.toNat default).outs++[r4.2.2-1]⟩) Ab rfl) (A8 ?_)
       refine A6 (Au A7 (A8 ?_))
      rotate_left 1
      focus
       refine A8 ?_
       refine A6 ?_
       refine A3 [1,13] A7 ⟨?_,?_,trivial⟩
       focus
        refine A8 ?_
        refine A6 (A3 [13] A7 ⟨A8 ?_,trivial⟩)
        refine B1 A0 rfl rfl rfl rfl rfl rfl rfl rfl rfl rfl rfl (At ((r.2.2.nodes.getD r2.2.2.toNat default).outs++[r4.2.2-1])) (Aa rfl) Bg Ab (A8 ?_)
        refine A6 (A3 [14] A7 ⟨A8 ?_,trivial⟩)
        (repeat refine An ?_)
        refine A6 ?_
        refine Am A0 false 15 rfl rfl rfl A7 rfl (A4 B2) ?_
        refine A3 [16] A7 ⟨A8 ?_,trivial⟩
        refine Ao (j:=r2.2.2) A0 rfl rfl rfl rfl rfl rfl rfl rfl _ (Az (j:=r2.2.2.toNat) (xs:=r.2.2.nodes) (e:=Aq.c) (x:=⟨(r.2.2.nodes.getD r2.2.2.toNat default).kind,(r.2.2.nodes.getD r2.2.2.toNat default).a,(r.2.2.nodes.getD r2.2.2.toNat default).b,(r.2.2.nodes.getD r2.2.2.toNat default).outs++[r4.2.2-1]⟩) Ab rfl) (A8 ?_)
        refine A6 (Au A7 (A8 ?_))
       rotate_left 1
       focus
        refine A8 ?_
        refine B1 A0 rfl rfl rfl rfl rfl rfl rfl rfl rfl rfl rfl (At ((r.2.2.nodes.getD r2.2.2.toNat default).outs++[r4.2.2-1])) (Aa rfl) Bg Ab (A8 ?_)
        refine A6 (A3 [1] A7 ⟨A8 ?_,trivial⟩)
        refine A6 (A3 [14] A7 ⟨A8 ?_,trivial⟩)
        (repeat refine An ?_)
        refine A6 ?_
        refine Am A0 false 15 rfl rfl rfl A7 rfl (A4 B2) ?_
        refine A3 [16] A7 ⟨A8 ?_,trivial⟩
        refine Ao (j:=r2.2.2) A0 rfl rfl rfl rfl rfl rfl rfl rfl _ (Az (j:=r2.2.2.toNat) (xs:=r.2.2.nodes) (e:=Aq.c) (x:=⟨(r.2.2.nodes.getD r2.2.2.toNat default).kind,(r.2.2.nodes.getD r2.2.2.toNat default).a,(r.2.2.nodes.getD r2.2.2.toNat default).b,(r.2.2.nodes.getD r2.2.2.toNat default).outs++[r4.2.2-1]⟩) Ab rfl) (A8 ?_)
        refine A6 (Au A7 (A8 ?_))
     rotate_left 3
     focus
      refine A8 ?_
      refine A6 ?_
      refine A3 [1,8] A7 ⟨?_,?_,trivial⟩
      focus
       refine A8 ?_
       refine A6 (A3 [8] A7 ⟨A8 ?_,trivial⟩)
       refine C6 A0 rfl rfl rfl rfl rfl rfl (c:=At (r.2.2.nodes.getD r2.2.2.toNat default).outs) rfl (fun v=>go A0 false ?_)
       conv=>whnf
       refine A6 (A3 [13] A7 ⟨A8 ?_,trivial⟩)
       refine B1 A0 rfl rfl rfl rfl rfl rfl rfl rfl rfl rfl rfl (At ((r.2.2.nodes.getD r2.2.2.toNat default).outs++[r4.2.2-1])) (Aa rfl) Bg Ab (A8 ?_)
       refine A6 (A3 [14] A7 ⟨A8 ?_,trivial⟩)
       (repeat refine An ?_)
       refine A6 ?_
       refine Am A0 false 15 rfl rfl rfl A7 rfl (A4 B2) ?_
       refine A3 [16] A7 ⟨A8 ?_,trivial⟩
       refine Ao (j:=r2.2.2) A0 rfl rfl rfl rfl rfl rfl rfl rfl _ (Az (j:=r2.2.2.toNat) (xs:=r.2.2.nodes) (e:=Aq.c) (x:=⟨(r.2.2.nodes.getD r2.2.2.toNat default).kind,(r.2.2.nodes.getD r2.2.2.toNat default).a,(r.2.2.nodes.getD r2.2.2.toNat default).b,(r.2.2.nodes.getD r2.2.2.toNat default).outs++[r4.2.2-1]⟩) Ab rfl) (A8 ?_)
       refine A6 (Au A7 (A8 ?_))
      rotate_left 1
      focus
       refine A8 ?_
       refine C6 A0 rfl rfl rfl rfl rfl rfl (c:=At (r.2.2.nodes.getD r2.2.2.toNat default).outs) rfl (fun v=>go A0 false ?_)
       conv=>whnf
       refine A6 ?_
       refine A3 [1,13] A7 ⟨?_,?_,trivial⟩
       focus
        refine A8 ?_
        refine A6 (A3 [13] A7 ⟨A8 ?_,trivial⟩)
        refine B1 A0 rfl rfl rfl rfl rfl rfl rfl rfl rfl rfl rfl (At ((r.2.2.nodes.getD r2.2.2.toNat default).outs++[r4.2.2-1])) (Aa rfl) Bg Ab (A8 ?_)
        refine A6 (A3 [14] A7 ⟨A8 ?_,trivial⟩)
        (repeat refine An ?_)
        refine A6 ?_
        refine Am A0 false 15 rfl rfl rfl A7 rfl (A4 B2) ?_
        refine A3 [16] A7 ⟨A8 ?_,trivial⟩
        refine Ao (j:=r2.2.2) A0 rfl rfl rfl rfl rfl rfl rfl rfl _ (Az (j:=r2.2.2.toNat) (xs:=r.2.2.nodes) (e:=Aq.c) (x:=⟨(r.2.2.nodes.getD r2.2.2.toNat default).kind,(r.2.2.nodes.getD r2.2.2.toNat default).a,(r.2.2.nodes.getD r2.2.2.toNat default).b,(r.2.2.nodes.getD r2.2.2.toNat default).outs++[r4.2.2-1]⟩) Ab rfl) (A8 ?_)
        refine A6 (Au A7 (A8 ?_))
       rotate_left 1
       focus
        refine A8 ?_
        refine B1 A0 rfl rfl rfl rfl rfl rfl rfl rfl rfl rfl rfl (At ((r.2.2.nodes.getD r2.2.2.toNat default).outs++[r4.2.2-1])) (Aa rfl) Bg Ab (A8 ?_)
        refine A6 (A3 [1] A7 ⟨A8 ?_,trivial⟩)
        refine A6 (A3 [14] A7 ⟨A8 ?_,trivial⟩)
        (repeat refine An ?_)
        refine A6 ?_
        refine Am A0 false 15 rfl rfl rfl A7 rfl (A4 B2) ?_
        refine A3 [16] A7 ⟨A8 ?_,trivial⟩
        refine Ao (j:=r2.2.2) A0 rfl rfl rfl rfl rfl rfl rfl rfl _ (Az (j:=r2.2.2.toNat) (xs:=r.2.2.nodes) (e:=Aq.c) (x:=⟨(r.2.2.nodes.getD r2.2.2.toNat default).kind,(r.2.2.nodes.getD r2.2.2.toNat default).a,(r.2.2.nodes.getD r2.2.2.toNat default).b,(r.2.2.nodes.getD r2.2.2.toNat default).outs++[r4.2.2-1]⟩) Ab rfl) (A8 ?_)
        refine A6 (Au A7 (A8 ?_))
    rotate_left 8
    focus
     refine A8 ?_
     refine A6 ?_
     refine A3 [1,6] A7 ⟨?_,?_,trivial⟩
     focus
      refine A8 ?_
      refine A6 (A3 [6] A7 ⟨A8 ?_,trivial⟩)
      (repeat refine An ?_)
      refine A6 ?_
      refine Am A0 false 7 rfl rfl rfl A7 rfl (A4 B2) ?_
      refine A3 [8] A7 ⟨A8 ?_,trivial⟩
      refine C6 A0 rfl rfl rfl rfl rfl rfl (c:=At (r.2.2.nodes.getD r2.2.2.toNat default).outs) rfl (fun v=>go A0 false ?_)
      conv=>whnf
      refine A6 (A3 [13] A7 ⟨A8 ?_,trivial⟩)
      refine B1 A0 rfl rfl rfl rfl rfl rfl rfl rfl rfl rfl rfl (At ((r.2.2.nodes.getD r2.2.2.toNat default).outs++[r4.2.2-1])) (Aa rfl) Bg Ab (A8 ?_)
      refine A6 (A3 [14] A7 ⟨A8 ?_,trivial⟩)
      (repeat refine An ?_)
      refine A6 ?_
      refine Am A0 false 15 rfl rfl rfl A7 rfl (A4 B2) ?_
      refine A3 [16] A7 ⟨A8 ?_,trivial⟩
      refine Ao (j:=r2.2.2) A0 rfl rfl rfl rfl rfl rfl rfl rfl _ (Az (j:=r2.2.2.toNat) (xs:=r.2.2.nodes) (e:=Aq.c) (x:=⟨(r.2.2.nodes.getD r2.2.2.toNat default).kind,(r.2.2.nodes.getD r2.2.2.toNat default).a,(r.2.2.nodes.getD r2.2.2.toNat default).b,(r.2.2.nodes.getD r2.2.2.toNat default).outs++[r4.2.2-1]⟩) Ab rfl) (A8 ?_)
      refine A6 (Au A7 (A8 ?_))
     rotate_left 1
     focus
      refine A8 ?_
      (repeat refine An ?_)
      refine A6 ?_
      refine Am A0 false 7 rfl rfl rfl A7 rfl (A4 B2) ?_
      refine A3 [1,8] A7 ⟨?_,?_,trivial⟩
      focus
       refine A8 ?_
       refine A6 (A3 [8] A7 ⟨A8 ?_,trivial⟩)
       refine C6 A0 rfl rfl rfl rfl rfl rfl (c:=At (r.2.2.nodes.getD r2.2.2.toNat default).outs) rfl (fun v=>go A0 false ?_)
       conv=>whnf
       refine A6 (A3 [13] A7 ⟨A8 ?_,trivial⟩)
       refine B1 A0 rfl rfl rfl rfl rfl rfl rfl rfl rfl rfl rfl (At ((r.2.2.nodes.getD r2.2.2.toNat default).outs++[r4.2.2-1])) (Aa rfl) Bg Ab (A8 ?_)
       refine A6 (A3 [14] A7 ⟨A8 ?_,trivial⟩)
       (repeat refine An ?_)
       refine A6 ?_
       refine Am A0 false 15 rfl rfl rfl A7 rfl (A4 B2) ?_
       refine A3 [16] A7 ⟨A8 ?_,trivial⟩
       refine Ao (j:=r2.2.2) A0 rfl rfl rfl rfl rfl rfl rfl rfl _ (Az (j:=r2.2.2.toNat) (xs:=r.2.2.nodes) (e:=Aq.c) (x:=⟨(r.2.2.nodes.getD r2.2.2.toNat default).kind,(r.2.2.nodes.getD r2.2.2.toNat default).a,(r.2.2.nodes.getD r2.2.2.toNat default).b,(r.2.2.nodes.getD r2.2.2.toNat default).outs++[r4.2.2-1]⟩) Ab rfl) (A8 ?_)
       refine A6 (Au A7 (A8 ?_))
      rotate_left 1
      focus
       refine A8 ?_
       refine C6 A0 rfl rfl rfl rfl rfl rfl (c:=At (r.2.2.nodes.getD r2.2.2.toNat default).outs) rfl (fun v=>go A0 false ?_)
       conv=>whnf
       refine A6 ?_
       refine A3 [1,13] A7 ⟨?_,?_,trivial⟩
       focus
        refine A8 ?_
        refine A6 (A3 [13] A7 ⟨A8 ?_,trivial⟩)
        refine B1 A0 rfl rfl rfl rfl rfl rfl rfl rfl rfl rfl rfl (At ((r.2.2.nodes.getD r2.2.2.toNat default).outs++[r4.2.2-1])) (Aa rfl) Bg Ab (A8 ?_)
        refine A6 (A3 [14] A7 ⟨A8 ?_,trivial⟩)
        (repeat refine An ?_)
        refine A6 ?_
        refine Am A0 false 15 rfl rfl rfl A7 rfl (A4 B2) ?_
        refine A3 [16] A7 ⟨A8 ?_,trivial⟩
        refine Ao (j:=r2.2.2) A0 rfl rfl rfl rfl rfl rfl rfl rfl _ (Az (j:=r2.2.2.toNat) (xs:=r.2.2.nodes) (e:=Aq.c) (x:=⟨(r.2.2.nodes.getD r2.2.2.toNat default).kind,(r.2.2.nodes.getD r2.2.2.toNat default).a,(r.2.2.nodes.getD r2.2.2.toNat default).b,(r.2.2.nodes.getD r2.2.2.toNat default).outs++[r4.2.2-1]⟩) Ab rfl) (A8 ?_)
        refine A6 (Au A7 (A8 ?_))
       rotate_left 1
       focus
        refine A8 ?_
        refine B1 A0 rfl rfl rfl rfl rfl rfl rfl rfl rfl rfl rfl (At ((r.2.2.nodes.getD r2.2.2.toNat default).outs++[r4.2.2-1])) (Aa rfl) Bg Ab (A8 ?_)
        refine A6 (A3 [1] A7 ⟨A8 ?_,trivial⟩)
        refine A6 (A3 [14] A7 ⟨A8 ?_,trivial⟩)
        (repeat refine An ?_)
        refine A6 ?_
        refine Am A0 false 15 rfl rfl rfl A7 rfl (A4 B2) ?_
        refine A3 [16] A7 ⟨A8 ?_,trivial⟩
        refine Ao (j:=r2.2.2) A0 rfl rfl rfl rfl rfl rfl rfl rfl _ (Az (j:=r2.2.2.toNat) (xs:=r.2.2.nodes) (e:=Aq.c) (x:=⟨(r.2.2.nodes.getD r2.2.2.toNat default).kind,(r.2.2.nodes.getD r2.2.2.toNat default).a,(r.2.2.nodes.getD r2.2.2.toNat default).b,(r.2.2.nodes.getD r2.2.2.toNat default).outs++[r4.2.2-1]⟩) Ab rfl) (A8 ?_)
        refine A6 (Au A7 (A8 ?_))
   rotate_left 15
   focus
    refine A8 ?_
    refine A6 ?_
    refine A3 [1,4] A7 ⟨?_,?_,trivial⟩
    focus
     refine A8 ?_
     refine A6 (A3 [4] A7 ⟨A8 ?_,trivial⟩)
     refine A6 (A3 [6] A7 ⟨A8 ?_,trivial⟩)
     (repeat refine An ?_)
     refine A6 ?_
     refine Am A0 false 7 rfl rfl rfl A7 rfl (A4 B2) ?_
     refine A3 [8] A7 ⟨A8 ?_,trivial⟩
     refine C6 A0 rfl rfl rfl rfl rfl rfl (c:=At (r.2.2.nodes.getD r2.2.2.toNat default).outs) rfl (fun v=>go A0 false ?_)
     conv=>whnf
     refine A6 (A3 [13] A7 ⟨A8 ?_,trivial⟩)
     refine B1 A0 rfl rfl rfl rfl rfl rfl rfl rfl rfl rfl rfl (At ((r.2.2.nodes.getD r2.2.2.toNat default).outs++[r4.2.2-1])) (Aa rfl) Bg Ab (A8 ?_)
     refine A6 (A3 [14] A7 ⟨A8 ?_,trivial⟩)
     (repeat refine An ?_)
     refine A6 ?_
     refine Am A0 false 15 rfl rfl rfl A7 rfl (A4 B2) ?_
     refine A3 [16] A7 ⟨A8 ?_,trivial⟩
     refine Ao (j:=r2.2.2) A0 rfl rfl rfl rfl rfl rfl rfl rfl _ (Az (j:=r2.2.2.toNat) (xs:=r.2.2.nodes) (e:=Aq.c) (x:=⟨(r.2.2.nodes.getD r2.2.2.toNat default).kind,(r.2.2.nodes.getD r2.2.2.toNat default).a,(r.2.2.nodes.getD r2.2.2.toNat default).b,(r.2.2.nodes.getD r2.2.2.toNat default).outs++[r4.2.2-1]⟩) Ab rfl) (A8 ?_)
     refine A6 (Au A7 (A8 ?_))
    rotate_left 1
    focus
     refine A8 ?_
     refine A6 ?_
     refine A3 [1,6] A7 ⟨?_,?_,trivial⟩
     focus
      refine A8 ?_
      refine A6 (A3 [6] A7 ⟨A8 ?_,trivial⟩)
      (repeat refine An ?_)
      refine A6 ?_
      refine Am A0 false 7 rfl rfl rfl A7 rfl (A4 B2) ?_
      refine A3 [8] A7 ⟨A8 ?_,trivial⟩
      refine C6 A0 rfl rfl rfl rfl rfl rfl (c:=At (r.2.2.nodes.getD r2.2.2.toNat default).outs) rfl (fun v=>go A0 false ?_)
      conv=>whnf
      refine A6 (A3 [13] A7 ⟨A8 ?_,trivial⟩)
      refine B1 A0 rfl rfl rfl rfl rfl rfl rfl rfl rfl rfl rfl (At ((r.2.2.nodes.getD r2.2.2.toNat default).outs++[r4.2.2-1])) (Aa rfl) Bg Ab (A8 ?_)
      refine A6 (A3 [14] A7 ⟨A8 ?_,trivial⟩)
      (repeat refine An ?_)
      refine A6 ?_
      refine Am A0 false 15 rfl rfl rfl A7 rfl (A4 B2) ?_
      refine A3 [16] A7 ⟨A8 ?_,trivial⟩
      refine Ao (j:=r2.2.2) A0 rfl rfl rfl rfl rfl rfl rfl rfl _ (Az (j:=r2.2.2.toNat) (xs:=r.2.2.nodes) (e:=Aq.c) (x:=⟨(r.2.2.nodes.getD r2.2.2.toNat default).kind,(r.2.2.nodes.getD r2.2.2.toNat default).a,(r.2.2.nodes.getD r2.2.2.toNat default).b,(r.2.2.nodes.getD r2.2.2.toNat default).outs++[r4.2.2-1]⟩) Ab rfl) (A8 ?_)
      refine A6 (Au A7 (A8 ?_))
     rotate_left 1
     focus
      refine A8 ?_
      (repeat refine An ?_)
      refine A6 ?_
      refine Am A0 false 7 rfl rfl rfl A7 rfl (A4 B2) ?_
      refine A3 [1,8] A7 ⟨?_,?_,trivial⟩
      focus
       refine A8 ?_
       refine A6 (A3 [8] A7 ⟨A8 ?_,trivial⟩)
       refine C6 A0 rfl rfl rfl rfl rfl rfl (c:=At (r.2.2.nodes.getD r2.2.2.toNat default).outs) rfl (fun v=>go A0 false ?_)
       conv=>whnf
       refine A6 (A3 [13] A7 ⟨A8 ?_,trivial⟩)
       refine B1 A0 rfl rfl rfl rfl rfl rfl rfl rfl rfl rfl rfl (At ((r.2.2.nodes.getD r2.2.2.toNat default).outs++[r4.2.2-1])) (Aa rfl) Bg Ab (A8 ?_)
       refine A6 (A3 [14] A7 ⟨A8 ?_,trivial⟩)
       (repeat refine An ?_)
       refine A6 ?_
       refine Am A0 false 15 rfl rfl rfl A7 rfl (A4 B2) ?_
       refine A3 [16] A7 ⟨A8 ?_,trivial⟩
       refine Ao (j:=r2.2.2) A0 rfl rfl rfl rfl rfl rfl rfl rfl _ (Az (j:=r2.2.2.toNat) (xs:=r.2.2.nodes) (e:=Aq.c) (x:=⟨(r.2.2.nodes.getD r2.2.2.toNat default).kind,(r.2.2.nodes.getD r2.2.2.toNat default).a,(r.2.2.nodes.getD r2.2.2.toNat default).b,(r.2.2.nodes.getD r2.2.2.toNat default).outs++[r4.2.2-1]⟩) Ab rfl) (A8 ?_)
       refine A6 (Au A7 (A8 ?_))
      rotate_left 1
      focus
       refine A8 ?_
       refine C6 A0 rfl rfl rfl rfl rfl rfl (c:=At (r.2.2.nodes.getD r2.2.2.toNat default).outs) rfl (fun v=>go A0 false ?_)
       conv=>whnf
       refine A6 ?_
       refine A3 [1,13] A7 ⟨?_,?_,trivial⟩
       focus
        refine A8 ?_
        refine A6 (A3 [13] A7 ⟨A8 ?_,trivial⟩)
        refine B1 A0 rfl rfl rfl rfl rfl rfl rfl rfl rfl rfl rfl (At ((r.2.2.nodes.getD r2.2.2.toNat default).outs++[r4.2.2-1])) (Aa rfl) Bg Ab (A8 ?_)
        refine A6 (A3 [14] A7 ⟨A8 ?_,trivial⟩)
        (repeat refine An ?_)
        refine A6 ?_
        refine Am A0 false 15 rfl rfl rfl A7 rfl (A4 B2) ?_
        refine A3 [16] A7 ⟨A8 ?_,trivial⟩
        refine Ao (j:=r2.2.2) A0 rfl rfl rfl rfl rfl rfl rfl rfl _ (Az (j:=r2.2.2.toNat) (xs:=r.2.2.nodes) (e:=Aq.c) (x:=⟨(r.2.2.nodes.getD r2.2.2.toNat default).kind,(r.2.2.nodes.getD r2.2.2.toNat default).a,(r.2.2.nodes.getD r2.2.2.toNat default).b,(r.2.2.nodes.getD r2.2.2.toNat default).outs++[r4.2.2-1]⟩) Ab rfl) (A8 ?_)
        refine A6 (Au A7 (A8 ?_))
       rotate_left 1
       focus
        refine A8 ?_
        refine B1 A0 rfl rfl rfl rfl rfl rfl rfl rfl rfl rfl rfl (At ((r.2.2.nodes.getD r2.2.2.toNat default).outs++[r4.2.2-1])) (Aa rfl) Bg Ab (A8 ?_)
        refine A6 (A3 [1] A7 ⟨A8 ?_,trivial⟩)
        refine A6 (A3 [14] A7 ⟨A8 ?_,trivial⟩)
        (repeat refine An ?_)
        refine A6 ?_
        refine Am A0 false 15 rfl rfl rfl A7 rfl (A4 B2) ?_
        refine A3 [16] A7 ⟨A8 ?_,trivial⟩
        refine Ao (j:=r2.2.2) A0 rfl rfl rfl rfl rfl rfl rfl rfl _ (Az (j:=r2.2.2.toNat) (xs:=r.2.2.nodes) (e:=Aq.c) (x:=⟨(r.2.2.nodes.getD r2.2.2.toNat default).kind,(r.2.2.nodes.getD r2.2.2.toNat default).a,(r.2.2.nodes.getD r2.2.2.toNat default).b,(r.2.2.nodes.getD r2.2.2.toNat default).outs++[r4.2.2-1]⟩) Ab rfl) (A8 ?_)
        refine A6 (Au A7 (A8 ?_))
  all_goals
   have h4:=hr4.2.2.2 Aw
   have h5:=hr4.2.1
   exact Bl A0 (r4.1,r4.2.1,⟨r.2.2.nodes.set r2.2.2.toNat ⟨(r.2.2.nodes.getD r2.2.2.toNat default).kind,(r.2.2.nodes.getD r2.2.2.toNat default).a,(r.2.2.nodes.getD r2.2.2.toNat default).b,(r.2.2.nodes.getD r2.2.2.toNat default).outs++[r4.2.2-1]⟩,r.2.2.workers,r.2.2.cap⟩) ⟨hr4.1,Io (A0u hm ((A5o (m:=10) ⟨hx.1,hx2⟩ Aw (Dp Ab Ab)).m Aw)) (by rw [List.length_set];omega) (Dp Ab Ab) (Dp Ab Ab)⟩ rfl rfl rfl rfl Ay
 repeat refine Bj ?_
 refine ⟨fun c4=>?_,fun c4=>?_⟩<;>conv=>whnf
 ·repeat refine Bj ?_
  refine C0 A0 false [6,9] (fun j:JGr=>[]) (fun j=>[⟨0,[.c (.val d.v),.c (vi j.i),.c (vi j.h)]⟩,⟨3,[.own 2,.c (vi r.2.2.workers),.c (vi r.2.2.cap)]⟩,⟨1,[.c (.val (.slice none 0 0)),.c (vi 0),.c (vi 0)]⟩]) (fun j=>[⟨2,Bp j.xs⟩]) (fun j=>(0≤j.i∧j.i≤d.n)∧W2 j.xs∧j.xs.length≤9) (fun j=>9-j.xs.length) (⟨r3.1,r3.2.1,r.2.2.nodes⟩) (⟨hr3.1,hm,Nat.le_trans hl.2 Aw⟩) trivial Cf ⟨Eu,trivial⟩ Cr A7 (fun j hj=>?_)
  conv=>whnf
  obtain ⟨hi2,hm2,hl2⟩:=hj
  refine Fq rfl ?_
  refine Am A0 false 0 rfl rfl rfl A7 rfl (A4 B2) ?_
  refine Am A0 false 3 rfl rfl rfl A7 rfl (A4 B2) ?_
  refine A3 [1,4] A7 ⟨?_,?_,trivial⟩
  focus
   refine A8 ?_
   refine A6 ?_
   refine A3 [2,4] A7 ⟨?_,?_,trivial⟩
   focus
    refine A8 ?_
    refine A6 (A3 [4] A7 ⟨A8 ?_,trivial⟩)
    refine Aj (Ai d j.i j.h 2 hi2 Aw) hH hp rfl Ay rfl rfl (fun r9 hr9=>go A0 false ?_)
    conv=>whnf
    refine A6 ?_
    refine Am A0 false 5 rfl rfl rfl A7 rfl (A4 B2) ?_
    refine Am A0 false 6 rfl rfl rfl A7 rfl (A4 B2) ?_
    refine Au A7 (A8 ?_)
   rotate_left 1
   focus
    refine A8 ?_
    refine Aj (Ai d j.i j.h 2 hi2 Aw) hH hp rfl Ay rfl rfl (fun r9 hr9=>go A0 false ?_)
    conv=>whnf
    refine A6 ?_
    refine Am A0 false 5 rfl rfl rfl A7 rfl (A4 B2) ?_
    refine A3 [2] A7 ⟨A8 ?_,trivial⟩
    refine A6 ?_
    refine Am A0 false 6 rfl rfl rfl A7 rfl (A4 B2) ?_
    refine Au A7 (A8 ?_)
  rotate_left 2
  focus
   refine A8 ?_
   refine Aj (Ai d j.i j.h 2 hi2 Aw) hH hp rfl Ay rfl rfl (fun r9 hr9=>go A0 false ?_)
   conv=>whnf
   refine A6 ?_
   refine Am A0 false 5 rfl rfl rfl A7 rfl (A4 B2) ?_
   refine A3 [1] A7 ⟨A8 ?_,trivial⟩
   refine A6 (A3 [2] A7 ⟨A8 ?_,trivial⟩)
   refine A6 ?_
   refine Am A0 false 6 rfl rfl rfl A7 rfl (A4 B2) ?_
   refine Au A7 (A8 ?_)
  all_goals
   have hn9:=hr9.2.2.2 Aw
   have hn8:=hr9.2.1
   (repeat refine An ?_)
   refine Fi (fun hlt=>?_) fun hlt=>?_<;>conv=>whnf
   ·refine Ed 4 (Bp [⟨8,0,0,[]⟩]) rfl (H1 rfl A0q) ?_
    refine B1 A0 rfl rfl rfl rfl rfl rfl rfl rfl rfl rfl rfl (Bp (j.xs++[⟨8,0,0,[]⟩])) (Aa (xs:=j.xs) (x:=⟨8,0,0,[]⟩) (e:=Aq.c) rfl) Bg (by simp only [List.length_cons,List.length_nil];omega) (A8 ?_)
    refine B9 [(2,5)] (⟨r9.1,r9.2.1,j.xs++[⟨8,0,0,[]⟩]⟩) (⟨hr9.1,A6l hm2 B6v,by rw [List.length_append];show _+1≤9;omega⟩) (by show 9-(j.xs++[(⟨8,0,0,[]⟩:Aq)]).length<_;rw [List.length_append];show 9-(_+1)<_;omega) trivial ⟨rfl,trivial⟩ Cf A7 Cr A7
   exact Bl A0 (r9.1,r9.2.1,⟨j.xs,r.2.2.workers,r.2.2.cap⟩) ⟨hr9.1,Io hm2 Ab (Dp Ab Ab) (Dp Ab Ab)⟩ rfl rfl rfl rfl Ay
 repeat refine Bj ?_
 refine ⟨fun c5=>?_,fun c5=>?_⟩<;>conv=>whnf
 ·repeat refine Bj ?_
  refine B1e A0 rfl rfl rfl rfl rfl rfl rfl rfl rfl ⟨hk0,by omega⟩ Ab _ rfl (A8 ?_)
  refine L9 4 (Bp (r.2.2.nodes.take r2.2.2.toNat)) rfl (A6r Ab) ?_
  exact Bl A0 (r3.1,r3.2.1,⟨r.2.2.nodes.take r2.2.2.toNat,r.2.2.workers,r.2.2.cap⟩) ⟨hr3.1,Io (A6m _ hm) (by rw [List.length_take];omega) (Dp Ab Ab) (Dp Ab Ab)⟩ rfl rfl rfl rfl Ay
 repeat refine Bj ?_
 exact Bl A0 (r3.1,r3.2.1,r.2.2) ⟨hr3.1,Io (ns:=r.2.2.nodes) (a:=r.2.2.workers) (b:=r.2.2.cap) hm Ab (Dp Ab Ab) (Dp Ab Ab)⟩ rfl rfl rfl rfl Ay
end Go.Proofs.YtdendlkeiaccpaaGreatDoor
