/- Part 34 of the proof that each of the laws FnColours returns true for every input. No conditions. -/
import Derived.Test.YtdendlkeiaccpaaGreatDoorP4
import Derived.Test.YtdendlkeiaccpaaGreatDoorP33
import Derived.Test.YtdendlkeiaccpaaGreatDoorP27

set_option linter.unusedSimpArgs false
set_option linter.unusedVariables false
set_option maxRecDepth 100000
namespace Go.Proofs.YtdendlkeiaccpaaGreatDoor
open Go.Sx
def A2j (x:Av):Prop:=x.ok∧x.outs.length≤20
def Xw (xs:List Av):Prop:=∀x∈xs,A2j x
theorem Kr.m {m:Nat}{x:Av}(h:Kr m x)(hm:m≤20):A2j x:=⟨h.1,Nat.le_trans h.2 hm⟩
theorem Xg {x:Av}(h:St x):x.ok∧x.outs.length≤10:=by
 obtain ⟨h1,h2,h3,h4,h5⟩:=h
 exact ⟨⟨Ds Ac Ac,Ds Ac Ac,Ds Ac Ac,by rw [maxLen];omega,fun n hn=>by have:=h5 n hn;exact Ds Ac Ac⟩,h4⟩
theorem B46 {xs:List Av}(h:A0d xs):Xw xs:=fun x hx=>⟨(Xg (h x hx)).1,Nat.le_trans (Xg (h x hx)).2 Az⟩
theorem A81 {x:Av}{xs:List Av}(hs:Xw xs)(h:A2j x):Xw (xs++[x]):=fun y hy=>by
 rcases List.mem_append.1 hy with hy|hy
 ·exact hs y hy
 rw [List.mem_singleton.1 hy];exact h
theorem A2q {x:Av}{xs:List Av}{j:Nat}(hs:Xw xs)(h:A2j x):Xw (xs.set j x):=fun y hy=>by
 rcases List.mem_or_eq_of_mem_set hy with hy|rfl
 ·exact hs y hy
 exact h
theorem A82 {xs:List Av}(k:Nat)(hs:Xw xs):Xw (xs.take k):=fun y hy=>hs y (List.mem_of_mem_take hy)
def B09 (g:Aq):Prop:=g.ok∧g.w≤1000
theorem A8p:∀{xs:List Av},Xw xs→(xs.map Av.w).sum≤20 * xs.length
 | [],_=>Nat.le_refl _
 |x::r,h=>by
  have h1:x.w≤20:=(h x (List.mem_cons_self ..)).2
  have h2:=A8p fun y hy=>h y (List.mem_cons_of_mem _ hy)
  rw [List.map_cons,List.sum_cons,List.length_cons]
  omega
theorem Jr {ns:List Av}{a b:Int}(h:Xw ns)(hl:ns.length≤10)(ha:Eu .i64 a)(hb:Eu .i64 b):B09 ⟨ns,a,b⟩:=by
 refine ⟨⟨⟨by show ns.length≤maxLen;rw [maxLen];omega,fun x hx=>(h x hx).1⟩,ha,hb⟩,?_⟩
 have:=A8p h
 show ns.length+(ns.map Av.w).sum≤1000
 omega
theorem B7 {α:Type} [Inhabited α] {es:Nat}{e:α→List Af}{xs:List α}{j off:Nat}{v:Value}{x:α}{cs:List Af}(hj:j<xs.length)(h:Dc (Dc (e (xs.getD j default)) off [.val v]) off cs=e x):
  Nz xs.length es (fun i=>if i=j then Dc (e (xs.getD i default)) off [.val v] else e (xs.getD i default)) j off cs (Kq es e (xs.set j x)):=by
 refine ⟨_,by rw [Kq,List.length_set],fun i hi hne=>?_,?_⟩
 ·simp only [if_neg hne,Go.Sx.getD_set_ne _ _ _ _ _ hne]
 simp only [if_true,h,Go.Sx.getD_set_self _ _ _ _ hj]
theorem A86 {α:Type} [Inhabited α] {es:Nat}{e:α→List Af}{xs:List α}{m:Nat}(hm:m≤xs.length):Hk (.sl m es fun i=>e (xs.getD i default)) (Kq es e (xs.take m)):=by
 have hl:(xs.take m).length=m:=by rw [List.length_take];omega
 refine ⟨hl,rfl,fun i hi=>?_⟩
 have:(xs.take m).getD i default=xs.getD i default:=by
  simp [List.getD,hi]
 show Gi _ (e ((xs.take m).getD i default))
 rw [this]
 exact Gi.rfl' _
theorem B9h:A2j ⟨8,0,0,[]⟩:=by
 refine ⟨⟨Ds Az Az,Ds Az Az,Ds Az Az,Nat.zero_le _,fun n hn=>by cases hn⟩,Nat.zero_le _⟩
structure JGr where
 i:Int
 h:Int
 xs:List Av
set_option maxHeartbeats 4000000 in
theorem A21 (d:E4)(i h:Int)(hi:0≤i∧i≤d.n):Dd Tryz.prog HT 122 d.pins (d.cur i h) [] (fun r:Int×Int×Aq=>(0≤r.1∧r.1≤d.n)∧B09 r.2.2) (fun r=>d.cur r.1 r.2.1) (fun r=>[.agg r.2.2.c]):=by
 refine Dp A0 false Tryz.func122 rfl Az fun B b hH hp=>?_
 conv=>whnf
 refine Ak (A9d d i h hi) hH hp rfl B1 rfl rfl (fun r hr=>go A0 false ?_)
 conv=>whnf
 obtain ⟨hr1,_,hn,hl,hw,hc⟩:=hr
 have hm:=B46 hn
 refine Ak (Ai d r.1 r.2.1 r.2.2.nodes.length hr1 Ac) hH hp rfl B1 rfl rfl (fun r2 hr2=>go A0 false ?_)
 conv=>whnf
 have hk:=hr2.2.2.2 Ac
 have hk0:=hr2.2.1
 refine Ak (Ai d r2.1 r2.2.1 12 hr2.1 Az) hH hp rfl B1 rfl rfl (fun r3 hr3=>go A0 false ?_)
 conv=>whnf
 refine ⟨fun c0=>?_,fun c0=>?_⟩<;>conv=>whnf
 ·repeat refine Bd ?_
  refine Fx rfl ?_
  refine Ao A0 false 0 rfl rfl rfl A7 rfl (A5 Bb) ?_
  refine Ao A0 false 2 rfl rfl rfl A7 rfl (A5 Bb) ?_
  refine Ao A0 false 3 rfl rfl rfl A7 rfl (A5 Bb) ?_
  refine A4 [1,4] A7 ⟨?_,?_,trivial⟩
  focus
   refine A8 ?_
   refine A6 (A4 [4] A7 ⟨A8 ?_,trivial⟩)
   refine Ak (Vs d r3.1 r3.2.1 hr3.1) hH hp rfl B1 rfl rfl (fun r4 hr4=>go A0 false ?_)
   conv=>whnf
   refine A6 (A4 [5] A7 ⟨A8 ?_,trivial⟩)
   (repeat refine An ?_)
   refine A6 (A4 [6] A7 ⟨A8 ?_,trivial⟩)
   refine Am (j:=r2.2.2) A0 rfl rfl rfl rfl rfl rfl rfl rfl _ (C6 (j:=r2.2.2.toNat) (xs:=r.2.2.nodes) (e:=Av.c) (x:=r4.2.2) Ac rfl) (A8 ?_)
   refine A6 (B2 A7 (A8 ?_))
  rotate_left 1
  focus
   refine A8 ?_
   refine Ak (Vs d r3.1 r3.2.1 hr3.1) hH hp rfl B1 rfl rfl (fun r4 hr4=>go A0 false ?_)
   conv=>whnf
   refine A6 (A4 [1] A7 ⟨A8 ?_,trivial⟩)
   refine A6 (A4 [5] A7 ⟨A8 ?_,trivial⟩)
   (repeat refine An ?_)
   refine A6 (A4 [6] A7 ⟨A8 ?_,trivial⟩)
   refine Am (j:=r2.2.2) A0 rfl rfl rfl rfl rfl rfl rfl rfl _ (C6 (j:=r2.2.2.toNat) (xs:=r.2.2.nodes) (e:=Av.c) (x:=r4.2.2) Ac rfl) (A8 ?_)
   refine A6 (B2 A7 (A8 ?_))
  all_goals exact Bu A0 (r4.1,r4.2.1,⟨r.2.2.nodes.set r2.2.2.toNat r4.2.2,r.2.2.workers,r.2.2.cap⟩) ⟨hr4.1,Jr (A2q hm (hr4.2.m Az)) (by rw [List.length_set];omega) (Ds Ac Ac) (Ds Ac Ac)⟩ rfl rfl rfl rfl B1
 repeat refine Bd ?_
 refine ⟨fun c1=>?_,fun c1=>?_⟩<;>conv=>whnf
 ·repeat refine Bd ?_
  refine Fl 4 (Au [0,4,5,-1]) rfl (Bq rfl Cg) ?_
  refine Ak (De d r3.1 r3.2.1 [0,4,5,-1] hr3.1 Az) hH hp rfl B1 rfl rfl (fun r4 hr4=>go A0 false ?_)
  conv=>whnf
  exact Bu A0 (r4.1,r4.2.1,⟨r.2.2.nodes,[0,4,5,-1].getD r4.2.2 0,r.2.2.cap⟩) ⟨hr4.1,Jr hm Ac (Gb _ _ (by intro x hx;simp only [List.mem_cons,List.not_mem_nil,or_false] at hx;show _∧_;omega)) (Ds Ac Ac)⟩ rfl rfl rfl rfl B1
 repeat refine Bd ?_
 refine ⟨fun c2=>?_,fun c2=>?_⟩<;>conv=>whnf
 ·repeat refine Bd ?_
  refine Fl 4 (Au [0,4,5,-1]) rfl (Bq rfl Cg) ?_
  refine Ak (De d r3.1 r3.2.1 [0,4,5,-1] hr3.1 Az) hH hp rfl B1 rfl rfl (fun r4 hr4=>go A0 false ?_)
  conv=>whnf
  exact Bu A0 (r4.1,r4.2.1,⟨r.2.2.nodes,r.2.2.workers,[0,4,5,-1].getD r4.2.2 0⟩) ⟨hr4.1,Jr hm Ac (Ds Ac Ac) (Gb _ _ (by intro x hx;simp only [List.mem_cons,List.not_mem_nil,or_false] at hx;show _∧_;omega))⟩ rfl rfl rfl rfl B1
 repeat refine Bd ?_
 refine ⟨fun c3=>?_,fun c3=>?_⟩<;>conv=>whnf
 ·repeat refine Bd ?_
  have hx:=hm _ (Ay (d:=default) (show r2.2.2.toNat<r.2.2.nodes.length by omega))
  have hx2:=(Xg (hn _ (Ay (d:=default) (show r2.2.2.toNat<r.2.2.nodes.length by omega)))).2
  refine Fx rfl ?_
  refine Ao A0 false 0 rfl rfl rfl A7 rfl (A5 Bb) ?_
  refine Ao A0 false 2 rfl rfl rfl A7 rfl (A5 Bb) ?_
  refine Ao A0 false 3 rfl rfl rfl A7 rfl (A5 Bb) ?_
  refine Ao A0 false 5 rfl rfl rfl A7 rfl (A5 Bb) ?_
  refine Ao A0 false 9 rfl rfl rfl A7 rfl (A5 Bb) ?_
  refine A4 [1,4,10] A7 ⟨?_,?_,?_,trivial⟩
  focus
   refine A8 ?_
   refine A6 ?_
   refine A4 [4,10] A7 ⟨?_,?_,trivial⟩
   focus
    refine A8 ?_
    refine A6 ?_
    refine A4 [6,10] A7 ⟨?_,?_,trivial⟩
    focus
     refine A8 ?_
     (repeat refine An ?_)
     refine A6 ?_
     refine Ao A0 false 7 rfl rfl rfl A7 rfl (A5 Bb) ?_
     refine A4 [8,10] A7 ⟨?_,?_,trivial⟩
     focus
      refine A8 ?_
      refine Ce A0 rfl rfl rfl rfl rfl rfl (c:=Au (r.2.2.nodes.getD r2.2.2.toNat default).outs) rfl (fun v=>go A0 false ?_)
      conv=>whnf
      refine A6 (A4 [10] A7 ⟨A8 ?_,trivial⟩)
      refine Ak (Ai d r3.1 r3.2.1 9 hr3.1 Az) hH hp rfl B1 rfl rfl (fun r4 hr4=>go A0 false ?_)
      conv=>whnf
      refine A6 ?_
      refine Ao A0 false 11 rfl rfl rfl A7 rfl (A5 Bb) ?_
      refine A4 [12] A7 ⟨A8 ?_,trivial⟩
      refine A6 (A4 [13] A7 ⟨A8 ?_,trivial⟩)
      refine B6 A0 rfl rfl rfl rfl rfl rfl rfl rfl rfl rfl rfl (Au ((r.2.2.nodes.getD r2.2.2.toNat default).outs++[r4.2.2-1])) (Ad rfl) Bp Ac (A8 ?_)
      refine A6 (A4 [14] A7 ⟨A8 ?_,trivial⟩)
      (repeat refine An ?_)
      refine A6 ?_
      refine Ao A0 false 15 rfl rfl rfl A7 rfl (A5 Bb) ?_
      refine A4 [16] A7 ⟨A8 ?_,trivial⟩
      refine Am (j:=r2.2.2) A0 rfl rfl rfl rfl rfl rfl rfl rfl _ (B7 (j:=r2.2.2.toNat) (xs:=r.2.2.nodes) (e:=Av.c) (x:=⟨(r.2.2.nodes.getD r2.2.2.toNat default).kind,(r.2.2.nodes.getD r2.2.2.toNat default).a,(r.2.2.nodes.getD r2.2.2.toNat default).b,(r.2.2.nodes.getD r2.2.2.toNat default).outs++[r4.2.2-1]⟩) Ac rfl) (A8 ?_)
      refine A6 (B2 A7 (A8 ?_))
     rotate_left 1
     focus
      refine A8 ?_
      refine Ak (Ai d r3.1 r3.2.1 9 hr3.1 Az) hH hp rfl B1 rfl rfl (fun r4 hr4=>go A0 false ?_)
      conv=>whnf
      refine A6 ?_
      refine Ao A0 false 11 rfl rfl rfl A7 rfl (A5 Bb) ?_
      refine A4 [8,12] A7 ⟨?_,?_,trivial⟩
      focus
       refine A8 ?_
       refine Ce A0 rfl rfl rfl rfl rfl rfl (c:=Au (r.2.2.nodes.getD r2.2.2.toNat default).outs) rfl (fun v=>go A0 false ?_)
       conv=>whnf
       refine A6 (A4 [12] A7 ⟨A8 ?_,trivial⟩)
       refine A6 (A4 [13] A7 ⟨A8 ?_,trivial⟩)
       refine B6 A0 rfl rfl rfl rfl rfl rfl rfl rfl rfl rfl rfl (Au ((r.2.2.nodes.getD r2.2.2.toNat default).outs++[r4.2.2-1])) (Ad rfl) Bp Ac (A8 ?_)
       refine A6 (A4 [14] A7 ⟨A8 ?_,trivial⟩)
       (repeat refine An ?_)
       refine A6 ?_
       refine Ao A0 false 15 rfl rfl rfl A7 rfl (A5 Bb) ?_
       refine A4 [16] A7 ⟨A8 ?_,trivial⟩
       refine Am (j:=r2.2.2) A0 rfl rfl rfl rfl rfl rfl rfl rfl _ (B7 (j:=r2.2.2.toNat) (xs:=r.2.2.nodes) (e:=Av.c) (x:=⟨(r.2.2.nodes.getD r2.2.2.toNat default).kind,(r.2.2.nodes.getD r2.2.2.toNat default).a,(r.2.2.nodes.getD r2.2.2.toNat default).b,(r.2.2.nodes.getD r2.2.2.toNat default).outs++[r4.2.2-1]⟩) Ac rfl) (A8 ?_)
       refine A6 (B2 A7 (A8 ?_))
      rotate_left 1
      focus
       refine A8 ?_
       refine A6 (A4 [8] A7 ⟨A8 ?_,trivial⟩)
       refine Ce A0 rfl rfl rfl rfl rfl rfl (c:=Au (r.2.2.nodes.getD r2.2.2.toNat default).outs) rfl (fun v=>go A0 false ?_)
       conv=>whnf
       refine A6 (A4 [13] A7 ⟨A8 ?_,trivial⟩)
       refine B6 A0 rfl rfl rfl rfl rfl rfl rfl rfl rfl rfl rfl (Au ((r.2.2.nodes.getD r2.2.2.toNat default).outs++[r4.2.2-1])) (Ad rfl) Bp Ac (A8 ?_)
       refine A6 (A4 [14] A7 ⟨A8 ?_,trivial⟩)
       (repeat refine An ?_)
       refine A6 ?_
       refine Ao A0 false 15 rfl rfl rfl A7 rfl (A5 Bb) ?_
       refine A4 [16] A7 ⟨A8 ?_,trivial⟩
       refine Am (j:=r2.2.2) A0 rfl rfl rfl rfl rfl rfl rfl rfl _ (B7 (j:=r2.2.2.toNat) (xs:=r.2.2.nodes) (e:=Av.c) (x:=⟨(r.2.2.nodes.getD r2.2.2.toNat default).kind,(r.2.2.nodes.getD r2.2.2.toNat default).a,(r.2.2.nodes.getD r2.2.2.toNat default).b,(r.2.2.nodes.getD r2.2.2.toNat default).outs++[r4.2.2-1]⟩) Ac rfl) (A8 ?_)
       refine A6 (B2 A7 (A8 ?_))
    rotate_left 3
    focus
     refine A8 ?_
     refine Ak (Ai d r3.1 r3.2.1 9 hr3.1 Az) hH hp rfl B1 rfl rfl (fun r4 hr4=>go A0 false ?_)
     conv=>whnf
     refine A6 ?_
     refine Ao A0 false 11 rfl rfl rfl A7 rfl (A5 Bb) ?_
     refine A4 [6,12] A7 ⟨?_,?_,trivial⟩
     focus
      refine A8 ?_
      (repeat refine An ?_)
      refine A6 ?_
      refine Ao A0 false 7 rfl rfl rfl A7 rfl (A5 Bb) ?_
      refine A4 [8,12] A7 ⟨?_,?_,trivial⟩
      focus
       refine A8 ?_
       refine Ce A0 rfl rfl rfl rfl rfl rfl (c:=Au (r.2.2.nodes.getD r2.2.2.toNat default).outs) rfl (fun v=>go A0 false ?_)
       conv=>whnf
       refine A6 (A4 [12] A7 ⟨A8 ?_,trivial⟩)
       refine A6 (A4 [13] A7 ⟨A8 ?_,trivial⟩)
       refine B6 A0 rfl rfl rfl rfl rfl rfl rfl rfl rfl rfl rfl (Au ((r.2.2.nodes.getD r2.2.2.toNat default).outs++[r4.2.2-1])) (Ad rfl) Bp Ac (A8 ?_)
       refine A6 (A4 [14] A7 ⟨A8 ?_,trivial⟩)
       (repeat refine An ?_)
       refine A6 ?_
       refine Ao A0 false 15 rfl rfl rfl A7 rfl (A5 Bb) ?_
       refine A4 [16] A7 ⟨A8 ?_,trivial⟩
       refine Am (j:=r2.2.2) A0 rfl rfl rfl rfl rfl rfl rfl rfl _ (B7 (j:=r2.2.2.toNat) (xs:=r.2.2.nodes) (e:=Av.c) (x:=⟨(r.2.2.nodes.getD r2.2.2.toNat default).kind,(r.2.2.nodes.getD r2.2.2.toNat default).a,(r.2.2.nodes.getD r2.2.2.toNat default).b,(r.2.2.nodes.getD r2.2.2.toNat default).outs++[r4.2.2-1]⟩) Ac rfl) (A8 ?_)
       refine A6 (B2 A7 (A8 ?_))
      rotate_left 1
      focus
       refine A8 ?_
       refine A6 (A4 [8] A7 ⟨A8 ?_,trivial⟩)
       refine Ce A0 rfl rfl rfl rfl rfl rfl (c:=Au (r.2.2.nodes.getD r2.2.2.toNat default).outs) rfl (fun v=>go A0 false ?_)
       conv=>whnf
       refine A6 (A4 [13] A7 ⟨A8 ?_,trivial⟩)
       refine B6 A0 rfl rfl rfl rfl rfl rfl rfl rfl rfl rfl rfl (Au ((r.2.2.nodes.getD r2.2.2.toNat default).outs++[r4.2.2-1])) (Ad rfl) Bp Ac (A8 ?_)
       refine A6 (A4 [14] A7 ⟨A8 ?_,trivial⟩)
       (repeat refine An ?_)
       refine A6 ?_
       refine Ao A0 false 15 rfl rfl rfl A7 rfl (A5 Bb) ?_
       refine A4 [16] A7 ⟨A8 ?_,trivial⟩
       refine Am (j:=r2.2.2) A0 rfl rfl rfl rfl rfl rfl rfl rfl _ (B7 (j:=r2.2.2.toNat) (xs:=r.2.2.nodes) (e:=Av.c) (x:=⟨(r.2.2.nodes.getD r2.2.2.toNat default).kind,(r.2.2.nodes.getD r2.2.2.toNat default).a,(r.2.2.nodes.getD r2.2.2.toNat default).b,(r.2.2.nodes.getD r2.2.2.toNat default).outs++[r4.2.2-1]⟩) Ac rfl) (A8 ?_)
       refine A6 (B2 A7 (A8 ?_))
     rotate_left 2
     focus
      refine A8 ?_
      refine A6 (A4 [6] A7 ⟨A8 ?_,trivial⟩)
      (repeat refine An ?_)
      refine A6 ?_
      refine Ao A0 false 7 rfl rfl rfl A7 rfl (A5 Bb) ?_
      refine A4 [8] A7 ⟨A8 ?_,trivial⟩
      refine Ce A0 rfl rfl rfl rfl rfl rfl (c:=Au (r.2.2.nodes.getD r2.2.2.toNat default).outs) rfl (fun v=>go A0 false ?_)
      conv=>whnf
      refine A6 (A4 [13] A7 ⟨A8 ?_,trivial⟩)
      refine B6 A0 rfl rfl rfl rfl rfl rfl rfl rfl rfl rfl rfl (Au ((r.2.2.nodes.getD r2.2.2.toNat default).outs++[r4.2.2-1])) (Ad rfl) Bp Ac (A8 ?_)
      refine A6 (A4 [14] A7 ⟨A8 ?_,trivial⟩)
      (repeat refine An ?_)
      refine A6 ?_
      refine Ao A0 false 15 rfl rfl rfl A7 rfl (A5 Bb) ?_
      refine A4 [16] A7 ⟨A8 ?_,trivial⟩
      refine Am (j:=r2.2.2) A0 rfl rfl rfl rfl rfl rfl rfl rfl _ (B7 (j:=r2.2.2.toNat) (xs:=r.2.2.nodes) (e:=Av.c) (x:=⟨(r.2.2.nodes.getD r2.2.2.toNat default).kind,(r.2.2.nodes.getD r2.2.2.toNat default).a,(r.2.2.nodes.getD r2.2.2.toNat default).b,(r.2.2.nodes.getD r2.2.2.toNat default).outs++[r4.2.2-1]⟩) Ac rfl) (A8 ?_)
      refine A6 (B2 A7 (A8 ?_))
   rotate_left 6
   focus
    refine A8 ?_
    refine Ak (Ai d r3.1 r3.2.1 9 hr3.1 Az) hH hp rfl B1 rfl rfl (fun r4 hr4=>go A0 false ?_)
    conv=>whnf
    refine A6 ?_
    refine Ao A0 false 11 rfl rfl rfl A7 rfl (A5 Bb) ?_
    refine A4 [4,12] A7 ⟨?_,?_,trivial⟩
    focus
     refine A8 ?_
     refine A6 ?_
     refine A4 [6,12] A7 ⟨?_,?_,trivial⟩
     focus
      refine A8 ?_
      (repeat refine An ?_)
      refine A6 ?_
      refine Ao A0 false 7 rfl rfl rfl A7 rfl (A5 Bb) ?_
      refine A4 [8,12] A7 ⟨?_,?_,trivial⟩
      focus
       refine A8 ?_
       refine Ce A0 rfl rfl rfl rfl rfl rfl (c:=Au (r.2.2.nodes.getD r2.2.2.toNat default).outs) rfl (fun v=>go A0 false ?_)
       conv=>whnf
       refine A6 (A4 [12] A7 ⟨A8 ?_,trivial⟩)
       refine A6 (A4 [13] A7 ⟨A8 ?_,trivial⟩)
       refine B6 A0 rfl rfl rfl rfl rfl rfl rfl rfl rfl rfl rfl (Au ((r.2.2.nodes.getD r2.2.2.toNat default).outs++[r4.2.2-1])) (Ad rfl) Bp Ac (A8 ?_)
       refine A6 (A4 [14] A7 ⟨A8 ?_,trivial⟩)
       (repeat refine An ?_)
       refine A6 ?_
       refine Ao A0 false 15 rfl rfl rfl A7 rfl (A5 Bb) ?_
       refine A4 [16] A7 ⟨A8 ?_,trivial⟩
       refine Am (j:=r2.2.2) A0 rfl rfl rfl rfl rfl rfl rfl rfl _ (B7 (j:=r2.2.2.toNat) (xs:=r.2.2.nodes) (e:=Av.c) (x:=⟨(r.2.2.nodes.getD r2.2.2.toNat default).kind,(r.2.2.nodes.getD r2.2.2.toNat default).a,(r.2.2.nodes.getD r2.2.2.toNat default).b,(r.2.2.nodes.getD r2.2.2.toNat default).outs++[r4.2.2-1]⟩) Ac rfl) (A8 ?_)
       refine A6 (B2 A7 (A8 ?_))
      rotate_left 1
      focus
       refine A8 ?_
       refine A6 (A4 [8] A7 ⟨A8 ?_,trivial⟩)
       refine Ce A0 rfl rfl rfl rfl rfl rfl (c:=Au (r.2.2.nodes.getD r2.2.2.toNat default).outs) rfl (fun v=>go A0 false ?_)
       conv=>whnf
       refine A6 (A4 [13] A7 ⟨A8 ?_,trivial⟩)
       refine B6 A0 rfl rfl rfl rfl rfl rfl rfl rfl rfl rfl rfl (Au ((r.2.2.nodes.getD r2.2.2.toNat default).outs++[r4.2.2-1])) (Ad rfl) Bp Ac (A8 ?_)
       refine A6 (A4 [14] A7 ⟨A8 ?_,trivial⟩)
       (repeat refine An ?_)
       refine A6 ?_
       refine Ao A0 false 15 rfl rfl rfl A7 rfl (A5 Bb) ?_
       refine A4 [16] A7 ⟨A8 ?_,trivial⟩
       refine Am (j:=r2.2.2) A0 rfl rfl rfl rfl rfl rfl rfl rfl _ (B7 (j:=r2.2.2.toNat) (xs:=r.2.2.nodes) (e:=Av.c) (x:=⟨(r.2.2.nodes.getD r2.2.2.toNat default).kind,(r.2.2.nodes.getD r2.2.2.toNat default).a,(r.2.2.nodes.getD r2.2.2.toNat default).b,(r.2.2.nodes.getD r2.2.2.toNat default).outs++[r4.2.2-1]⟩) Ac rfl) (A8 ?_)
       refine A6 (B2 A7 (A8 ?_))
     rotate_left 2
     focus
      refine A8 ?_
      refine A6 (A4 [6] A7 ⟨A8 ?_,trivial⟩)
      (repeat refine An ?_)
      refine A6 ?_
      refine Ao A0 false 7 rfl rfl rfl A7 rfl (A5 Bb) ?_
      refine A4 [8] A7 ⟨A8 ?_,trivial⟩
      refine Ce A0 rfl rfl rfl rfl rfl rfl (c:=Au (r.2.2.nodes.getD r2.2.2.toNat default).outs) rfl (fun v=>go A0 false ?_)
      conv=>whnf
      refine A6 (A4 [13] A7 ⟨A8 ?_,trivial⟩)
      refine B6 A0 rfl rfl rfl rfl rfl rfl rfl rfl rfl rfl rfl (Au ((r.2.2.nodes.getD r2.2.2.toNat default).outs++[r4.2.2-1])) (Ad rfl) Bp Ac (A8 ?_)
      refine A6 (A4 [14] A7 ⟨A8 ?_,trivial⟩)
      (repeat refine An ?_)
      refine A6 ?_
      refine Ao A0 false 15 rfl rfl rfl A7 rfl (A5 Bb) ?_
      refine A4 [16] A7 ⟨A8 ?_,trivial⟩
      refine Am (j:=r2.2.2) A0 rfl rfl rfl rfl rfl rfl rfl rfl _ (B7 (j:=r2.2.2.toNat) (xs:=r.2.2.nodes) (e:=Av.c) (x:=⟨(r.2.2.nodes.getD r2.2.2.toNat default).kind,(r.2.2.nodes.getD r2.2.2.toNat default).a,(r.2.2.nodes.getD r2.2.2.toNat default).b,(r.2.2.nodes.getD r2.2.2.toNat default).outs++[r4.2.2-1]⟩) Ac rfl) (A8 ?_)
      refine A6 (B2 A7 (A8 ?_))
    rotate_left 3
    focus
     refine A8 ?_
     refine A6 (A4 [4] A7 ⟨A8 ?_,trivial⟩)
     refine A6 (A4 [6] A7 ⟨A8 ?_,trivial⟩)
     (repeat refine An ?_)
     refine A6 ?_
     refine Ao A0 false 7 rfl rfl rfl A7 rfl (A5 Bb) ?_
     refine A4 [8] A7 ⟨A8 ?_,trivial⟩
     refine Ce A0 rfl rfl rfl rfl rfl rfl (c:=Au (r.2.2.nodes.getD r2.2.2.toNat default).outs) rfl (fun v=>go A0 false ?_)
     conv=>whnf
     refine A6 (A4 [13] A7 ⟨A8 ?_,trivial⟩)
     refine B6 A0 rfl rfl rfl rfl rfl rfl rfl rfl rfl rfl rfl (Au ((r.2.2.nodes.getD r2.2.2.toNat default).outs++[r4.2.2-1])) (Ad rfl) Bp Ac (A8 ?_)
     refine A6 (A4 [14] A7 ⟨A8 ?_,trivial⟩)
     (repeat refine An ?_)
     refine A6 ?_
     refine Ao A0 false 15 rfl rfl rfl A7 rfl (A5 Bb) ?_
     refine A4 [16] A7 ⟨A8 ?_,trivial⟩
     refine Am (j:=r2.2.2) A0 rfl rfl rfl rfl rfl rfl rfl rfl _ (B7 (j:=r2.2.2.toNat) (xs:=r.2.2.nodes) (e:=Av.c) (x:=⟨(r.2.2.nodes.getD r2.2.2.toNat default).kind,(r.2.2.nodes.getD r2.2.2.toNat default).a,(r.2.2.nodes.getD r2.2.2.toNat default).b,(r.2.2.nodes.getD r2.2.2.toNat default).outs++[r4.2.2-1]⟩) Ac rfl) (A8 ?_)
     refine A6 (B2 A7 (A8 ?_))
  rotate_left 10
  focus
   refine A8 ?_
   refine A6 ?_
   refine A4 [1,6,10] A7 ⟨?_,?_,?_,trivial⟩
   focus
    refine A8 ?_
    refine A6 ?_
    refine A4 [6,10] A7 ⟨?_,?_,trivial⟩
    focus
     refine A8 ?_
     (repeat refine An ?_)
     refine A6 ?_
     refine Ao A0 false 7 rfl rfl rfl A7 rfl (A5 Bb) ?_
     refine A4 [8,10] A7 ⟨?_,?_,trivial⟩
     focus
      refine A8 ?_
      refine Ce A0 rfl rfl rfl rfl rfl rfl (c:=Au (r.2.2.nodes.getD r2.2.2.toNat default).outs) rfl (fun v=>go A0 false ?_)
      conv=>whnf
      refine A6 (A4 [10] A7 ⟨A8 ?_,trivial⟩)
      refine Ak (Ai d r3.1 r3.2.1 9 hr3.1 Az) hH hp rfl B1 rfl rfl (fun r4 hr4=>go A0 false ?_)
      conv=>whnf
      refine A6 ?_
      refine Ao A0 false 11 rfl rfl rfl A7 rfl (A5 Bb) ?_
      refine A4 [12] A7 ⟨A8 ?_,trivial⟩
      refine A6 (A4 [13] A7 ⟨A8 ?_,trivial⟩)
      refine B6 A0 rfl rfl rfl rfl rfl rfl rfl rfl rfl rfl rfl (Au ((r.2.2.nodes.getD r2.2.2.toNat default).outs++[r4.2.2-1])) (Ad rfl) Bp Ac (A8 ?_)
      refine A6 (A4 [14] A7 ⟨A8 ?_,trivial⟩)
      (repeat refine An ?_)
      refine A6 ?_
      refine Ao A0 false 15 rfl rfl rfl A7 rfl (A5 Bb) ?_
      refine A4 [16] A7 ⟨A8 ?_,trivial⟩
      refine Am (j:=r2.2.2) A0 rfl rfl rfl rfl rfl rfl rfl rfl _ (B7 (j:=r2.2.2.toNat) (xs:=r.2.2.nodes) (e:=Av.c) (x:=⟨(r.2.2.nodes.getD r2.2.2.toNat default).kind,(r.2.2.nodes.getD r2.2.2.toNat default).a,(r.2.2.nodes.getD r2.2.2.toNat default).b,(r.2.2.nodes.getD r2.2.2.toNat default).outs++[r4.2.2-1]⟩) Ac rfl) (A8 ?_)
      refine A6 (B2 A7 (A8 ?_))
     rotate_left 1
     focus
      refine A8 ?_
      refine Ak (Ai d r3.1 r3.2.1 9 hr3.1 Az) hH hp rfl B1 rfl rfl (fun r4 hr4=>go A0 false ?_)
      conv=>whnf
      refine A6 ?_
      refine Ao A0 false 11 rfl rfl rfl A7 rfl (A5 Bb) ?_
      refine A4 [8,12] A7 ⟨?_,?_,trivial⟩
      focus
       refine A8 ?_
       refine Ce A0 rfl rfl rfl rfl rfl rfl (c:=Au (r.2.2.nodes.getD r2.2.2.toNat default).outs) rfl (fun v=>go A0 false ?_)
       conv=>whnf
       refine A6 (A4 [12] A7 ⟨A8 ?_,trivial⟩)
       refine A6 (A4 [13] A7 ⟨A8 ?_,trivial⟩)
       refine B6 A0 rfl rfl rfl rfl rfl rfl rfl rfl rfl rfl rfl (Au ((r.2.2.nodes.getD r2.2.2.toNat default).outs++[r4.2.2-1])) (Ad rfl) Bp Ac (A8 ?_)
       refine A6 (A4 [14] A7 ⟨A8 ?_,trivial⟩)
       (repeat refine An ?_)
       refine A6 ?_
       refine Ao A0 false 15 rfl rfl rfl A7 rfl (A5 Bb) ?_
       refine A4 [16] A7 ⟨A8 ?_,trivial⟩
       refine Am (j:=r2.2.2) A0 rfl rfl rfl rfl rfl rfl rfl rfl _ (B7 (j:=r2.2.2.toNat) (xs:=r.2.2.nodes) (e:=Av.c) (x:=⟨(r.2.2.nodes.getD r2.2.2.toNat default).kind,(r.2.2.nodes.getD r2.2.2.toNat default).a,(r.2.2.nodes.getD r2.2.2.toNat default).b,(r.2.2.nodes.getD r2.2.2.toNat default).outs++[r4.2.2-1]⟩) Ac rfl) (A8 ?_)
       refine A6 (B2 A7 (A8 ?_))
      rotate_left 1
      focus
       refine A8 ?_
       refine A6 (A4 [8] A7 ⟨A8 ?_,trivial⟩)
       refine Ce A0 rfl rfl rfl rfl rfl rfl (c:=Au (r.2.2.nodes.getD r2.2.2.toNat default).outs) rfl (fun v=>go A0 false ?_)
       conv=>whnf
       refine A6 (A4 [13] A7 ⟨A8 ?_,trivial⟩)
       refine B6 A0 rfl rfl rfl rfl rfl rfl rfl rfl rfl rfl rfl (Au ((r.2.2.nodes.getD r2.2.2.toNat default).outs++[r4.2.2-1])) (Ad rfl) Bp Ac (A8 ?_)
       refine A6 (A4 [14] A7 ⟨A8 ?_,trivial⟩)
       (repeat refine An ?_)
       refine A6 ?_
       refine Ao A0 false 15 rfl rfl rfl A7 rfl (A5 Bb) ?_
       refine A4 [16] A7 ⟨A8 ?_,trivial⟩
       refine Am (j:=r2.2.2) A0 rfl rfl rfl rfl rfl rfl rfl rfl _ (B7 (j:=r2.2.2.toNat) (xs:=r.2.2.nodes) (e:=Av.c) (x:=⟨(r.2.2.nodes.getD r2.2.2.toNat default).kind,(r.2.2.nodes.getD r2.2.2.toNat default).a,(r.2.2.nodes.getD r2.2.2.toNat default).b,(r.2.2.nodes.getD r2.2.2.toNat default).outs++[r4.2.2-1]⟩) Ac rfl) (A8 ?_)
       refine A6 (B2 A7 (A8 ?_))
    rotate_left 3
    focus
     refine A8 ?_
     refine Ak (Ai d r3.1 r3.2.1 9 hr3.1 Az) hH hp rfl B1 rfl rfl (fun r4 hr4=>go A0 false ?_)
     conv=>whnf
     refine A6 ?_
     refine Ao A0 false 11 rfl rfl rfl A7 rfl (A5 Bb) ?_
     refine A4 [6,12] A7 ⟨?_,?_,trivial⟩
     focus
      refine A8 ?_
      (repeat refine An ?_)
      refine A6 ?_
      refine Ao A0 false 7 rfl rfl rfl A7 rfl (A5 Bb) ?_
      refine A4 [8,12] A7 ⟨?_,?_,trivial⟩
      focus
       refine A8 ?_
       refine Ce A0 rfl rfl rfl rfl rfl rfl (c:=Au (r.2.2.nodes.getD r2.2.2.toNat default).outs) rfl (fun v=>go A0 false ?_)
       conv=>whnf
       refine A6 (A4 [12] A7 ⟨A8 ?_,trivial⟩)
       refine A6 (A4 [13] A7 ⟨A8 ?_,trivial⟩)
       refine B6 A0 rfl rfl rfl rfl rfl rfl rfl rfl rfl rfl rfl (Au ((r.2.2.nodes.getD r2.2.2.toNat default).outs++[r4.2.2-1])) (Ad rfl) Bp Ac (A8 ?_)
       refine A6 (A4 [14] A7 ⟨A8 ?_,trivial⟩)
       (repeat refine An ?_)
       refine A6 ?_
       refine Ao A0 false 15 rfl rfl rfl A7 rfl (A5 Bb) ?_
       refine A4 [16] A7 ⟨A8 ?_,trivial⟩
       refine Am (j:=r2.2.2) A0 rfl rfl rfl rfl rfl rfl rfl rfl _ (B7 (j:=r2.2.2.toNat) (xs:=r.2.2.nodes) (e:=Av.c) (x:=⟨(r.2.2.nodes.getD r2.2.2.toNat default).kind,(r.2.2.nodes.getD r2.2.2.toNat default).a,(r.2.2.nodes.getD r2.2.2.toNat default).b,(r.2.2.nodes.getD r2.2.2.toNat default).outs++[r4.2.2-1]⟩) Ac rfl) (A8 ?_)
       refine A6 (B2 A7 (A8 ?_))
      rotate_left 1
      focus
       refine A8 ?_
       refine A6 (A4 [8] A7 ⟨A8 ?_,trivial⟩)
       refine Ce A0 rfl rfl rfl rfl rfl rfl (c:=Au (r.2.2.nodes.getD r2.2.2.toNat default).outs) rfl (fun v=>go A0 false ?_)
       conv=>whnf
       refine A6 (A4 [13] A7 ⟨A8 ?_,trivial⟩)
       refine B6 A0 rfl rfl rfl rfl rfl rfl rfl rfl rfl rfl rfl (Au ((r.2.2.nodes.getD r2.2.2.toNat default).outs++[r4.2.2-1])) (Ad rfl) Bp Ac (A8 ?_)
       refine A6 (A4 [14] A7 ⟨A8 ?_,trivial⟩)
       (repeat refine An ?_)
       refine A6 ?_
       refine Ao A0 false 15 rfl rfl rfl A7 rfl (A5 Bb) ?_
       refine A4 [16] A7 ⟨A8 ?_,trivial⟩
       refine Am (j:=r2.2.2) A0 rfl rfl rfl rfl rfl rfl rfl rfl _ (B7 (j:=r2.2.2.toNat) (xs:=r.2.2.nodes) (e:=Av.c) (x:=⟨(r.2.2.nodes.getD r2.2.2.toNat default).kind,(r.2.2.nodes.getD r2.2.2.toNat default).a,(r.2.2.nodes.getD r2.2.2.toNat default).b,(r.2.2.nodes.getD r2.2.2.toNat default).outs++[r4.2.2-1]⟩) Ac rfl) (A8 ?_)
       refine A6 (B2 A7 (A8 ?_))
     rotate_left 2
     focus
      refine A8 ?_
      refine A6 (A4 [6] A7 ⟨A8 ?_,trivial⟩)
      (repeat refine An ?_)
      refine A6 ?_
      refine Ao A0 false 7 rfl rfl rfl A7 rfl (A5 Bb) ?_
      refine A4 [8] A7 ⟨A8 ?_,trivial⟩
      refine Ce A0 rfl rfl rfl rfl rfl rfl (c:=Au (r.2.2.nodes.getD r2.2.2.toNat default).outs) rfl (fun v=>go A0 false ?_)
      conv=>whnf
      refine A6 (A4 [13] A7 ⟨A8 ?_,trivial⟩)
      refine B6 A0 rfl rfl rfl rfl rfl rfl rfl rfl rfl rfl rfl (Au ((r.2.2.nodes.getD r2.2.2.toNat default).outs++[r4.2.2-1])) (Ad rfl) Bp Ac (A8 ?_)
      refine A6 (A4 [14] A7 ⟨A8 ?_,trivial⟩)
      (repeat refine An ?_)
      refine A6 ?_
      refine Ao A0 false 15 rfl rfl rfl A7 rfl (A5 Bb) ?_
      refine A4 [16] A7 ⟨A8 ?_,trivial⟩
      refine Am (j:=r2.2.2) A0 rfl rfl rfl rfl rfl rfl rfl rfl _ (B7 (j:=r2.2.2.toNat) (xs:=r.2.2.nodes) (e:=Av.c) (x:=⟨(r.2.2.nodes.getD r2.2.2.toNat default).kind,(r.2.2.nodes.getD r2.2.2.toNat default).a,(r.2.2.nodes.getD r2.2.2.toNat default).b,(r.2.2.nodes.getD r2.2.2.toNat default).outs++[r4.2.2-1]⟩) Ac rfl) (A8 ?_)
      refine A6 (B2 A7 (A8 ?_))
   rotate_left 6
   focus
    refine A8 ?_
    (repeat refine An ?_)
    refine A6 ?_
    refine Ao A0 false 7 rfl rfl rfl A7 rfl (A5 Bb) ?_
    refine A4 [1,8,10] A7 ⟨?_,?_,?_,trivial⟩
    focus
     refine A8 ?_
     refine A6 ?_
     refine A4 [8,10] A7 ⟨?_,?_,trivial⟩
     focus
      refine A8 ?_
      refine Ce A0 rfl rfl rfl rfl rfl rfl (c:=Au (r.2.2.nodes.getD r2.2.2.toNat default).outs) rfl (fun v=>go A0 false ?_)
      conv=>whnf
      refine A6 (A4 [10] A7 ⟨A8 ?_,trivial⟩)
      refine Ak (Ai d r3.1 r3.2.1 9 hr3.1 Az) hH hp rfl B1 rfl rfl (fun r4 hr4=>go A0 false ?_)
      conv=>whnf
      refine A6 ?_
      refine Ao A0 false 11 rfl rfl rfl A7 rfl (A5 Bb) ?_
      refine A4 [12] A7 ⟨A8 ?_,trivial⟩
      refine A6 (A4 [13] A7 ⟨A8 ?_,trivial⟩)
      refine B6 A0 rfl rfl rfl rfl rfl rfl rfl rfl rfl rfl rfl (Au ((r.2.2.nodes.getD r2.2.2.toNat default).outs++[r4.2.2-1])) (Ad rfl) Bp Ac (A8 ?_)
      refine A6 (A4 [14] A7 ⟨A8 ?_,trivial⟩)
      (repeat refine An ?_)
      refine A6 ?_
      refine Ao A0 false 15 rfl rfl rfl A7 rfl (A5 Bb) ?_
      refine A4 [16] A7 ⟨A8 ?_,trivial⟩
      refine Am (j:=r2.2.2) A0 rfl rfl rfl rfl rfl rfl rfl rfl _ (B7 (j:=r2.2.2.toNat) (xs:=r.2.2.nodes) (e:=Av.c) (x:=⟨(r.2.2.nodes.getD r2.2.2.toNat default).kind,(r.2.2.nodes.getD r2.2.2.toNat default).a,(r.2.2.nodes.getD r2.2.2.toNat default).b,(r.2.2.nodes.getD r2.2.2.toNat default).outs++[r4.2.2-1]⟩) Ac rfl) (A8 ?_)
      refine A6 (B2 A7 (A8 ?_))
     rotate_left 1
     focus
      refine A8 ?_
      refine Ak (Ai d r3.1 r3.2.1 9 hr3.1 Az) hH hp rfl B1 rfl rfl (fun r4 hr4=>go A0 false ?_)
      conv=>whnf
      refine A6 ?_
      refine Ao A0 false 11 rfl rfl rfl A7 rfl (A5 Bb) ?_
      refine A4 [8,12] A7 ⟨?_,?_,trivial⟩
      focus
       refine A8 ?_
       refine Ce A0 rfl rfl rfl rfl rfl rfl (c:=Au (r.2.2.nodes.getD r2.2.2.toNat default).outs) rfl (fun v=>go A0 false ?_)
       conv=>whnf
       refine A6 (A4 [12] A7 ⟨A8 ?_,trivial⟩)
       refine A6 (A4 [13] A7 ⟨A8 ?_,trivial⟩)
       refine B6 A0 rfl rfl rfl rfl rfl rfl rfl rfl rfl rfl rfl (Au ((r.2.2.nodes.getD r2.2.2.toNat default).outs++[r4.2.2-1])) (Ad rfl) Bp Ac (A8 ?_)
       refine A6 (A4 [14] A7 ⟨A8 ?_,trivial⟩)
       (repeat refine An ?_)
       refine A6 ?_
       refine Ao A0 false 15 rfl rfl rfl A7 rfl (A5 Bb) ?_
       refine A4 [16] A7 ⟨A8 ?_,trivial⟩
       refine Am (j:=r2.2.2) A0 rfl rfl rfl rfl rfl rfl rfl rfl _ (B7 (j:=r2.2.2.toNat) (xs:=r.2.2.nodes) (e:=Av.c) (x:=⟨(r.2.2.nodes.getD r2.2.2.toNat default).kind,(r.2.2.nodes.getD r2.2.2.toNat default).a,(r.2.2.nodes.getD r2.2.2.toNat default).b,(r.2.2.nodes.getD r2.2.2.toNat default).outs++[r4.2.2-1]⟩) Ac rfl) (A8 ?_)
       refine A6 (B2 A7 (A8 ?_))
      rotate_left 1
      focus
       refine A8 ?_
       refine A6 (A4 [8] A7 ⟨A8 ?_,trivial⟩)
       refine Ce A0 rfl rfl rfl rfl rfl rfl (c:=Au (r.2.2.nodes.getD r2.2.2.toNat default).outs) rfl (fun v=>go A0 false ?_)
       conv=>whnf
       refine A6 (A4 [13] A7 ⟨A8 ?_,trivial⟩)
       refine B6 A0 rfl rfl rfl rfl rfl rfl rfl rfl rfl rfl rfl (Au ((r.2.2.nodes.getD r2.2.2.toNat default).outs++[r4.2.2-1])) (Ad rfl) Bp Ac (A8 ?_)
       refine A6 (A4 [14] A7 ⟨A8 ?_,trivial⟩)
       (repeat refine An ?_)
       refine A6 ?_
       refine Ao A0 false 15 rfl rfl rfl A7 rfl (A5 Bb) ?_
       refine A4 [16] A7 ⟨A8 ?_,trivial⟩
       refine Am (j:=r2.2.2) A0 rfl rfl rfl rfl rfl rfl rfl rfl _ (B7 (j:=r2.2.2.toNat) (xs:=r.2.2.nodes) (e:=Av.c) (x:=⟨(r.2.2.nodes.getD r2.2.2.toNat default).kind,(r.2.2.nodes.getD r2.2.2.toNat default).a,(r.2.2.nodes.getD r2.2.2.toNat default).b,(r.2.2.nodes.getD r2.2.2.toNat default).outs++[r4.2.2-1]⟩) Ac rfl) (A8 ?_)
       refine A6 (B2 A7 (A8 ?_))
    rotate_left 3
    focus
     refine A8 ?_
     refine Ce A0 rfl rfl rfl rfl rfl rfl (c:=Au (r.2.2.nodes.getD r2.2.2.toNat default).outs) rfl (fun v=>go A0 false ?_)
     conv=>whnf
     refine A6 ?_
     refine A4 [1,10] A7 ⟨?_,?_,trivial⟩
     focus
      refine A8 ?_
      refine A6 (A4 [10] A7 ⟨A8 ?_,trivial⟩)
      refine Ak (Ai d r3.1 r3.2.1 9 hr3.1 Az) hH hp rfl B1 rfl rfl (fun r4 hr4=>go A0 false ?_)
      conv=>whnf
      refine A6 ?_
      refine Ao A0 false 11 rfl rfl rfl A7 rfl (A5 Bb) ?_
      refine A4 [12] A7 ⟨A8 ?_,trivial⟩
      refine A6 (A4 [13] A7 ⟨A8 ?_,trivial⟩)
      refine B6 A0 rfl rfl rfl rfl rfl rfl rfl rfl rfl rfl rfl (Au ((r.2.2.nodes.getD r2.2.2.toNat default).outs++[r4.2.2-1])) (Ad rfl) Bp Ac (A8 ?_)
      refine A6 (A4 [14] A7 ⟨A8 ?_,trivial⟩)
      (repeat refine An ?_)
      refine A6 ?_
      refine Ao A0 false 15 rfl rfl rfl A7 rfl (A5 Bb) ?_
      refine A4 [16] A7 ⟨A8 ?_,trivial⟩
      refine Am (j:=r2.2.2) A0 rfl rfl rfl rfl rfl rfl rfl rfl _ (B7 (j:=r2.2.2.toNat) (xs:=r.2.2.nodes) (e:=Av.c) (x:=⟨(r.2.2.nodes.getD r2.2.2.toNat default).kind,(r.2.2.nodes.getD r2.2.2.toNat default).a,(r.2.2.nodes.getD r2.2.2.toNat default).b,(r.2.2.nodes.getD r2.2.2.toNat default).outs++[r4.2.2-1]⟩) Ac rfl) (A8 ?_)
      refine A6 (B2 A7 (A8 ?_))
     rotate_left 1
     focus
      refine A8 ?_
      refine Ak (Ai d r3.1 r3.2.1 9 hr3.1 Az) hH hp rfl B1 rfl rfl (fun r4 hr4=>go A0 false ?_)
      conv=>whnf
      refine A6 ?_
      refine Ao A0 false 11 rfl rfl rfl A7 rfl (A5 Bb) ?_
      refine A4 [1,12] A7 ⟨?_,?_,trivial⟩
      focus
       refine A8 ?_
       refine A6 (A4 [12] A7 ⟨A8 ?_,trivial⟩)
       refine A6 (A4 [13] A7 ⟨A8 ?_,trivial⟩)
       refine B6 A0 rfl rfl rfl rfl rfl rfl rfl rfl rfl rfl rfl (Au ((r.2.2.nodes.getD r2.2.2.toNat default).outs++[r4.2.2-1])) (Ad rfl) Bp Ac (A8 ?_)
       refine A6 (A4 [14] A7 ⟨A8 ?_,trivial⟩)
       (repeat refine An ?_)
       refine A6 ?_
       refine Ao A0 false 15 rfl rfl rfl A7 rfl (A5 Bb) ?_
       refine A4 [16] A7 ⟨A8 ?_,trivial⟩
       refine Am (j:=r2.2.2) A0 rfl rfl rfl rfl rfl rfl rfl rfl _ (B7 (j:=r2.2.2.toNat) (xs:=r.2.2.nodes) (e:=Av.c) (x:=⟨(r.2.2.nodes.getD r2.2.2.toNat default).kind,(r.2.2.nodes.getD r2.2.2.toNat default).a,(r.2.2.nodes.getD r2.2.2.toNat default).b,(r.2.2.nodes.getD r2.2.2.toNat default).outs++[r4.2.2-1]⟩) Ac rfl) (A8 ?_)
       refine A6 (B2 A7 (A8 ?_))
      rotate_left 1
      focus
       refine A8 ?_
       refine A6 ?_
       refine A4 [1,13] A7 ⟨?_,?_,trivial⟩
       focus
        refine A8 ?_
        refine A6 (A4 [13] A7 ⟨A8 ?_,trivial⟩)
        refine B6 A0 rfl rfl rfl rfl rfl rfl rfl rfl rfl rfl rfl (Au ((r.2.2.nodes.getD r2.2.2.toNat default).outs++[r4.2.2-1])) (Ad rfl) Bp Ac (A8 ?_)
        refine A6 (A4 [14] A7 ⟨A8 ?_,trivial⟩)
        (repeat refine An ?_)
        refine A6 ?_
        refine Ao A0 false 15 rfl rfl rfl A7 rfl (A5 Bb) ?_
        refine A4 [16] A7 ⟨A8 ?_,trivial⟩
        refine Am (j:=r2.2.2) A0 rfl rfl rfl rfl rfl rfl rfl rfl _ (B7 (j:=r2.2.2.toNat) (xs:=r.2.2.nodes) (e:=Av.c) (x:=⟨(r.2.2.nodes.getD r2.2.2.toNat default).kind,(r.2.2.nodes.getD r2.2.2.toNat default).a,(r.2.2.nodes.getD r2.2.2.toNat default).b,(r.2.2.nodes.getD r2.2.2.toNat default).outs++[r4.2.2-1]⟩) Ac rfl) (A8 ?_)
        refine A6 (B2 A7 (A8 ?_))
       rotate_left 1
       focus
        refine A8 ?_
        refine B6 A0 rfl rfl rfl rfl rfl rfl rfl rfl rfl rfl rfl (Au ((r.2.2.nodes.getD r2.2.2.toNat default).outs++[r4.2.2-1])) (Ad rfl) Bp Ac (A8 ?_)
        refine A6 (A4 [1] A7 ⟨A8 ?_,trivial⟩)
        refine A6 (A4 [14] A7 ⟨A8 ?_,trivial⟩)
        (repeat refine An ?_)
        refine A6 ?_
        refine Ao A0 false 15 rfl rfl rfl A7 rfl (A5 Bb) ?_
        refine A4 [16] A7 ⟨A8 ?_,trivial⟩
        refine Am (j:=r2.2.2) A0 rfl rfl rfl rfl rfl rfl rfl rfl _ (B7 (j:=r2.2.2.toNat) (xs:=r.2.2.nodes) (e:=Av.c) (x:=⟨(r.2.2.nodes.getD r2.2.2.toNat default).kind,(r.2.2.nodes.getD r2.2.2.toNat default).a,(r.2.2.nodes.getD r2.2.2.toNat default).b,(r.2.2.nodes.getD r2.2.2.toNat default).outs++[r4.2.2-1]⟩) Ac rfl) (A8 ?_)
        refine A6 (B2 A7 (A8 ?_))
    rotate_left 4
    focus
     refine A8 ?_
     refine Ak (Ai d r3.1 r3.2.1 9 hr3.1 Az) hH hp rfl B1 rfl rfl (fun r4 hr4=>go A0 false ?_)
     conv=>whnf
     refine A6 ?_
     refine Ao A0 false 11 rfl rfl rfl A7 rfl (A5 Bb) ?_
     refine A4 [1,8,12] A7 ⟨?_,?_,?_,trivial⟩
     focus
      refine A8 ?_
      refine A6 ?_
      refine A4 [8,12] A7 ⟨?_,?_,trivial⟩
      focus
       refine A8 ?_
       refine Ce A0 rfl rfl rfl rfl rfl rfl (c:=Au (r.2.2.nodes.getD r2.2.2.toNat default).outs) rfl (fun v=>go A0 false ?_)
       conv=>whnf
       refine A6 (A4 [12] A7 ⟨A8 ?_,trivial⟩)
       refine A6 (A4 [13] A7 ⟨A8 ?_,trivial⟩)
       refine B6 A0 rfl rfl rfl rfl rfl rfl rfl rfl rfl rfl rfl (Au ((r.2.2.nodes.getD r2.2.2.toNat default).outs++[r4.2.2-1])) (Ad rfl) Bp Ac (A8 ?_)
       refine A6 (A4 [14] A7 ⟨A8 ?_,trivial⟩)
       (repeat refine An ?_)
       refine A6 ?_
       refine Ao A0 false 15 rfl rfl rfl A7 rfl (A5 Bb) ?_
       refine A4 [16] A7 ⟨A8 ?_,trivial⟩
       refine Am (j:=r2.2.2) A0 rfl rfl rfl rfl rfl rfl rfl rfl _ (B7 (j:=r2.2.2.toNat) (xs:=r.2.2.nodes) (e:=Av.c) (x:=⟨(r.2.2.nodes.getD r2.2.2.toNat default).kind,(r.2.2.nodes.getD r2.2.2.toNat default).a,(r.2.2.nodes.getD r2.2.2.toNat default).b,(r.2.2.nodes.getD r2.2.2.toNat default).outs++[r4.2.2-1]⟩) Ac rfl) (A8 ?_)
       refine A6 (B2 A7 (A8 ?_))
      rotate_left 1
      focus
       refine A8 ?_
       refine A6 (A4 [8] A7 ⟨A8 ?_,trivial⟩)
       refine Ce A0 rfl rfl rfl rfl rfl rfl (c:=Au (r.2.2.nodes.getD r2.2.2.toNat default).outs) rfl (fun v=>go A0 false ?_)
       conv=>whnf
       refine A6 (A4 [13] A7 ⟨A8 ?_,trivial⟩)
       refine B6 A0 rfl rfl rfl rfl rfl rfl rfl rfl rfl rfl rfl (Au ((r.2.2.nodes.getD r2.2.2.toNat default).outs++[r4.2.2-1])) (Ad rfl) Bp Ac (A8 ?_)
       refine A6 (A4 [14] A7 ⟨A8 ?_,trivial⟩)
       (repeat refine An ?_)
       refine A6 ?_
       refine Ao A0 false 15 rfl rfl rfl A7 rfl (A5 Bb) ?_
       refine A4 [16] A7 ⟨A8 ?_,trivial⟩
       refine Am (j:=r2.2.2) A0 rfl rfl rfl rfl rfl rfl rfl rfl _ (B7 (j:=r2.2.2.toNat) (xs:=r.2.2.nodes) (e:=Av.c) (x:=⟨(r.2.2.nodes.getD r2.2.2.toNat default).kind,(r.2.2.nodes.getD r2.2.2.toNat default).a,(r.2.2.nodes.getD r2.2.2.toNat default).b,(r.2.2.nodes.getD r2.2.2.toNat default).outs++[r4.2.2-1]⟩) Ac rfl) (A8 ?_)
       refine A6 (B2 A7 (A8 ?_))
     rotate_left 2
     focus
      refine A8 ?_
      refine Ce A0 rfl rfl rfl rfl rfl rfl (c:=Au (r.2.2.nodes.getD r2.2.2.toNat default).outs) rfl (fun v=>go A0 false ?_)
      conv=>whnf
      refine A6 ?_
      refine A4 [1,12] A7 ⟨?_,?_,trivial⟩
      focus
       refine A8 ?_
       refine A6 (A4 [12] A7 ⟨A8 ?_,trivial⟩)
       refine A6 (A4 [13] A7 ⟨A8 ?_,trivial⟩)
       refine B6 A0 rfl rfl rfl rfl rfl rfl rfl rfl rfl rfl rfl (Au ((r.2.2.nodes.getD r2.2.2.toNat default).outs++[r4.2.2-1])) (Ad rfl) Bp Ac (A8 ?_)
       refine A6 (A4 [14] A7 ⟨A8 ?_,trivial⟩)
       (repeat refine An ?_)
       refine A6 ?_
       refine Ao A0 false 15 rfl rfl rfl A7 rfl (A5 Bb) ?_
       refine A4 [16] A7 ⟨A8 ?_,trivial⟩
       refine Am (j:=r2.2.2) A0 rfl rfl rfl rfl rfl rfl rfl rfl _ (B7 (j:=r2.2.2.toNat) (xs:=r.2.2.nodes) (e:=Av.c) (x:=⟨(r.2.2.nodes.getD r2.2.2.toNat default).kind,(r.2.2.nodes.getD r2.2.2.toNat default).a,(r.2.2.nodes.getD r2.2.2.toNat default).b,(r.2.2.nodes.getD r2.2.2.toNat default).outs++[r4.2.2-1]⟩) Ac rfl) (A8 ?_)
       refine A6 (B2 A7 (A8 ?_))
      rotate_left 1
      focus
       refine A8 ?_
       refine A6 ?_
       refine A4 [1,13] A7 ⟨?_,?_,trivial⟩
       focus
        refine A8 ?_
        refine A6 (A4 [13] A7 ⟨A8 ?_,trivial⟩)
        refine B6 A0 rfl rfl rfl rfl rfl rfl rfl rfl rfl rfl rfl (Au ((r.2.2.nodes.getD r2.2.2.toNat default).outs++[r4.2.2-1])) (Ad rfl) Bp Ac (A8 ?_)
        refine A6 (A4 [14] A7 ⟨A8 ?_,trivial⟩)
        (repeat refine An ?_)
        refine A6 ?_
        refine Ao A0 false 15 rfl rfl rfl A7 rfl (A5 Bb) ?_
        refine A4 [16] A7 ⟨A8 ?_,trivial⟩
        refine Am (j:=r2.2.2) A0 rfl rfl rfl rfl rfl rfl rfl rfl _ (B7 (j:=r2.2.2.toNat) (xs:=r.2.2.nodes) (e:=Av.c) (x:=⟨(r.2.2.nodes.getD r2.2.2.toNat default).kind,(r.2.2.nodes.getD r2.2.2.toNat default).a,(r.2.2.nodes.getD r2.2.2.toNat default).b,(r.2.2.nodes.getD r2.2.2.toNat default).outs++[r4.2.2-1]⟩) Ac rfl) (A8 ?_)
        refine A6 (B2 A7 (A8 ?_))
       rotate_left 1
       focus
        refine A8 ?_
        refine B6 A0 rfl rfl rfl rfl rfl rfl rfl rfl rfl rfl rfl (Au ((r.2.2.nodes.getD r2.2.2.toNat default).outs++[r4.2.2-1])) (Ad rfl) Bp Ac (A8 ?_)
        refine A6 (A4 [1] A7 ⟨A8 ?_,trivial⟩)
        refine A6 (A4 [14] A7 ⟨A8 ?_,trivial⟩)
        (repeat refine An ?_)
        refine A6 ?_
        refine Ao A0 false 15 rfl rfl rfl A7 rfl (A5 Bb) ?_
        refine A4 [16] A7 ⟨A8 ?_,trivial⟩
        refine Am (j:=r2.2.2) A0 rfl rfl rfl rfl rfl rfl rfl rfl _ (B7 (j:=r2.2.2.toNat) (xs:=r.2.2.nodes) (e:=Av.c) (x:=⟨(r.2.2.nodes.getD r2.2.2.toNat default).kind,(r.2.2.nodes.getD r2.2.2.toNat default).a,(r.2.2.nodes.getD r2.2.2.toNat default).b,(r.2.2.nodes.getD r2.2.2.toNat default).outs++[r4.2.2-1]⟩) Ac rfl) (A8 ?_)
        refine A6 (B2 A7 (A8 ?_))
     rotate_left 3
     focus
      refine A8 ?_
      refine A6 ?_
      refine A4 [1,8] A7 ⟨?_,?_,trivial⟩
      focus
       refine A8 ?_
       refine A6 (A4 [8] A7 ⟨A8 ?_,trivial⟩)
       refine Ce A0 rfl rfl rfl rfl rfl rfl (c:=Au (r.2.2.nodes.getD r2.2.2.toNat default).outs) rfl (fun v=>go A0 false ?_)
       conv=>whnf
       refine A6 (A4 [13] A7 ⟨A8 ?_,trivial⟩)
       refine B6 A0 rfl rfl rfl rfl rfl rfl rfl rfl rfl rfl rfl (Au ((r.2.2.nodes.getD r2.2.2.toNat default).outs++[r4.2.2-1])) (Ad rfl) Bp Ac (A8 ?_)
       refine A6 (A4 [14] A7 ⟨A8 ?_,trivial⟩)
       (repeat refine An ?_)
       refine A6 ?_
       refine Ao A0 false 15 rfl rfl rfl A7 rfl (A5 Bb) ?_
       refine A4 [16] A7 ⟨A8 ?_,trivial⟩
       refine Am (j:=r2.2.2) A0 rfl rfl rfl rfl rfl rfl rfl rfl _ (B7 (j:=r2.2.2.toNat) (xs:=r.2.2.nodes) (e:=Av.c) (x:=⟨(r.2.2.nodes.getD r2.2.2.toNat default).kind,(r.2.2.nodes.getD r2.2.2.toNat default).a,(r.2.2.nodes.getD r2.2.2.toNat default).b,(r.2.2.nodes.getD r2.2.2.toNat default).outs++[r4.2.2-1]⟩) Ac rfl) (A8 ?_)
       refine A6 (B2 A7 (A8 ?_))
      rotate_left 1
      focus
       refine A8 ?_
       refine Ce A0 rfl rfl rfl rfl rfl rfl (c:=Au (r.2.2.nodes.getD r2.2.2.toNat default).outs) rfl (fun v=>go A0 false ?_)
       conv=>whnf
       refine A6 ?_
       refine A4 [1,13] A7 ⟨?_,?_,trivial⟩
       focus
        refine A8 ?_
        refine A6 (A4 [13] A7 ⟨A8 ?_,trivial⟩)
        refine B6 A0 rfl rfl rfl rfl rfl rfl rfl rfl rfl rfl rfl (Au ((r.2.2.nodes.getD r2.2.2.toNat default).outs++[r4.2.2-1])) (Ad rfl) Bp Ac (A8 ?_)
        refine A6 (A4 [14] A7 ⟨A8 ?_,trivial⟩)
        (repeat refine An ?_)
        refine A6 ?_
        refine Ao A0 false 15 rfl rfl rfl A7 rfl (A5 Bb) ?_
        refine A4 [16] A7 ⟨A8 ?_,trivial⟩
        refine Am (j:=r2.2.2) A0 rfl rfl rfl rfl rfl rfl rfl rfl _ (B7 (j:=r2.2.2.toNat) (xs:=r.2.2.nodes) (e:=Av.c) (x:=⟨(r.2.2.nodes.getD r2.2.2.toNat default).kind,(r.2.2.nodes.getD r2.2.2.toNat default).a,(r.2.2.nodes.getD r2.2.2.toNat default).b,(r.2.2.nodes.getD r2.2.2.toNat default).outs++[r4.2.2-1]⟩) Ac rfl) (A8 ?_)
        refine A6 (B2 A7 (A8 ?_))
       rotate_left 1
       focus
        refine A8 ?_
        refine B6 A0 rfl rfl rfl rfl rfl rfl rfl rfl rfl rfl rfl (Au ((r.2.2.nodes.getD r2.2.2.toNat default).outs++[r4.2.2-1])) (Ad rfl) Bp Ac (A8 ?_)
        refine A6 (A4 [1] A7 ⟨A8 ?_,trivial⟩)
        refine A6 (A4 [14] A7 ⟨A8 ?_,trivial⟩)
        (repeat refine An ?_)
        refine A6 ?_
        refine Ao A0 false 15 rfl rfl rfl A7 rfl (A5 Bb) ?_
        refine A4 [16] A7 ⟨A8 ?_,trivial⟩
        refine Am (j:=r2.2.2) A0 rfl rfl rfl rfl rfl rfl rfl rfl _ (B7 (j:=r2.2.2.toNat) (xs:=r.2.2.nodes) (e:=Av.c) (x:=⟨(r.2.2.nodes.getD r2.2.2.toNat default).kind,(r.2.2.nodes.getD r2.2.2.toNat default).a,(r.2.2.nodes.getD r2.2.2.toNat default).b,(r.2.2.nodes.getD r2.2.2.toNat default).outs++[r4.2.2-1]⟩) Ac rfl) (A8 ?_)
        refine A6 (B2 A7 (A8 ?_))
   rotate_left 15
   focus
    refine A8 ?_
    refine Ak (Ai d r3.1 r3.2.1 9 hr3.1 Az) hH hp rfl B1 rfl rfl (fun r4 hr4=>go A0 false ?_)
    conv=>whnf
    refine A6 ?_
    refine Ao A0 false 11 rfl rfl rfl A7 rfl (A5 Bb) ?_
    refine A4 [1,6,12] A7 ⟨?_,?_,?_,trivial⟩
    focus
     refine A8 ?_
     refine A6 ?_
     refine A4 [6,12] A7 ⟨?_,?_,trivial⟩
     focus
      refine A8 ?_
      (repeat refine An ?_)
      refine A6 ?_
      refine Ao A0 false 7 rfl rfl rfl A7 rfl (A5 Bb) ?_
      refine A4 [8,12] A7 ⟨?_,?_,trivial⟩
      focus
       refine A8 ?_
       refine Ce A0 rfl rfl rfl rfl rfl rfl (c:=Au (r.2.2.nodes.getD r2.2.2.toNat default).outs) rfl (fun v=>go A0 false ?_)
       conv=>whnf
       refine A6 (A4 [12] A7 ⟨A8 ?_,trivial⟩)
       refine A6 (A4 [13] A7 ⟨A8 ?_,trivial⟩)
       refine B6 A0 rfl rfl rfl rfl rfl rfl rfl rfl rfl rfl rfl (Au ((r.2.2.nodes.getD r2.2.2.toNat default).outs++[r4.2.2-1])) (Ad rfl) Bp Ac (A8 ?_)
       refine A6 (A4 [14] A7 ⟨A8 ?_,trivial⟩)
       (repeat refine An ?_)
       refine A6 ?_
       refine Ao A0 false 15 rfl rfl rfl A7 rfl (A5 Bb) ?_
       refine A4 [16] A7 ⟨A8 ?_,trivial⟩
       refine Am (j:=r2.2.2) A0 rfl rfl rfl rfl rfl rfl rfl rfl _ (B7 (j:=r2.2.2.toNat) (xs:=r.2.2.nodes) (e:=Av.c) (x:=⟨(r.2.2.nodes.getD r2.2.2.toNat default).kind,(r.2.2.nodes.getD r2.2.2.toNat default).a,(r.2.2.nodes.getD r2.2.2.toNat default).b,(r.2.2.nodes.getD r2.2.2.toNat default).outs++[r4.2.2-1]⟩) Ac rfl) (A8 ?_)
       refine A6 (B2 A7 (A8 ?_))
      rotate_left 1
      focus
       refine A8 ?_
       refine A6 (A4 [8] A7 ⟨A8 ?_,trivial⟩)
       refine Ce A0 rfl rfl rfl rfl rfl rfl (c:=Au (r.2.2.nodes.getD r2.2.2.toNat default).outs) rfl (fun v=>go A0 false ?_)
       conv=>whnf
       refine A6 (A4 [13] A7 ⟨A8 ?_,trivial⟩)
       refine B6 A0 rfl rfl rfl rfl rfl rfl rfl rfl rfl rfl rfl (Au ((r.2.2.nodes.getD r2.2.2.toNat default).outs++[r4.2.2-1])) (Ad rfl) Bp Ac (A8 ?_)
       refine A6 (A4 [14] A7 ⟨A8 ?_,trivial⟩)
       (repeat refine An ?_)
       refine A6 ?_
       refine Ao A0 false 15 rfl rfl rfl A7 rfl (A5 Bb) ?_
       refine A4 [16] A7 ⟨A8 ?_,trivial⟩
       refine Am (j:=r2.2.2) A0 rfl rfl rfl rfl rfl rfl rfl rfl _ (B7 (j:=r2.2.2.toNat) (xs:=r.2.2.nodes) (e:=Av.c) (x:=⟨(r.2.2.nodes.getD r2.2.2.toNat default).kind,(r.2.2.nodes.getD r2.2.2.toNat default).a,(r.2.2.nodes.getD r2.2.2.toNat default).b,(r.2.2.nodes.getD r2.2.2.toNat default).outs++[r4.2.2-1]⟩) Ac rfl) (A8 ?_)
       refine A6 (B2 A7 (A8 ?_))
     rotate_left 2
     focus
      refine A8 ?_
      refine A6 (A4 [6] A7 ⟨A8 ?_,trivial⟩)
      (repeat refine An ?_)
      refine A6 ?_
      refine Ao A0 false 7 rfl rfl rfl A7 rfl (A5 Bb) ?_
      refine A4 [8] A7 ⟨A8 ?_,trivial⟩
      refine Ce A0 rfl rfl rfl rfl rfl rfl (c:=Au (r.2.2.nodes.getD r2.2.2.toNat default).outs) rfl (fun v=>go A0 false ?_)
      conv=>whnf
      refine A6 (A4 [13] A7 ⟨A8 ?_,trivial⟩)
      refine B6 A0 rfl rfl rfl rfl rfl rfl rfl rfl rfl rfl rfl (Au ((r.2.2.nodes.getD r2.2.2.toNat default).outs++[r4.2.2-1])) (Ad rfl) Bp Ac (A8 ?_)
      refine A6 (A4 [14] A7 ⟨A8 ?_,trivial⟩)
      (repeat refine An ?_)
      refine A6 ?_
      refine Ao A0 false 15 rfl rfl rfl A7 rfl (A5 Bb) ?_
      refine A4 [16] A7 ⟨A8 ?_,trivial⟩
      refine Am (j:=r2.2.2) A0 rfl rfl rfl rfl rfl rfl rfl rfl _ (B7 (j:=r2.2.2.toNat) (xs:=r.2.2.nodes) (e:=Av.c) (x:=⟨(r.2.2.nodes.getD r2.2.2.toNat default).kind,(r.2.2.nodes.getD r2.2.2.toNat default).a,(r.2.2.nodes.getD r2.2.2.toNat default).b,(r.2.2.nodes.getD r2.2.2.toNat default).outs++[r4.2.2-1]⟩) Ac rfl) (A8 ?_)
      refine A6 (B2 A7 (A8 ?_))
    rotate_left 3
    focus
     refine A8 ?_
     (repeat refine An ?_)
     refine A6 ?_
     refine Ao A0 false 7 rfl rfl rfl A7 rfl (A5 Bb) ?_
     refine A4 [1,8,12] A7 ⟨?_,?_,?_,trivial⟩
     focus
      refine A8 ?_
      refine A6 ?_
      refine A4 [8,12] A7 ⟨?_,?_,trivial⟩
      focus
       refine A8 ?_
       refine Ce A0 rfl rfl rfl rfl rfl rfl (c:=Au (r.2.2.nodes.getD r2.2.2.toNat default).outs) rfl (fun v=>go A0 false ?_)
       conv=>whnf
       refine A6 (A4 [12] A7 ⟨A8 ?_,trivial⟩)
       refine A6 (A4 [13] A7 ⟨A8 ?_,trivial⟩)
       refine B6 A0 rfl rfl rfl rfl rfl rfl rfl rfl rfl rfl rfl (Au ((r.2.2.nodes.getD r2.2.2.toNat default).outs++[r4.2.2-1])) (Ad rfl) Bp Ac (A8 ?_)
       refine A6 (A4 [14] A7 ⟨A8 ?_,trivial⟩)
       (repeat refine An ?_)
       refine A6 ?_
       refine Ao A0 false 15 rfl rfl rfl A7 rfl (A5 Bb) ?_
       refine A4 [16] A7 ⟨A8 ?_,trivial⟩
       refine Am (j:=r2.2.2) A0 rfl rfl rfl rfl rfl rfl rfl rfl _ (B7 (j:=r2.2.2.toNat) (xs:=r.2.2.nodes) (e:=Av.c) (x:=⟨(r.2.2.nodes.getD r2.2.2.toNat default).kind,(r.2.2.nodes.getD r2.2.2.toNat default).a,(r.2.2.nodes.getD r2.2.2.toNat default).b,(r.2.2.nodes.getD r2.2.2.toNat default).outs++[r4.2.2-1]⟩) Ac rfl) (A8 ?_)
       refine A6 (B2 A7 (A8 ?_))
      rotate_left 1
      focus
       refine A8 ?_
       refine A6 (A4 [8] A7 ⟨A8 ?_,trivial⟩)
       refine Ce A0 rfl rfl rfl rfl rfl rfl (c:=Au (r.2.2.nodes.getD r2.2.2.toNat default).outs) rfl (fun v=>go A0 false ?_)
       conv=>whnf
       refine A6 (A4 [13] A7 ⟨A8 ?_,trivial⟩)
       refine B6 A0 rfl rfl rfl rfl rfl rfl rfl rfl rfl rfl rfl (Au ((r.2.2.nodes.getD r2.2.2.toNat default).outs++[r4.2.2-1])) (Ad rfl) Bp Ac (A8 ?_)
       refine A6 (A4 [14] A7 ⟨A8 ?_,trivial⟩)
       (repeat refine An ?_)
       refine A6 ?_
       refine Ao A0 false 15 rfl rfl rfl A7 rfl (A5 Bb) ?_
       refine A4 [16] A7 ⟨A8 ?_,trivial⟩
       refine Am (j:=r2.2.2) A0 rfl rfl rfl rfl rfl rfl rfl rfl _ (B7 (j:=r2.2.2.toNat) (xs:=r.2.2.nodes) (e:=Av.c) (x:=⟨(r.2.2.nodes.getD r2.2.2.toNat default).kind,(r.2.2.nodes.getD r2.2.2.toNat default).a,(r.2.2.nodes.getD r2.2.2.toNat default).b,(r.2.2.nodes.getD r2.2.2.toNat default).outs++[r4.2.2-1]⟩) Ac rfl) (A8 ?_)
       refine A6 (B2 A7 (A8 ?_))
     rotate_left 2
     focus
      refine A8 ?_
      refine Ce A0 rfl rfl rfl rfl rfl rfl (c:=Au (r.2.2.nodes.getD r2.2.2.toNat default).outs) rfl (fun v=>go A0 false ?_)
      conv=>whnf
      refine A6 ?_
      refine A4 [1,12] A7 ⟨?_,?_,trivial⟩
      focus
       refine A8 ?_
       refine A6 (A4 [12] A7 ⟨A8 ?_,trivial⟩)
       refine A6 (A4 [13] A7 ⟨A8 ?_,trivial⟩)
       refine B6 A0 rfl rfl rfl rfl rfl rfl rfl rfl rfl rfl rfl (Au ((r.2.2.nodes.getD r2.2.2.toNat default).outs++[r4.2.2-1])) (Ad rfl) Bp Ac (A8 ?_)
       refine A6 (A4 [14] A7 ⟨A8 ?_,trivial⟩)
       (repeat refine An ?_)
       refine A6 ?_
       refine Ao A0 false 15 rfl rfl rfl A7 rfl (A5 Bb) ?_
       refine A4 [16] A7 ⟨A8 ?_,trivial⟩
       refine Am (j:=r2.2.2) A0 rfl rfl rfl rfl rfl rfl rfl rfl _ (B7 (j:=r2.2.2.toNat) (xs:=r.2.2.nodes) (e:=Av.c) (x:=⟨(r.2.2.nodes.getD r2.2.2.toNat default).kind,(r.2.2.nodes.getD r2.2.2.toNat default).a,(r.2.2.nodes.getD r2.2.2.toNat default).b,(r.2.2.nodes.getD r2.2.2.toNat default).outs++[r4.2.2-1]⟩) Ac rfl) (A8 ?_)
       refine A6 (B2 A7 (A8 ?_))
      rotate_left 1
      focus
       refine A8 ?_
       refine A6 ?_
       refine A4 [1,13] A7 ⟨?_,?_,trivial⟩
       focus
        refine A8 ?_
        refine A6 (A4 [13] A7 ⟨A8 ?_,trivial⟩)
        refine B6 A0 rfl rfl rfl rfl rfl rfl rfl rfl rfl rfl rfl (Au ((r.2.2.nodes.getD r2.2.2.toNat default).outs++[r4.2.2-1])) (Ad rfl) Bp Ac (A8 ?_)
        refine A6 (A4 [14] A7 ⟨A8 ?_,trivial⟩)
        (repeat refine An ?_)
        refine A6 ?_
        refine Ao A0 false 15 rfl rfl rfl A7 rfl (A5 Bb) ?_
        refine A4 [16] A7 ⟨A8 ?_,trivial⟩
        refine Am (j:=r2.2.2) A0 rfl rfl rfl rfl rfl rfl rfl rfl _ (B7 (j:=r2.2.2.toNat) (xs:=r.2.2.nodes) (e:=Av.c) (x:=⟨(r.2.2.nodes.getD r2.2.2.toNat default).kind,(r.2.2.nodes.getD r2.2.2.toNat default).a,(r.2.2.nodes.getD r2.2.2.toNat default).b,(r.2.2.nodes.getD r2.2.2.toNat default).outs++[r4.2.2-1]⟩) Ac rfl) (A8 ?_)
        refine A6 (B2 A7 (A8 ?_))
       rotate_left 1
       focus
        refine A8 ?_
        refine B6 A0 rfl rfl rfl rfl rfl rfl rfl rfl rfl rfl rfl (Au ((r.2.2.nodes.getD r2.2.2.toNat default).outs++[r4.2.2-1])) (Ad rfl) Bp Ac (A8 ?_)
        refine A6 (A4 [1] A7 ⟨A8 ?_,trivial⟩)
        refine A6 (A4 [14] A7 ⟨A8 ?_,trivial⟩)
        (repeat refine An ?_)
        refine A6 ?_
        refine Ao A0 false 15 rfl rfl rfl A7 rfl (A5 Bb) ?_
        refine A4 [16] A7 ⟨A8 ?_,trivial⟩
        refine Am (j:=r2.2.2) A0 rfl rfl rfl rfl rfl rfl rfl rfl _ (B7 (j:=r2.2.2.toNat) (xs:=r.2.2.nodes) (e:=Av.c) (x:=⟨(r.2.2.nodes.getD r2.2.2.toNat default).kind,(r.2.2.nodes.getD r2.2.2.toNat default).a,(r.2.2.nodes.getD r2.2.2.toNat default).b,(r.2.2.nodes.getD r2.2.2.toNat default).outs++[r4.2.2-1]⟩) Ac rfl) (A8 ?_)
        refine A6 (B2 A7 (A8 ?_))
     rotate_left 3
     focus
      refine A8 ?_
      refine A6 ?_
      refine A4 [1,8] A7 ⟨?_,?_,trivial⟩
      focus
       refine A8 ?_
       refine A6 (A4 [8] A7 ⟨A8 ?_,trivial⟩)
       refine Ce A0 rfl rfl rfl rfl rfl rfl (c:=Au (r.2.2.nodes.getD r2.2.2.toNat default).outs) rfl (fun v=>go A0 false ?_)
       conv=>whnf
       refine A6 (A4 [13] A7 ⟨A8 ?_,trivial⟩)
       refine B6 A0 rfl rfl rfl rfl rfl rfl rfl rfl rfl rfl rfl (Au ((r.2.2.nodes.getD r2.2.2.toNat default).outs++[r4.2.2-1])) (Ad rfl) Bp Ac (A8 ?_)
       refine A6 (A4 [14] A7 ⟨A8 ?_,trivial⟩)
       (repeat refine An ?_)
       refine A6 ?_
       refine Ao A0 false 15 rfl rfl rfl A7 rfl (A5 Bb) ?_
       refine A4 [16] A7 ⟨A8 ?_,trivial⟩
       refine Am (j:=r2.2.2) A0 rfl rfl rfl rfl rfl rfl rfl rfl _ (B7 (j:=r2.2.2.toNat) (xs:=r.2.2.nodes) (e:=Av.c) (x:=⟨(r.2.2.nodes.getD r2.2.2.toNat default).kind,(r.2.2.nodes.getD r2.2.2.toNat default).a,(r.2.2.nodes.getD r2.2.2.toNat default).b,(r.2.2.nodes.getD r2.2.2.toNat default).outs++[r4.2.2-1]⟩) Ac rfl) (A8 ?_)
       refine A6 (B2 A7 (A8 ?_))
      rotate_left 1
      focus
       refine A8 ?_
       refine Ce A0 rfl rfl rfl rfl rfl rfl (c:=Au (r.2.2.nodes.getD r2.2.2.toNat default).outs) rfl (fun v=>go A0 false ?_)
       conv=>whnf
       refine A6 ?_
       refine A4 [1,13] A7 ⟨?_,?_,trivial⟩
       focus
        refine A8 ?_
        refine A6 (A4 [13] A7 ⟨A8 ?_,trivial⟩)
        refine B6 A0 rfl rfl rfl rfl rfl rfl rfl rfl rfl rfl rfl (Au ((r.2.2.nodes.getD r2.2.2.toNat default).outs++[r4.2.2-1])) (Ad rfl) Bp Ac (A8 ?_)
        refine A6 (A4 [14] A7 ⟨A8 ?_,trivial⟩)
        (repeat refine An ?_)
        refine A6 ?_
        refine Ao A0 false 15 rfl rfl rfl A7 rfl (A5 Bb) ?_
        refine A4 [16] A7 ⟨A8 ?_,trivial⟩
        refine Am (j:=r2.2.2) A0 rfl rfl rfl rfl rfl rfl rfl rfl _ (B7 (j:=r2.2.2.toNat) (xs:=r.2.2.nodes) (e:=Av.c) (x:=⟨(r.2.2.nodes.getD r2.2.2.toNat default).kind,(r.2.2.nodes.getD r2.2.2.toNat default).a,(r.2.2.nodes.getD r2.2.2.toNat default).b,(r.2.2.nodes.getD r2.2.2.toNat default).outs++[r4.2.2-1]⟩) Ac rfl) (A8 ?_)
        refine A6 (B2 A7 (A8 ?_))
       rotate_left 1
       focus
        refine A8 ?_
        refine B6 A0 rfl rfl rfl rfl rfl rfl rfl rfl rfl rfl rfl (Au ((r.2.2.nodes.getD r2.2.2.toNat default).outs++[r4.2.2-1])) (Ad rfl) Bp Ac (A8 ?_)
        refine A6 (A4 [1] A7 ⟨A8 ?_,trivial⟩)
        refine A6 (A4 [14] A7 ⟨A8 ?_,trivial⟩)
        (repeat refine An ?_)
        refine A6 ?_
        refine Ao A0 false 15 rfl rfl rfl A7 rfl (A5 Bb) ?_
        refine A4 [16] A7 ⟨A8 ?_,trivial⟩
        refine Am (j:=r2.2.2) A0 rfl rfl rfl rfl rfl rfl rfl rfl _ (B7 (j:=r2.2.2.toNat) (xs:=r.2.2.nodes) (e:=Av.c) (x:=⟨(r.2.2.nodes.getD r2.2.2.toNat default).kind,(r.2.2.nodes.getD r2.2.2.toNat default).a,(r.2.2.nodes.getD r2.2.2.toNat default).b,(r.2.2.nodes.getD r2.2.2.toNat default).outs++[r4.2.2-1]⟩) Ac rfl) (A8 ?_)
        refine A6 (B2 A7 (A8 ?_))
    rotate_left 8
    focus
     refine A8 ?_
     refine A6 ?_
     refine A4 [1,6] A7 ⟨?_,?_,trivial⟩
     focus
      refine A8 ?_
      refine A6 (A4 [6] A7 ⟨A8 ?_,trivial⟩)
      (repeat refine An ?_)
      refine A6 ?_
      refine Ao A0 false 7 rfl rfl rfl A7 rfl (A5 Bb) ?_
      refine A4 [8] A7 ⟨A8 ?_,trivial⟩
      refine Ce A0 rfl rfl rfl rfl rfl rfl (c:=Au (r.2.2.nodes.getD r2.2.2.toNat default).outs) rfl (fun v=>go A0 false ?_)
      conv=>whnf
      refine A6 (A4 [13] A7 ⟨A8 ?_,trivial⟩)
      refine B6 A0 rfl rfl rfl rfl rfl rfl rfl rfl rfl rfl rfl (Au ((r.2.2.nodes.getD r2.2.2.toNat default).outs++[r4.2.2-1])) (Ad rfl) Bp Ac (A8 ?_)
      refine A6 (A4 [14] A7 ⟨A8 ?_,trivial⟩)
      (repeat refine An ?_)
      refine A6 ?_
      refine Ao A0 false 15 rfl rfl rfl A7 rfl (A5 Bb) ?_
      refine A4 [16] A7 ⟨A8 ?_,trivial⟩
      refine Am (j:=r2.2.2) A0 rfl rfl rfl rfl rfl rfl rfl rfl _ (B7 (j:=r2.2.2.toNat) (xs:=r.2.2.nodes) (e:=Av.c) (x:=⟨(r.2.2.nodes.getD r2.2.2.toNat default).kind,(r.2.2.nodes.getD r2.2.2.toNat default).a,(r.2.2.nodes.getD r2.2.2.toNat default).b,(r.2.2.nodes.getD r2.2.2.toNat default).outs++[r4.2.2-1]⟩) Ac rfl) (A8 ?_)
      refine A6 (B2 A7 (A8 ?_))
     rotate_left 1
     focus
      refine A8 ?_
      (repeat refine An ?_)
      refine A6 ?_
      refine Ao A0 false 7 rfl rfl rfl A7 rfl (A5 Bb) ?_
      refine A4 [1,8] A7 ⟨?_,?_,trivial⟩
      focus
       refine A8 ?_
       refine A6 (A4 [8] A7 ⟨A8 ?_,trivial⟩)
       refine Ce A0 rfl rfl rfl rfl rfl rfl (c:=Au (r.2.2.nodes.getD r2.2.2.toNat default).outs) rfl (fun v=>go A0 false ?_)
       conv=>whnf
       refine A6 (A4 [13] A7 ⟨A8 ?_,trivial⟩)
       refine B6 A0 rfl rfl rfl rfl rfl rfl rfl rfl rfl rfl rfl (Au ((r.2.2.nodes.getD r2.2.2.toNat default).outs++[r4.2.2-1])) (Ad rfl) Bp Ac (A8 ?_)
       refine A6 (A4 [14] A7 ⟨A8 ?_,trivial⟩)
       (repeat refine An ?_)
       refine A6 ?_
       refine Ao A0 false 15 rfl rfl rfl A7 rfl (A5 Bb) ?_
       refine A4 [16] A7 ⟨A8 ?_,trivial⟩
       refine Am (j:=r2.2.2) A0 rfl rfl rfl rfl rfl rfl rfl rfl _ (B7 (j:=r2.2.2.toNat) (xs:=r.2.2.nodes) (e:=Av.c) (x:=⟨(r.2.2.nodes.getD r2.2.2.toNat default).kind,(r.2.2.nodes.getD r2.2.2.toNat default).a,(r.2.2.nodes.getD r2.2.2.toNat default).b,(r.2.2.nodes.getD r2.2.2.toNat default).outs++[r4.2.2-1]⟩) Ac rfl) (A8 ?_)
       refine A6 (B2 A7 (A8 ?_))
      rotate_left 1
      focus
       refine A8 ?_
       refine Ce A0 rfl rfl rfl rfl rfl rfl (c:=Au (r.2.2.nodes.getD r2.2.2.toNat default).outs) rfl (fun v=>go A0 false ?_)
       conv=>whnf
       refine A6 ?_
       refine A4 [1,13] A7 ⟨?_,?_,trivial⟩
       focus
        refine A8 ?_
        refine A6 (A4 [13] A7 ⟨A8 ?_,trivial⟩)
        refine B6 A0 rfl rfl rfl rfl rfl rfl rfl rfl rfl rfl rfl (Au ((r.2.2.nodes.getD r2.2.2.toNat default).outs++[r4.2.2-1])) (Ad rfl) Bp Ac (A8 ?_)
        refine A6 (A4 [14] A7 ⟨A8 ?_,trivial⟩)
        (repeat refine An ?_)
        refine A6 ?_
        refine Ao A0 false 15 rfl rfl rfl A7 rfl (A5 Bb) ?_
        refine A4 [16] A7 ⟨A8 ?_,trivial⟩
        refine Am (j:=r2.2.2) A0 rfl rfl rfl rfl rfl rfl rfl rfl _ (B7 (j:=r2.2.2.toNat) (xs:=r.2.2.nodes) (e:=Av.c) (x:=⟨(r.2.2.nodes.getD r2.2.2.toNat default).kind,(r.2.2.nodes.getD r2.2.2.toNat default).a,(r.2.2.nodes.getD r2.2.2.toNat default).b,(r.2.2.nodes.getD r2.2.2.toNat default).outs++[r4.2.2-1]⟩) Ac rfl) (A8 ?_)
        refine A6 (B2 A7 (A8 ?_))
       rotate_left 1
       focus
        refine A8 ?_
        refine B6 A0 rfl rfl rfl rfl rfl rfl rfl rfl rfl rfl rfl (Au ((r.2.2.nodes.getD r2.2.2.toNat default).outs++[r4.2.2-1])) (Ad rfl) Bp Ac (A8 ?_)
        refine A6 (A4 [1] A7 ⟨A8 ?_,trivial⟩)
        refine A6 (A4 [14] A7 ⟨A8 ?_,trivial⟩)
        (repeat refine An ?_)
        refine A6 ?_
        refine Ao A0 false 15 rfl rfl rfl A7 rfl (A5 Bb) ?_
        refine A4 [16] A7 ⟨A8 ?_,trivial⟩
        refine Am (j:=r2.2.2) A0 rfl rfl rfl rfl rfl rfl rfl rfl _ (B7 (j:=r2.2.2.toNat) (xs:=r.2.2.nodes) (e:=Av.c) (x:=⟨(r.2.2.nodes.getD r2.2.2.toNat default).kind,(r.2.2.nodes.getD r2.2.2.toNat default).a,(r.2.2.nodes.getD r2.2.2.toNat default).b,(r.2.2.nodes.getD r2.2.2.toNat default).outs++[r4.2.2-1]⟩) Ac rfl) (A8 ?_)
        refine A6 (B2 A7 (A8 ?_))
  rotate_left 36
  focus
   refine A8 ?_
   refine Ak (Ai d r3.1 r3.2.1 9 hr3.1 Az) hH hp rfl B1 rfl rfl (fun r4 hr4=>go A0 false ?_)
   conv=>whnf
   refine A6 ?_
   refine Ao A0 false 11 rfl rfl rfl A7 rfl (A5 Bb) ?_
   refine A4 [1,4,12] A7 ⟨?_,?_,?_,trivial⟩
   focus
    refine A8 ?_
    refine A6 ?_
    refine A4 [4,12] A7 ⟨?_,?_,trivial⟩
    focus
     refine A8 ?_
     refine A6 ?_
     refine A4 [6,12] A7 ⟨?_,?_,trivial⟩
     focus
      refine A8 ?_
      (repeat refine An ?_)
      refine A6 ?_
      refine Ao A0 false 7 rfl rfl rfl A7 rfl (A5 Bb) ?_
      refine A4 [8,12] A7 ⟨?_,?_,trivial⟩
      focus
       refine A8 ?_
       refine Ce A0 rfl rfl rfl rfl rfl rfl (c:=Au (r.2.2.nodes.getD r2.2.2.toNat default).outs) rfl (fun v=>go A0 false ?_)
       conv=>whnf
       refine A6 (A4 [12] A7 ⟨A8 ?_,trivial⟩)
       refine A6 (A4 [13] A7 ⟨A8 ?_,trivial⟩)
       refine B6 A0 rfl rfl rfl rfl rfl rfl rfl rfl rfl rfl rfl (Au ((r.2.2.nodes.getD r2.2.2.toNat default).outs++[r4.2.2-1])) (Ad rfl) Bp Ac (A8 ?_)
       refine A6 (A4 [14] A7 ⟨A8 ?_,trivial⟩)
       (repeat refine An ?_)
       refine A6 ?_
       refine Ao A0 false 15 rfl rfl rfl A7 rfl (A5 Bb) ?_
       refine A4 [16] A7 ⟨A8 ?_,trivial⟩
       refine Am (j:=r2.2.2) A0 rfl rfl rfl rfl rfl rfl rfl rfl _ (B7 (j:=r2.2.2.toNat) (xs:=r.2.2.nodes) (e:=Av.c) (x:=⟨(r.2.2.nodes.getD r2.2.2.toNat default).kind,(r.2.2.nodes.getD r2.2.2.toNat default).a,(r.2.2.nodes.getD r2.2.2.toNat default).b,(r.2.2.nodes.getD r2.2.2.toNat default).outs++[r4.2.2-1]⟩) Ac rfl) (A8 ?_)
       refine A6 (B2 A7 (A8 ?_))
      rotate_left 1
      focus
       refine A8 ?_
       refine A6 (A4 [8] A7 ⟨A8 ?_,trivial⟩)
       refine Ce A0 rfl rfl rfl rfl rfl rfl (c:=Au (r.2.2.nodes.getD r2.2.2.toNat default).outs) rfl (fun v=>go A0 false ?_)
       conv=>whnf
       refine A6 (A4 [13] A7 ⟨A8 ?_,trivial⟩)
       refine B6 A0 rfl rfl rfl rfl rfl rfl rfl rfl rfl rfl rfl (Au ((r.2.2.nodes.getD r2.2.2.toNat default).outs++[r4.2.2-1])) (Ad rfl) Bp Ac (A8 ?_)
       refine A6 (A4 [14] A7 ⟨A8 ?_,trivial⟩)
       (repeat refine An ?_)
       refine A6 ?_
       refine Ao A0 false 15 rfl rfl rfl A7 rfl (A5 Bb) ?_
       refine A4 [16] A7 ⟨A8 ?_,trivial⟩
       refine Am (j:=r2.2.2) A0 rfl rfl rfl rfl rfl rfl rfl rfl _ (B7 (j:=r2.2.2.toNat) (xs:=r.2.2.nodes) (e:=Av.c) (x:=⟨(r.2.2.nodes.getD r2.2.2.toNat default).kind,(r.2.2.nodes.getD r2.2.2.toNat default).a,(r.2.2.nodes.getD r2.2.2.toNat default).b,(r.2.2.nodes.getD r2.2.2.toNat default).outs++[r4.2.2-1]⟩) Ac rfl) (A8 ?_)
       refine A6 (B2 A7 (A8 ?_))
     rotate_left 2
     focus
      refine A8 ?_
      refine A6 (A4 [6] A7 ⟨A8 ?_,trivial⟩)
      (repeat refine An ?_)
      refine A6 ?_
      refine Ao A0 false 7 rfl rfl rfl A7 rfl (A5 Bb) ?_
      refine A4 [8] A7 ⟨A8 ?_,trivial⟩
      refine Ce A0 rfl rfl rfl rfl rfl rfl (c:=Au (r.2.2.nodes.getD r2.2.2.toNat default).outs) rfl (fun v=>go A0 false ?_)
      conv=>whnf
      refine A6 (A4 [13] A7 ⟨A8 ?_,trivial⟩)
      refine B6 A0 rfl rfl rfl rfl rfl rfl rfl rfl rfl rfl rfl (Au ((r.2.2.nodes.getD r2.2.2.toNat default).outs++[r4.2.2-1])) (Ad rfl) Bp Ac (A8 ?_)
      refine A6 (A4 [14] A7 ⟨A8 ?_,trivial⟩)
      (repeat refine An ?_)
      refine A6 ?_
      refine Ao A0 false 15 rfl rfl rfl A7 rfl (A5 Bb) ?_
      refine A4 [16] A7 ⟨A8 ?_,trivial⟩
      refine Am (j:=r2.2.2) A0 rfl rfl rfl rfl rfl rfl rfl rfl _ (B7 (j:=r2.2.2.toNat) (xs:=r.2.2.nodes) (e:=Av.c) (x:=⟨(r.2.2.nodes.getD r2.2.2.toNat default).kind,(r.2.2.nodes.getD r2.2.2.toNat default).a,(r.2.2.nodes.getD r2.2.2.toNat default).b,(r.2.2.nodes.getD r2.2.2.toNat default).outs++[r4.2.2-1]⟩) Ac rfl) (A8 ?_)
      refine A6 (B2 A7 (A8 ?_))
    rotate_left 3
    focus
     refine A8 ?_
     refine A6 (A4 [4] A7 ⟨A8 ?_,trivial⟩)
     refine A6 (A4 [6] A7 ⟨A8 ?_,trivial⟩)
     (repeat refine An ?_)
     refine A6 ?_
     refine Ao A0 false 7 rfl rfl rfl A7 rfl (A5 Bb) ?_
     refine A4 [8] A7 ⟨A8 ?_,trivial⟩
     refine Ce A0 rfl rfl rfl rfl rfl rfl (c:=Au (r.2.2.nodes.getD r2.2.2.toNat default).outs) rfl (fun v=>go A0 false ?_)
     conv=>whnf
     refine A6 (A4 [13] A7 ⟨A8 ?_,trivial⟩)
     refine B6 A0 rfl rfl rfl rfl rfl rfl rfl rfl rfl rfl rfl (Au ((r.2.2.nodes.getD r2.2.2.toNat default).outs++[r4.2.2-1])) (Ad rfl) Bp Ac (A8 ?_)
     refine A6 (A4 [14] A7 ⟨A8 ?_,trivial⟩)
     (repeat refine An ?_)
     refine A6 ?_
     refine Ao A0 false 15 rfl rfl rfl A7 rfl (A5 Bb) ?_
     refine A4 [16] A7 ⟨A8 ?_,trivial⟩
     refine Am (j:=r2.2.2) A0 rfl rfl rfl rfl rfl rfl rfl rfl _ (B7 (j:=r2.2.2.toNat) (xs:=r.2.2.nodes) (e:=Av.c) (x:=⟨(r.2.2.nodes.getD r2.2.2.toNat default).kind,(r.2.2.nodes.getD r2.2.2.toNat default).a,(r.2.2.nodes.getD r2.2.2.toNat default).b,(r.2.2.nodes.getD r2.2.2.toNat default).outs++[r4.2.2-1]⟩) Ac rfl) (A8 ?_)
     refine A6 (B2 A7 (A8 ?_))
   rotate_left 4
   focus
    refine A8 ?_
    refine A6 ?_
    refine A4 [1,6,12] A7 ⟨?_,?_,?_,trivial⟩
    focus
     refine A8 ?_
     refine A6 ?_
     refine A4 [6,12] A7 ⟨?_,?_,trivial⟩
     focus
      refine A8 ?_
      (repeat refine An ?_)
      refine A6 ?_
      refine Ao A0 false 7 rfl rfl rfl A7 rfl (A5 Bb) ?_
      refine A4 [8,12] A7 ⟨?_,?_,trivial⟩
      focus
       refine A8 ?_
       refine Ce A0 rfl rfl rfl rfl rfl rfl (c:=Au (r.2.2.nodes.getD r2.2.2.toNat default).outs) rfl (fun v=>go A0 false ?_)
       conv=>whnf
       refine A6 (A4 [12] A7 ⟨A8 ?_,trivial⟩)
       refine A6 (A4 [13] A7 ⟨A8 ?_,trivial⟩)
       refine B6 A0 rfl rfl rfl rfl rfl rfl rfl rfl rfl rfl rfl (Au ((r.2.2.nodes.getD r2.2.2.toNat default).outs++[r4.2.2-1])) (Ad rfl) Bp Ac (A8 ?_)
       refine A6 (A4 [14] A7 ⟨A8 ?_,trivial⟩)
       (repeat refine An ?_)
       refine A6 ?_
       refine Ao A0 false 15 rfl rfl rfl A7 rfl (A5 Bb) ?_
       refine A4 [16] A7 ⟨A8 ?_,trivial⟩
       refine Am (j:=r2.2.2) A0 rfl rfl rfl rfl rfl rfl rfl rfl _ (B7 (j:=r2.2.2.toNat) (xs:=r.2.2.nodes) (e:=Av.c) (x:=⟨(r.2.2.nodes.getD r2.2.2.toNat default).kind,(r.2.2.nodes.getD r2.2.2.toNat default).a,(r.2.2.nodes.getD r2.2.2.toNat default).b,(r.2.2.nodes.getD r2.2.2.toNat default).outs++[r4.2.2-1]⟩) Ac rfl) (A8 ?_)
       refine A6 (B2 A7 (A8 ?_))
      rotate_left 1
      focus
       refine A8 ?_
       refine A6 (A4 [8] A7 ⟨A8 ?_,trivial⟩)
       refine Ce A0 rfl rfl rfl rfl rfl rfl (c:=Au (r.2.2.nodes.getD r2.2.2.toNat default).outs) rfl (fun v=>go A0 false ?_)
       conv=>whnf
       refine A6 (A4 [13] A7 ⟨A8 ?_,trivial⟩)
       refine B6 A0 rfl rfl rfl rfl rfl rfl rfl rfl rfl rfl rfl (Au ((r.2.2.nodes.getD r2.2.2.toNat default).outs++[r4.2.2-1])) (Ad rfl) Bp Ac (A8 ?_)
       refine A6 (A4 [14] A7 ⟨A8 ?_,trivial⟩)
       (repeat refine An ?_)
       refine A6 ?_
       refine Ao A0 false 15 rfl rfl rfl A7 rfl (A5 Bb) ?_
       refine A4 [16] A7 ⟨A8 ?_,trivial⟩
       refine Am (j:=r2.2.2) A0 rfl rfl rfl rfl rfl rfl rfl rfl _ (B7 (j:=r2.2.2.toNat) (xs:=r.2.2.nodes) (e:=Av.c) (x:=⟨(r.2.2.nodes.getD r2.2.2.toNat default).kind,(r.2.2.nodes.getD r2.2.2.toNat default).a,(r.2.2.nodes.getD r2.2.2.toNat default).b,(r.2.2.nodes.getD r2.2.2.toNat default).outs++[r4.2.2-1]⟩) Ac rfl) (A8 ?_)
       refine A6 (B2 A7 (A8 ?_))
     rotate_left 2
     focus
      refine A8 ?_
      refine A6 (A4 [6] A7 ⟨A8 ?_,trivial⟩)
      (repeat refine An ?_)
      refine A6 ?_
      refine Ao A0 false 7 rfl rfl rfl A7 rfl (A5 Bb) ?_
      refine A4 [8] A7 ⟨A8 ?_,trivial⟩
      refine Ce A0 rfl rfl rfl rfl rfl rfl (c:=Au (r.2.2.nodes.getD r2.2.2.toNat default).outs) rfl (fun v=>go A0 false ?_)
      conv=>whnf
      refine A6 (A4 [13] A7 ⟨A8 ?_,trivial⟩)
      refine B6 A0 rfl rfl rfl rfl rfl rfl rfl rfl rfl rfl rfl (Au ((r.2.2.nodes.getD r2.2.2.toNat default).outs++[r4.2.2-1])) (Ad rfl) Bp Ac (A8 ?_)
      refine A6 (A4 [14] A7 ⟨A8 ?_,trivial⟩)
      (repeat refine An ?_)
      refine A6 ?_
      refine Ao A0 false 15 rfl rfl rfl A7 rfl (A5 Bb) ?_
      refine A4 [16] A7 ⟨A8 ?_,trivial⟩
      refine Am (j:=r2.2.2) A0 rfl rfl rfl rfl rfl rfl rfl rfl _ (B7 (j:=r2.2.2.toNat) (xs:=r.2.2.nodes) (e:=Av.c) (x:=⟨(r.2.2.nodes.getD r2.2.2.toNat default).kind,(r.2.2.nodes.getD r2.2.2.toNat default).a,(r.2.2.nodes.getD r2.2.2.toNat default).b,(r.2.2.nodes.getD r2.2.2.toNat default).outs++[r4.2.2-1]⟩) Ac rfl) (A8 ?_)
      refine A6 (B2 A7 (A8 ?_))
    rotate_left 3
    focus
     refine A8 ?_
     (repeat refine An ?_)
     refine A6 ?_
     refine Ao A0 false 7 rfl rfl rfl A7 rfl (A5 Bb) ?_
     refine A4 [1,8,12] A7 ⟨?_,?_,?_,trivial⟩
     focus
      refine A8 ?_
      refine A6 ?_
      refine A4 [8,12] A7 ⟨?_,?_,trivial⟩
      focus
       refine A8 ?_
       refine Ce A0 rfl rfl rfl rfl rfl rfl (c:=Au (r.2.2.nodes.getD r2.2.2.toNat default).outs) rfl (fun v=>go A0 false ?_)
       conv=>whnf
       refine A6 (A4 [12] A7 ⟨A8 ?_,trivial⟩)
       refine A6 (A4 [13] A7 ⟨A8 ?_,trivial⟩)
       refine B6 A0 rfl rfl rfl rfl rfl rfl rfl rfl rfl rfl rfl (Au ((r.2.2.nodes.getD r2.2.2.toNat default).outs++[r4.2.2-1])) (Ad rfl) Bp Ac (A8 ?_)
       refine A6 (A4 [14] A7 ⟨A8 ?_,trivial⟩)
       (repeat refine An ?_)
       refine A6 ?_
       refine Ao A0 false 15 rfl rfl rfl A7 rfl (A5 Bb) ?_
       refine A4 [16] A7 ⟨A8 ?_,trivial⟩
       refine Am (j:=r2.2.2) A0 rfl rfl rfl rfl rfl rfl rfl rfl _ (B7 (j:=r2.2.2.toNat) (xs:=r.2.2.nodes) (e:=Av.c) (x:=⟨(r.2.2.nodes.getD r2.2.2.toNat default).kind,(r.2.2.nodes.getD r2.2.2.toNat default).a,(r.2.2.nodes.getD r2.2.2.toNat default).b,(r.2.2.nodes.getD r2.2.2.toNat default).outs++[r4.2.2-1]⟩) Ac rfl) (A8 ?_)
       refine A6 (B2 A7 (A8 ?_))
      rotate_left 1
      focus
       refine A8 ?_
       refine A6 (A4 [8] A7 ⟨A8 ?_,trivial⟩)
       refine Ce A0 rfl rfl rfl rfl rfl rfl (c:=Au (r.2.2.nodes.getD r2.2.2.toNat default).outs) rfl (fun v=>go A0 false ?_)
       conv=>whnf
       refine A6 (A4 [13] A7 ⟨A8 ?_,trivial⟩)
       refine B6 A0 rfl rfl rfl rfl rfl rfl rfl rfl rfl rfl rfl (Au ((r.2.2.nodes.getD r2.2.2.toNat default).outs++[r4.2.2-1])) (Ad rfl) Bp Ac (A8 ?_)
       refine A6 (A4 [14] A7 ⟨A8 ?_,trivial⟩)
       (repeat refine An ?_)
       refine A6 ?_
       refine Ao A0 false 15 rfl rfl rfl A7 rfl (A5 Bb) ?_
       refine A4 [16] A7 ⟨A8 ?_,trivial⟩
       refine Am (j:=r2.2.2) A0 rfl rfl rfl rfl rfl rfl rfl rfl _ (B7 (j:=r2.2.2.toNat) (xs:=r.2.2.nodes) (e:=Av.c) (x:=⟨(r.2.2.nodes.getD r2.2.2.toNat default).kind,(r.2.2.nodes.getD r2.2.2.toNat default).a,(r.2.2.nodes.getD r2.2.2.toNat default).b,(r.2.2.nodes.getD r2.2.2.toNat default).outs++[r4.2.2-1]⟩) Ac rfl) (A8 ?_)
       refine A6 (B2 A7 (A8 ?_))
     rotate_left 2
     focus
      refine A8 ?_
      refine Ce A0 rfl rfl rfl rfl rfl rfl (c:=Au (r.2.2.nodes.getD r2.2.2.toNat default).outs) rfl (fun v=>go A0 false ?_)
      conv=>whnf
      refine A6 ?_
      refine A4 [1,12] A7 ⟨?_,?_,trivial⟩
      focus
       refine A8 ?_
       refine A6 (A4 [12] A7 ⟨A8 ?_,trivial⟩)
       refine A6 (A4 [13] A7 ⟨A8 ?_,trivial⟩)
       refine B6 A0 rfl rfl rfl rfl rfl rfl rfl rfl rfl rfl rfl (Au ((r.2.2.nodes.getD r2.2.2.toNat default).outs++[r4.2.2-1])) (Ad rfl) Bp Ac (A8 ?_)
       refine A6 (A4 [14] A7 ⟨A8 ?_,trivial⟩)
       (repeat refine An ?_)
       refine A6 ?_
       refine Ao A0 false 15 rfl rfl rfl A7 rfl (A5 Bb) ?_
       refine A4 [16] A7 ⟨A8 ?_,trivial⟩
       refine Am (j:=r2.2.2) A0 rfl rfl rfl rfl rfl rfl rfl rfl _ (B7 (j:=r2.2.2.toNat) (xs:=r.2.2.nodes) (e:=Av.c) (x:=⟨(r.2.2.nodes.getD r2.2.2.toNat default).kind,(r.2.2.nodes.getD r2.2.2.toNat default).a,(r.2.2.nodes.getD r2.2.2.toNat default).b,(r.2.2.nodes.getD r2.2.2.toNat default).outs++[r4.2.2-1]⟩) Ac rfl) (A8 ?_)
       refine A6 (B2 A7 (A8 ?_))
      rotate_left 1
      focus
       refine A8 ?_
       refine A6 ?_
       refine A4 [1,13] A7 ⟨?_,?_,trivial⟩
       focus
        refine A8 ?_
        refine A6 (A4 [13] A7 ⟨A8 ?_,trivial⟩)
        refine B6 A0 rfl rfl rfl rfl rfl rfl rfl rfl rfl rfl rfl (Au ((r.2.2.nodes.getD r2.2.2.toNat default).outs++[r4.2.2-1])) (Ad rfl) Bp Ac (A8 ?_)
        refine A6 (A4 [14] A7 ⟨A8 ?_,trivial⟩)
        (repeat refine An ?_)
        refine A6 ?_
        refine Ao A0 false 15 rfl rfl rfl A7 rfl (A5 Bb) ?_
        refine A4 [16] A7 ⟨A8 ?_,trivial⟩
        refine Am (j:=r2.2.2) A0 rfl rfl rfl rfl rfl rfl rfl rfl _ (B7 (j:=r2.2.2.toNat) (xs:=r.2.2.nodes) (e:=Av.c) (x:=⟨(r.2.2.nodes.getD r2.2.2.toNat default).kind,(r.2.2.nodes.getD r2.2.2.toNat default).a,(r.2.2.nodes.getD r2.2.2.toNat default).b,(r.2.2.nodes.getD r2.2.2.toNat default).outs++[r4.2.2-1]⟩) Ac rfl) (A8 ?_)
        refine A6 (B2 A7 (A8 ?_))
       rotate_left 1
       focus
        refine A8 ?_
        refine B6 A0 rfl rfl rfl rfl rfl rfl rfl rfl rfl rfl rfl (Au ((r.2.2.nodes.getD r2.2.2.toNat default).outs++[r4.2.2-1])) (Ad rfl) Bp Ac (A8 ?_)
        refine A6 (A4 [1] A7 ⟨A8 ?_,trivial⟩)
        refine A6 (A4 [14] A7 ⟨A8 ?_,trivial⟩)
        (repeat refine An ?_)
        refine A6 ?_
        refine Ao A0 false 15 rfl rfl rfl A7 rfl (A5 Bb) ?_
        refine A4 [16] A7 ⟨A8 ?_,trivial⟩
        refine Am (j:=r2.2.2) A0 rfl rfl rfl rfl rfl rfl rfl rfl _ (B7 (j:=r2.2.2.toNat) (xs:=r.2.2.nodes) (e:=Av.c) (x:=⟨(r.2.2.nodes.getD r2.2.2.toNat default).kind,(r.2.2.nodes.getD r2.2.2.toNat default).a,(r.2.2.nodes.getD r2.2.2.toNat default).b,(r.2.2.nodes.getD r2.2.2.toNat default).outs++[r4.2.2-1]⟩) Ac rfl) (A8 ?_)
        refine A6 (B2 A7 (A8 ?_))
     rotate_left 3
     focus
      refine A8 ?_
      refine A6 ?_
      refine A4 [1,8] A7 ⟨?_,?_,trivial⟩
      focus
       refine A8 ?_
       refine A6 (A4 [8] A7 ⟨A8 ?_,trivial⟩)
       refine Ce A0 rfl rfl rfl rfl rfl rfl (c:=Au (r.2.2.nodes.getD r2.2.2.toNat default).outs) rfl (fun v=>go A0 false ?_)
       conv=>whnf
       refine A6 (A4 [13] A7 ⟨A8 ?_,trivial⟩)
       refine B6 A0 rfl rfl rfl rfl rfl rfl rfl rfl rfl rfl rfl (Au ((r.2.2.nodes.getD r2.2.2.toNat default).outs++[r4.2.2-1])) (Ad rfl) Bp Ac (A8 ?_)
       refine A6 (A4 [14] A7 ⟨A8 ?_,trivial⟩)
       (repeat refine An ?_)
       refine A6 ?_
       refine Ao A0 false 15 rfl rfl rfl A7 rfl (A5 Bb) ?_
       refine A4 [16] A7 ⟨A8 ?_,trivial⟩
       refine Am (j:=r2.2.2) A0 rfl rfl rfl rfl rfl rfl rfl rfl _ (B7 (j:=r2.2.2.toNat) (xs:=r.2.2.nodes) (e:=Av.c) (x:=⟨(r.2.2.nodes.getD r2.2.2.toNat default).kind,(r.2.2.nodes.getD r2.2.2.toNat default).a,(r.2.2.nodes.getD r2.2.2.toNat default).b,(r.2.2.nodes.getD r2.2.2.toNat default).outs++[r4.2.2-1]⟩) Ac rfl) (A8 ?_)
       refine A6 (B2 A7 (A8 ?_))
      rotate_left 1
      focus
       refine A8 ?_
       refine Ce A0 rfl rfl rfl rfl rfl rfl (c:=Au (r.2.2.nodes.getD r2.2.2.toNat default).outs) rfl (fun v=>go A0 false ?_)
       conv=>whnf
       refine A6 ?_
       refine A4 [1,13] A7 ⟨?_,?_,trivial⟩
       focus
        refine A8 ?_
        refine A6 (A4 [13] A7 ⟨A8 ?_,trivial⟩)
        refine B6 A0 rfl rfl rfl rfl rfl rfl rfl rfl rfl rfl rfl (Au ((r.2.2.nodes.getD r2.2.2.toNat default).outs++[r4.2.2-1])) (Ad rfl) Bp Ac (A8 ?_)
        refine A6 (A4 [14] A7 ⟨A8 ?_,trivial⟩)
        (repeat refine An ?_)
        refine A6 ?_
        refine Ao A0 false 15 rfl rfl rfl A7 rfl (A5 Bb) ?_
        refine A4 [16] A7 ⟨A8 ?_,trivial⟩
        refine Am (j:=r2.2.2) A0 rfl rfl rfl rfl rfl rfl rfl rfl _ (B7 (j:=r2.2.2.toNat) (xs:=r.2.2.nodes) (e:=Av.c) (x:=⟨(r.2.2.nodes.getD r2.2.2.toNat default).kind,(r.2.2.nodes.getD r2.2.2.toNat default).a,(r.2.2.nodes.getD r2.2.2.toNat default).b,(r.2.2.nodes.getD r2.2.2.toNat default).outs++[r4.2.2-1]⟩) Ac rfl) (A8 ?_)
        refine A6 (B2 A7 (A8 ?_))
       rotate_left 1
       focus
        refine A8 ?_
        refine B6 A0 rfl rfl rfl rfl rfl rfl rfl rfl rfl rfl rfl (Au ((r.2.2.nodes.getD r2.2.2.toNat default).outs++[r4.2.2-1])) (Ad rfl) Bp Ac (A8 ?_)
        refine A6 (A4 [1] A7 ⟨A8 ?_,trivial⟩)
        refine A6 (A4 [14] A7 ⟨A8 ?_,trivial⟩)
        (repeat refine An ?_)
        refine A6 ?_
        refine Ao A0 false 15 rfl rfl rfl A7 rfl (A5 Bb) ?_
        refine A4 [16] A7 ⟨A8 ?_,trivial⟩
        refine Am (j:=r2.2.2) A0 rfl rfl rfl rfl rfl rfl rfl rfl _ (B7 (j:=r2.2.2.toNat) (xs:=r.2.2.nodes) (e:=Av.c) (x:=⟨(r.2.2.nodes.getD r2.2.2.toNat default).kind,(r.2.2.nodes.getD r2.2.2.toNat default).a,(r.2.2.nodes.getD r2.2.2.toNat default).b,(r.2.2.nodes.getD r2.2.2.toNat default).outs++[r4.2.2-1]⟩) Ac rfl) (A8 ?_)
        refine A6 (B2 A7 (A8 ?_))
    rotate_left 8
    focus
     refine A8 ?_
     refine A6 ?_
     refine A4 [1,6] A7 ⟨?_,?_,trivial⟩
     focus
      refine A8 ?_
      refine A6 (A4 [6] A7 ⟨A8 ?_,trivial⟩)
      (repeat refine An ?_)
      refine A6 ?_
      refine Ao A0 false 7 rfl rfl rfl A7 rfl (A5 Bb) ?_
      refine A4 [8] A7 ⟨A8 ?_,trivial⟩
      refine Ce A0 rfl rfl rfl rfl rfl rfl (c:=Au (r.2.2.nodes.getD r2.2.2.toNat default).outs) rfl (fun v=>go A0 false ?_)
      conv=>whnf
      refine A6 (A4 [13] A7 ⟨A8 ?_,trivial⟩)
      refine B6 A0 rfl rfl rfl rfl rfl rfl rfl rfl rfl rfl rfl (Au ((r.2.2.nodes.getD r2.2.2.toNat default).outs++[r4.2.2-1])) (Ad rfl) Bp Ac (A8 ?_)
      refine A6 (A4 [14] A7 ⟨A8 ?_,trivial⟩)
      (repeat refine An ?_)
      refine A6 ?_
      refine Ao A0 false 15 rfl rfl rfl A7 rfl (A5 Bb) ?_
      refine A4 [16] A7 ⟨A8 ?_,trivial⟩
      refine Am (j:=r2.2.2) A0 rfl rfl rfl rfl rfl rfl rfl rfl _ (B7 (j:=r2.2.2.toNat) (xs:=r.2.2.nodes) (e:=Av.c) (x:=⟨(r.2.2.nodes.getD r2.2.2.toNat default).kind,(r.2.2.nodes.getD r2.2.2.toNat default).a,(r.2.2.nodes.getD r2.2.2.toNat default).b,(r.2.2.nodes.getD r2.2.2.toNat default).outs++[r4.2.2-1]⟩) Ac rfl) (A8 ?_)
      refine A6 (B2 A7 (A8 ?_))
     rotate_left 1
     focus
      refine A8 ?_
      (repeat refine An ?_)
      refine A6 ?_
      refine Ao A0 false 7 rfl rfl rfl A7 rfl (A5 Bb) ?_
      refine A4 [1,8] A7 ⟨?_,?_,trivial⟩
      focus
       refine A8 ?_
       refine A6 (A4 [8] A7 ⟨A8 ?_,trivial⟩)
       refine Ce A0 rfl rfl rfl rfl rfl rfl (c:=Au (r.2.2.nodes.getD r2.2.2.toNat default).outs) rfl (fun v=>go A0 false ?_)
       conv=>whnf
       refine A6 (A4 [13] A7 ⟨A8 ?_,trivial⟩)
       refine B6 A0 rfl rfl rfl rfl rfl rfl rfl rfl rfl rfl rfl (Au ((r.2.2.nodes.getD r2.2.2.toNat default).outs++[r4.2.2-1])) (Ad rfl) Bp Ac (A8 ?_)
       refine A6 (A4 [14] A7 ⟨A8 ?_,trivial⟩)
       (repeat refine An ?_)
       refine A6 ?_
       refine Ao A0 false 15 rfl rfl rfl A7 rfl (A5 Bb) ?_
       refine A4 [16] A7 ⟨A8 ?_,trivial⟩
       refine Am (j:=r2.2.2) A0 rfl rfl rfl rfl rfl rfl rfl rfl _ (B7 (j:=r2.2.2.toNat) (xs:=r.2.2.nodes) (e:=Av.c) (x:=⟨(r.2.2.nodes.getD r2.2.2.toNat default).kind,(r.2.2.nodes.getD r2.2.2.toNat default).a,(r.2.2.nodes.getD r2.2.2.toNat default).b,(r.2.2.nodes.getD r2.2.2.toNat default).outs++[r4.2.2-1]⟩) Ac rfl) (A8 ?_)
       refine A6 (B2 A7 (A8 ?_))
      rotate_left 1
      focus
       refine A8 ?_
       refine Ce A0 rfl rfl rfl rfl rfl rfl (c:=Au (r.2.2.nodes.getD r2.2.2.toNat default).outs) rfl (fun v=>go A0 false ?_)
       conv=>whnf
       refine A6 ?_
       refine A4 [1,13] A7 ⟨?_,?_,trivial⟩
       focus
        refine A8 ?_
        refine A6 (A4 [13] A7 ⟨A8 ?_,trivial⟩)
        refine B6 A0 rfl rfl rfl rfl rfl rfl rfl rfl rfl rfl rfl (Au ((r.2.2.nodes.getD r2.2.2.toNat default).outs++[r4.2.2-1])) (Ad rfl) Bp Ac (A8 ?_)
        refine A6 (A4 [14] A7 ⟨A8 ?_,trivial⟩)
        (repeat refine An ?_)
        refine A6 ?_
        refine Ao A0 false 15 rfl rfl rfl A7 rfl (A5 Bb) ?_
        refine A4 [16] A7 ⟨A8 ?_,trivial⟩
        refine Am (j:=r2.2.2) A0 rfl rfl rfl rfl rfl rfl rfl rfl _ (B7 (j:=r2.2.2.toNat) (xs:=r.2.2.nodes) (e:=Av.c) (x:=⟨(r.2.2.nodes.getD r2.2.2.toNat default).kind,(r.2.2.nodes.getD r2.2.2.toNat default).a,(r.2.2.nodes.getD r2.2.2.toNat default).b,(r.2.2.nodes.getD r2.2.2.toNat default).outs++[r4.2.2-1]⟩) Ac rfl) (A8 ?_)
        refine A6 (B2 A7 (A8 ?_))
       rotate_left 1
       focus
        refine A8 ?_
        refine B6 A0 rfl rfl rfl rfl rfl rfl rfl rfl rfl rfl rfl (Au ((r.2.2.nodes.getD r2.2.2.toNat default).outs++[r4.2.2-1])) (Ad rfl) Bp Ac (A8 ?_)
        refine A6 (A4 [1] A7 ⟨A8 ?_,trivial⟩)
        refine A6 (A4 [14] A7 ⟨A8 ?_,trivial⟩)
        (repeat refine An ?_)
        refine A6 ?_
        refine Ao A0 false 15 rfl rfl rfl A7 rfl (A5 Bb) ?_
        refine A4 [16] A7 ⟨A8 ?_,trivial⟩
        refine Am (j:=r2.2.2) A0 rfl rfl rfl rfl rfl rfl rfl rfl _ (B7 (j:=r2.2.2.toNat) (xs:=r.2.2.nodes) (e:=Av.c) (x:=⟨(r.2.2.nodes.getD r2.2.2.toNat default).kind,(r.2.2.nodes.getD r2.2.2.toNat default).a,(r.2.2.nodes.getD r2.2.2.toNat default).b,(r.2.2.nodes.getD r2.2.2.toNat default).outs++[r4.2.2-1]⟩) Ac rfl) (A8 ?_)
        refine A6 (B2 A7 (A8 ?_))
   rotate_left 15
   focus
    refine A8 ?_
    refine A6 ?_
    refine A4 [1,4] A7 ⟨?_,?_,trivial⟩
    focus
     refine A8 ?_
     refine A6 (A4 [4] A7 ⟨A8 ?_,trivial⟩)
     refine A6 (A4 [6] A7 ⟨A8 ?_,trivial⟩)
     (repeat refine An ?_)
     refine A6 ?_
     refine Ao A0 false 7 rfl rfl rfl A7 rfl (A5 Bb) ?_
     refine A4 [8] A7 ⟨A8 ?_,trivial⟩
     refine Ce A0 rfl rfl rfl rfl rfl rfl (c:=Au (r.2.2.nodes.getD r2.2.2.toNat default).outs) rfl (fun v=>go A0 false ?_)
     conv=>whnf
     refine A6 (A4 [13] A7 ⟨A8 ?_,trivial⟩)
     refine B6 A0 rfl rfl rfl rfl rfl rfl rfl rfl rfl rfl rfl (Au ((r.2.2.nodes.getD r2.2.2.toNat default).outs++[r4.2.2-1])) (Ad rfl) Bp Ac (A8 ?_)
     refine A6 (A4 [14] A7 ⟨A8 ?_,trivial⟩)
     (repeat refine An ?_)
     refine A6 ?_
     refine Ao A0 false 15 rfl rfl rfl A7 rfl (A5 Bb) ?_
     refine A4 [16] A7 ⟨A8 ?_,trivial⟩
     refine Am (j:=r2.2.2) A0 rfl rfl rfl rfl rfl rfl rfl rfl _ (B7 (j:=r2.2.2.toNat) (xs:=r.2.2.nodes) (e:=Av.c) (x:=⟨(r.2.2.nodes.getD r2.2.2.toNat default).kind,(r.2.2.nodes.getD r2.2.2.toNat default).a,(r.2.2.nodes.getD r2.2.2.toNat default).b,(r.2.2.nodes.getD r2.2.2.toNat default).outs++[r4.2.2-1]⟩) Ac rfl) (A8 ?_)
     refine A6 (B2 A7 (A8 ?_))
    rotate_left 1
    focus
     refine A8 ?_
     refine A6 ?_
     refine A4 [1,6] A7 ⟨?_,?_,trivial⟩
     focus
      refine A8 ?_
      refine A6 (A4 [6] A7 ⟨A8 ?_,trivial⟩)
      (repeat refine An ?_)
      refine A6 ?_
      refine Ao A0 false 7 rfl rfl rfl A7 rfl (A5 Bb) ?_
      refine A4 [8] A7 ⟨A8 ?_,trivial⟩
      refine Ce A0 rfl rfl rfl rfl rfl rfl (c:=Au (r.2.2.nodes.getD r2.2.2.toNat default).outs) rfl (fun v=>go A0 false ?_)
      conv=>whnf
      refine A6 (A4 [13] A7 ⟨A8 ?_,trivial⟩)
      refine B6 A0 rfl rfl rfl rfl rfl rfl rfl rfl rfl rfl rfl (Au ((r.2.2.nodes.getD r2.2.2.toNat default).outs++[r4.2.2-1])) (Ad rfl) Bp Ac (A8 ?_)
      refine A6 (A4 [14] A7 ⟨A8 ?_,trivial⟩)
      (repeat refine An ?_)
      refine A6 ?_
      refine Ao A0 false 15 rfl rfl rfl A7 rfl (A5 Bb) ?_
      refine A4 [16] A7 ⟨A8 ?_,trivial⟩
      refine Am (j:=r2.2.2) A0 rfl rfl rfl rfl rfl rfl rfl rfl _ (B7 (j:=r2.2.2.toNat) (xs:=r.2.2.nodes) (e:=Av.c) (x:=⟨(r.2.2.nodes.getD r2.2.2.toNat default).kind,(r.2.2.nodes.getD r2.2.2.toNat default).a,(r.2.2.nodes.getD r2.2.2.toNat default).b,(r.2.2.nodes.getD r2.2.2.toNat default).outs++[r4.2.2-1]⟩) Ac rfl) (A8 ?_)
      refine A6 (B2 A7 (A8 ?_))
     rotate_left 1
     focus
      refine A8 ?_
      (repeat refine An ?_)
      refine A6 ?_
      refine Ao A0 false 7 rfl rfl rfl A7 rfl (A5 Bb) ?_
      refine A4 [1,8] A7 ⟨?_,?_,trivial⟩
      focus
       refine A8 ?_
       refine A6 (A4 [8] A7 ⟨A8 ?_,trivial⟩)
       refine Ce A0 rfl rfl rfl rfl rfl rfl (c:=Au (r.2.2.nodes.getD r2.2.2.toNat default).outs) rfl (fun v=>go A0 false ?_)
       conv=>whnf
       refine A6 (A4 [13] A7 ⟨A8 ?_,trivial⟩)
       refine B6 A0 rfl rfl rfl rfl rfl rfl rfl rfl rfl rfl rfl (Au ((r.2.2.nodes.getD r2.2.2.toNat default).outs++[r4.2.2-1])) (Ad rfl) Bp Ac (A8 ?_)
       refine A6 (A4 [14] A7 ⟨A8 ?_,trivial⟩)
       (repeat refine An ?_)
       refine A6 ?_
       refine Ao A0 false 15 rfl rfl rfl A7 rfl (A5 Bb) ?_
       refine A4 [16] A7 ⟨A8 ?_,trivial⟩
       refine Am (j:=r2.2.2) A0 rfl rfl rfl rfl rfl rfl rfl rfl _ (B7 (j:=r2.2.2.toNat) (xs:=r.2.2.nodes) (e:=Av.c) (x:=⟨(r.2.2.nodes.getD r2.2.2.toNat default).kind,(r.2.2.nodes.getD r2.2.2.toNat default).a,(r.2.2.nodes.getD r2.2.2.toNat default).b,(r.2.2.nodes.getD r2.2.2.toNat default).outs++[r4.2.2-1]⟩) Ac rfl) (A8 ?_)
       refine A6 (B2 A7 (A8 ?_))
      rotate_left 1
      focus
       refine A8 ?_
       refine Ce A0 rfl rfl rfl rfl rfl rfl (c:=Au (r.2.2.nodes.getD r2.2.2.toNat default).outs) rfl (fun v=>go A0 false ?_)
       conv=>whnf
       refine A6 ?_
       refine A4 [1,13] A7 ⟨?_,?_,trivial⟩
       focus
        refine A8 ?_
        refine A6 (A4 [13] A7 ⟨A8 ?_,trivial⟩)
        refine B6 A0 rfl rfl rfl rfl rfl rfl rfl rfl rfl rfl rfl (Au ((r.2.2.nodes.getD r2.2.2.toNat default).outs++[r4.2.2-1])) (Ad rfl) Bp Ac (A8 ?_)
        refine A6 (A4 [14] A7 ⟨A8 ?_,trivial⟩)
        (repeat refine An ?_)
        refine A6 ?_
        refine Ao A0 false 15 rfl rfl rfl A7 rfl (A5 Bb) ?_
        refine A4 [16] A7 ⟨A8 ?_,trivial⟩
        refine Am (j:=r2.2.2) A0 rfl rfl rfl rfl rfl rfl rfl rfl _ (B7 (j:=r2.2.2.toNat) (xs:=r.2.2.nodes) (e:=Av.c) (x:=⟨(r.2.2.nodes.getD r2.2.2.toNat default).kind,(r.2.2.nodes.getD r2.2.2.toNat default).a,(r.2.2.nodes.getD r2.2.2.toNat default).b,(r.2.2.nodes.getD r2.2.2.toNat default).outs++[r4.2.2-1]⟩) Ac rfl) (A8 ?_)
        refine A6 (B2 A7 (A8 ?_))
       rotate_left 1
       focus
        refine A8 ?_
        refine B6 A0 rfl rfl rfl rfl rfl rfl rfl rfl rfl rfl rfl (Au ((r.2.2.nodes.getD r2.2.2.toNat default).outs++[r4.2.2-1])) (Ad rfl) Bp Ac (A8 ?_)
        refine A6 (A4 [1] A7 ⟨A8 ?_,trivial⟩)
        refine A6 (A4 [14] A7 ⟨A8 ?_,trivial⟩)
        (repeat refine An ?_)
        refine A6 ?_
        refine Ao A0 false 15 rfl rfl rfl A7 rfl (A5 Bb) ?_
        refine A4 [16] A7 ⟨A8 ?_,trivial⟩
        refine Am (j:=r2.2.2) A0 rfl rfl rfl rfl rfl rfl rfl rfl _ (B7 (j:=r2.2.2.toNat) (xs:=r.2.2.nodes) (e:=Av.c) (x:=⟨(r.2.2.nodes.getD r2.2.2.toNat default).kind,(r.2.2.nodes.getD r2.2.2.toNat default).a,(r.2.2.nodes.getD r2.2.2.toNat default).b,(r.2.2.nodes.getD r2.2.2.toNat default).outs++[r4.2.2-1]⟩) Ac rfl) (A8 ?_)
        refine A6 (B2 A7 (A8 ?_))
  all_goals
   have h4:=hr4.2.2.2 Az
   have h5:=hr4.2.1
   exact Bu A0 (r4.1,r4.2.1,⟨r.2.2.nodes.set r2.2.2.toNat ⟨(r.2.2.nodes.getD r2.2.2.toNat default).kind,(r.2.2.nodes.getD r2.2.2.toNat default).a,(r.2.2.nodes.getD r2.2.2.toNat default).b,(r.2.2.nodes.getD r2.2.2.toNat default).outs++[r4.2.2-1]⟩,r.2.2.workers,r.2.2.cap⟩) ⟨hr4.1,Jr (A2q hm ((A77 (m:=10) ⟨hx.1,hx2⟩ Az (Ds Ac Ac)).m Az)) (by rw [List.length_set];omega) (Ds Ac Ac) (Ds Ac Ac)⟩ rfl rfl rfl rfl B1
 repeat refine Bd ?_
 refine ⟨fun c4=>?_,fun c4=>?_⟩<;>conv=>whnf
 ·repeat refine Bd ?_
  refine C0 A0 false [6,9] (fun j:JGr=>[]) (fun j=>[⟨0,[.c (.val d.v),.c (vi j.i),.c (vi j.h)]⟩,⟨3,[.own 2,.c (vi r.2.2.workers),.c (vi r.2.2.cap)]⟩,⟨1,[.c (.val (.slice none 0 0)),.c (vi 0),.c (vi 0)]⟩]) (fun j=>[⟨2,Bn j.xs⟩]) (fun j=>(0≤j.i∧j.i≤d.n)∧Xw j.xs∧j.xs.length≤9) (fun j=>9-j.xs.length) (⟨r3.1,r3.2.1,r.2.2.nodes⟩) (⟨hr3.1,hm,Nat.le_trans hl.2 Az⟩) trivial Cg ⟨Ek,trivial⟩ Co A7 (fun j hj=>?_)
  conv=>whnf
  obtain ⟨hi2,hm2,hl2⟩:=hj
  refine Fx rfl ?_
  refine Ao A0 false 0 rfl rfl rfl A7 rfl (A5 Bb) ?_
  refine Ao A0 false 3 rfl rfl rfl A7 rfl (A5 Bb) ?_
  refine A4 [1,4] A7 ⟨?_,?_,trivial⟩
  focus
   refine A8 ?_
   refine A6 ?_
   refine A4 [2,4] A7 ⟨?_,?_,trivial⟩
   focus
    refine A8 ?_
    refine A6 (A4 [4] A7 ⟨A8 ?_,trivial⟩)
    refine Ak (Ai d j.i j.h 2 hi2 Az) hH hp rfl B1 rfl rfl (fun r9 hr9=>go A0 false ?_)
    conv=>whnf
    refine A6 ?_
    refine Ao A0 false 5 rfl rfl rfl A7 rfl (A5 Bb) ?_
    refine Ao A0 false 6 rfl rfl rfl A7 rfl (A5 Bb) ?_
    refine B2 A7 (A8 ?_)
   rotate_left 1
   focus
    refine A8 ?_
    refine Ak (Ai d j.i j.h 2 hi2 Az) hH hp rfl B1 rfl rfl (fun r9 hr9=>go A0 false ?_)
    conv=>whnf
    refine A6 ?_
    refine Ao A0 false 5 rfl rfl rfl A7 rfl (A5 Bb) ?_
    refine A4 [2] A7 ⟨A8 ?_,trivial⟩
    refine A6 ?_
    refine Ao A0 false 6 rfl rfl rfl A7 rfl (A5 Bb) ?_
    refine B2 A7 (A8 ?_)
  rotate_left 2
  focus
   refine A8 ?_
   refine Ak (Ai d j.i j.h 2 hi2 Az) hH hp rfl B1 rfl rfl (fun r9 hr9=>go A0 false ?_)
   conv=>whnf
   refine A6 ?_
   refine Ao A0 false 5 rfl rfl rfl A7 rfl (A5 Bb) ?_
   refine A4 [1] A7 ⟨A8 ?_,trivial⟩
   refine A6 (A4 [2] A7 ⟨A8 ?_,trivial⟩)
   refine A6 ?_
   refine Ao A0 false 6 rfl rfl rfl A7 rfl (A5 Bb) ?_
   refine B2 A7 (A8 ?_)
  all_goals
   have hn9:=hr9.2.2.2 Az
   have hn8:=hr9.2.1
   (repeat refine An ?_)
   refine F4 (fun hlt=>?_) fun hlt=>?_<;>conv=>whnf
   ·refine Eo 4 (Bn [⟨8,0,0,[]⟩]) rfl (Hn rfl A2m) ?_
    refine B6 A0 rfl rfl rfl rfl rfl rfl rfl rfl rfl rfl rfl (Bn (j.xs++[⟨8,0,0,[]⟩])) (Ad (xs:=j.xs) (x:=⟨8,0,0,[]⟩) (e:=Av.c) rfl) Bp (by simp only [List.length_cons,List.length_nil];omega) (A8 ?_)
    refine B8 [(2,5)] (⟨r9.1,r9.2.1,j.xs++[⟨8,0,0,[]⟩]⟩) (⟨hr9.1,A81 hm2 B9h,by rw [List.length_append];show _+1≤9;omega⟩) (by show 9-(j.xs++[(⟨8,0,0,[]⟩:Av)]).length<_;rw [List.length_append];show 9-(_+1)<_;omega) trivial ⟨rfl,trivial⟩ Cg A7 Co A7
   exact Bu A0 (r9.1,r9.2.1,⟨j.xs,r.2.2.workers,r.2.2.cap⟩) ⟨hr9.1,Jr hm2 Ac (Ds Ac Ac) (Ds Ac Ac)⟩ rfl rfl rfl rfl B1
 repeat refine Bd ?_
 refine ⟨fun c5=>?_,fun c5=>?_⟩<;>conv=>whnf
 ·repeat refine Bd ?_
  refine B33 A0 rfl rfl rfl rfl rfl rfl rfl rfl rfl ⟨hk0,by omega⟩ Ac _ rfl (A8 ?_)
  refine Ml 4 (Bn (r.2.2.nodes.take r2.2.2.toNat)) rfl (A86 Ac) ?_
  exact Bu A0 (r3.1,r3.2.1,⟨r.2.2.nodes.take r2.2.2.toNat,r.2.2.workers,r.2.2.cap⟩) ⟨hr3.1,Jr (A82 _ hm) (by rw [List.length_take];omega) (Ds Ac Ac) (Ds Ac Ac)⟩ rfl rfl rfl rfl B1
 repeat refine Bd ?_
 exact Bu A0 (r3.1,r3.2.1,r.2.2) ⟨hr3.1,Jr (ns:=r.2.2.nodes) (a:=r.2.2.workers) (b:=r.2.2.cap) hm Ac (Ds Ac Ac) (Ds Ac Ac)⟩ rfl rfl rfl rfl B1
end Go.Proofs.YtdendlkeiaccpaaGreatDoor
