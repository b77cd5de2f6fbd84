/- Part 33 of the proof that each of the laws FnTotals returns true for every input. No conditions. -/
import Derived.Test.YtdendlkeiaccpaaGreatP4
import Derived.Test.YtdendlkeiaccpaaGreatP32
import Derived.Test.YtdendlkeiaccpaaGreatP26

set_option linter.unusedSimpArgs false
set_option linter.unusedVariables false
set_option maxRecDepth 100000
namespace Go.Proofs.YtdendlkeiaccpaaGreat
open Go.Sx
def Zp (x:An):Prop:=x.ok∧x.outs.length≤20
def Vy (xs:List An):Prop:=∀x∈xs,Zp x
theorem Jc.m {m:Nat}{x:An}(h:Jc m x)(hm:m≤20):Zp x:=⟨h.1,Nat.le_trans h.2 hm⟩
theorem V8 {x:An}(h:Qu x):x.ok∧x.outs.length≤10:=by
 obtain ⟨h1,h2,h3,h4,h5⟩:=h
 exact ⟨⟨Dk Ab Ab,Dk Ab Ab,Dk Ab Ab,by rw [maxLen];omega,fun n hn=>by have:=h5 n hn;exact Dk Ab Ab⟩,h4⟩
theorem B1w {xs:List An}(h:Xp xs):Vy xs:=fun x hx=>⟨(V8 (h x hx)).1,Nat.le_trans (V8 (h x hx)).2 Aw⟩
theorem A5t {x:An}{xs:List An}(hs:Vy xs)(h:Zp x):Vy (xs++[x]):=fun y hy=>by
 rcases List.mem_append.1 hy with hy|hy
 ·exact hs y hy
 rw [List.mem_singleton.1 hy];exact h
theorem Zx {x:An}{xs:List An}{j:Nat}(hs:Vy xs)(h:Zp x):Vy (xs.set j x):=fun y hy=>by
 rcases List.mem_or_eq_of_mem_set hy with hy|rfl
 ·exact hs y hy
 exact h
theorem A5u {xs:List An}(k:Nat)(hs:Vy xs):Vy (xs.take k):=fun y hy=>hs y (List.mem_of_mem_take hy)
def A7w (g:Ao):Prop:=g.ok∧g.w≤1000
theorem A5k:∀{xs:List An},Vy xs→(xs.map An.w).sum≤20 * xs.length
 | [],_=>Nat.le_refl _
 |x::r,h=>by
  have h1:x.w≤20:=(h x (List.mem_cons_self ..)).2
  have h2:=A5k fun y hy=>h y (List.mem_cons_of_mem _ hy)
  rw [List.map_cons,List.sum_cons,List.length_cons]
  omega
theorem Ih {ns:List An}{a b:Int}(h:Vy ns)(hl:ns.length≤10)(ha:Et .i64 a)(hb:Et .i64 b):A7w ⟨ns,a,b⟩:=by
 refine ⟨⟨⟨by show ns.length≤maxLen;rw [maxLen];omega,fun x hx=>(h x hx).1⟩,ha,hb⟩,?_⟩
 have:=A5k h
 show ns.length+(ns.map An.w).sum≤1000
 omega
theorem Ax {α:Type} [Inhabited α] {es:Nat}{e:α→List Ae}{xs:List α}{j off:Nat}{v:Value}{x:α}{cs:List Ae}(hj:j<xs.length)(h:Cy (Cy (e (xs.getD j default)) off [.val v]) off cs=e x):
  O2 xs.length es (fun i=>if i=j then Cy (e (xs.getD i default)) off [.val v] else e (xs.getD i default)) j off cs (Kt es e (xs.set j x)):=by
 refine ⟨_,by rw [Kt,List.length_set],fun i hi hne=>?_,?_⟩
 ·simp only [if_neg hne,Go.Sx.getD_set_ne _ _ _ _ _ hne]
 simp only [if_true,h,Go.Sx.getD_set_self _ _ _ _ hj]
theorem A5y {α:Type} [Inhabited α] {es:Nat}{e:α→List Ae}{xs:List α}{m:Nat}(hm:m≤xs.length):Ge (.sl m es fun i=>e (xs.getD i default)) (Kt es e (xs.take m)):=by
 have hl:(xs.take m).length=m:=by rw [List.length_take];omega
 refine ⟨hl,rfl,fun i hi=>?_⟩
 have:(xs.take m).getD i default=xs.getD i default:=by
  simp [List.getD,hi]
 show Fh _ (e ((xs.take m).getD i default))
 rw [this]
 exact Fh.rfl' _
theorem B5t:Zp ⟨8,0,0,[]⟩:=by
 refine ⟨⟨Dk Aw Aw,Dk Aw Aw,Dk Aw Aw,Nat.zero_le _,fun n hn=>by cases hn⟩,Nat.zero_le _⟩
structure JGr where
 i:Int
 h:Int
 xs:List An
set_option maxHeartbeats 4000000 in
theorem A0d (d:Dy)(i h:Int)(hi:0≤i∧i≤d.n):Cr Tryz.prog HT 55 d.pins (d.cur i h) [] (fun r:Int×Int×Ao=>(0≤r.1∧r.1≤d.n)∧A7w r.2.2) (fun r=>d.cur r.1 r.2.1) (fun r=>[.agg r.2.2.c]):=by
 refine Df A0 false Tryz.func55 rfl Aw fun B b hH hp=>?_
 conv=>whnf
 refine Ai (A54 d i h hi) hH hp rfl At rfl rfl (fun r hr=>go A0 false ?_)
 conv=>whnf
 obtain ⟨hr1,_,hn,hl,hw,hc⟩:=hr
 have hm:=B1w hn
 refine Ai (Ah d r.1 r.2.1 r.2.2.nodes.length hr1 Ab) hH hp rfl At rfl rfl (fun r2 hr2=>go A0 false ?_)
 conv=>whnf
 have hk:=hr2.2.2.2 Ab
 have hk0:=hr2.2.1
 refine Ai (Ah d r2.1 r2.2.1 12 hr2.1 Aw) hH hp rfl At rfl rfl (fun r3 hr3=>go A0 false ?_)
 conv=>whnf
 refine ⟨fun c0=>?_,fun c0=>?_⟩<;>conv=>whnf
 ·repeat refine B7 ?_
  refine Fk rfl ?_
  refine Aj A0 false 0 rfl rfl rfl A7 rfl (A4 B1) ?_
  refine Aj A0 false 2 rfl rfl rfl A7 rfl (A4 B1) ?_
  refine Aj A0 false 3 rfl rfl rfl A7 rfl (A4 B1) ?_
  refine A3 [1,4] A7 ⟨?_,?_,trivial⟩
  focus
   refine A8 ?_
   refine A5 (A3 [4] A7 ⟨A8 ?_,trivial⟩)
   refine Ai (Tm d r3.1 r3.2.1 hr3.1) hH hp rfl At rfl rfl (fun r4 hr4=>go A0 false ?_)
   conv=>whnf
   refine A5 (A3 [5] A7 ⟨A8 ?_,trivial⟩)
   (repeat refine Am ?_)
   refine A5 (A3 [6] A7 ⟨A8 ?_,trivial⟩)
   refine Al (j:=r2.2.2) A0 rfl rfl rfl rfl rfl rfl rfl rfl _ (C0 (j:=r2.2.2.toNat) (xs:=r.2.2.nodes) (e:=An.c) (x:=r4.2.2) Ab rfl) (A8 ?_)
   refine A5 (Aq A7 (A8 ?_))
  rotate_left 1
  focus
   refine A8 ?_
   refine Ai (Tm d r3.1 r3.2.1 hr3.1) hH hp rfl At rfl rfl (fun r4 hr4=>go A0 false ?_)
   conv=>whnf
   refine A5 (A3 [1] A7 ⟨A8 ?_,trivial⟩)
   refine A5 (A3 [5] A7 ⟨A8 ?_,trivial⟩)
   (repeat refine Am ?_)
   refine A5 (A3 [6] A7 ⟨A8 ?_,trivial⟩)
   refine Al (j:=r2.2.2) A0 rfl rfl rfl rfl rfl rfl rfl rfl _ (C0 (j:=r2.2.2.toNat) (xs:=r.2.2.nodes) (e:=An.c) (x:=r4.2.2) Ab rfl) (A8 ?_)
   refine A5 (Aq A7 (A8 ?_))
  all_goals exact Bm A0 (r4.1,r4.2.1,⟨r.2.2.nodes.set r2.2.2.toNat r4.2.2,r.2.2.workers,r.2.2.cap⟩) ⟨hr4.1,Ih (Zx hm (hr4.2.m Aw)) (by rw [List.length_set];omega) (Dk Ab Ab) (Dk Ab Ab)⟩ rfl rfl rfl rfl At
 repeat refine B7 ?_
 refine ⟨fun c1=>?_,fun c1=>?_⟩<;>conv=>whnf
 ·repeat refine B7 ?_
  refine Em 4 (Ap [0,4,5,-1]) rfl (Ba rfl Cf) ?_
  refine Ai (D4 d r3.1 r3.2.1 [0,4,5,-1] hr3.1 Aw) hH hp rfl At rfl rfl (fun r4 hr4=>go A0 false ?_)
  conv=>whnf
  exact Bm A0 (r4.1,r4.2.1,⟨r.2.2.nodes,[0,4,5,-1].getD r4.2.2 0,r.2.2.cap⟩) ⟨hr4.1,Ih hm Ab (Fl _ _ (by intro x hx;simp only [List.mem_cons,List.not_mem_nil,or_false] at hx;show _∧_;omega)) (Dk Ab Ab)⟩ rfl rfl rfl rfl At
 repeat refine B7 ?_
 refine ⟨fun c2=>?_,fun c2=>?_⟩<;>conv=>whnf
 ·repeat refine B7 ?_
  refine Em 4 (Ap [0,4,5,-1]) rfl (Ba rfl Cf) ?_
  refine Ai (D4 d r3.1 r3.2.1 [0,4,5,-1] hr3.1 Aw) hH hp rfl At rfl rfl (fun r4 hr4=>go A0 false ?_)
  conv=>whnf
  exact Bm A0 (r4.1,r4.2.1,⟨r.2.2.nodes,r.2.2.workers,[0,4,5,-1].getD r4.2.2 0⟩) ⟨hr4.1,Ih hm Ab (Dk Ab Ab) (Fl _ _ (by intro x hx;simp only [List.mem_cons,List.not_mem_nil,or_false] at hx;show _∧_;omega))⟩ rfl rfl rfl rfl At
 repeat refine B7 ?_
 refine ⟨fun c3=>?_,fun c3=>?_⟩<;>conv=>whnf
 ·repeat refine B7 ?_
  have hx:=hm _ (B9 (d:=default) (show r2.2.2.toNat<r.2.2.nodes.length by omega))
  have hx2:=(V8 (hn _ (B9 (d:=default) (show r2.2.2.toNat<r.2.2.nodes.length by omega)))).2
  refine Fk rfl ?_
  refine Aj A0 false 0 rfl rfl rfl A7 rfl (A4 B1) ?_
  refine Aj A0 false 2 rfl rfl rfl A7 rfl (A4 B1) ?_
  refine Aj A0 false 3 rfl rfl rfl A7 rfl (A4 B1) ?_
  refine Aj A0 false 5 rfl rfl rfl A7 rfl (A4 B1) ?_
  refine Aj A0 false 9 rfl rfl rfl A7 rfl (A4 B1) ?_
  refine A3 [1,4,10] A7 ⟨?_,?_,?_,trivial⟩
  focus
   refine A8 ?_
   refine A5 ?_
   refine A3 [4,10] A7 ⟨?_,?_,trivial⟩
   focus
    refine A8 ?_
    refine A5 ?_
    refine A3 [6,10] A7 ⟨?_,?_,trivial⟩
    focus
     refine A8 ?_
     (repeat refine Am ?_)
     refine A5 ?_
     refine Aj A0 false 7 rfl rfl rfl A7 rfl (A4 B1) ?_
     refine A3 [8,10] A7 ⟨?_,?_,trivial⟩
     focus
      refine A8 ?_
      refine C7 A0 rfl rfl rfl rfl rfl rfl (c:=Ap (r.2.2.nodes.getD r2.2.2.toNat default).outs) rfl (fun v=>go A0 false ?_)
      conv=>whnf
      refine A5 (A3 [10] A7 ⟨A8 ?_,trivial⟩)
      refine Ai (Ah d r3.1 r3.2.1 9 hr3.1 Aw) hH hp rfl At rfl rfl (fun r4 hr4=>go A0 false ?_)
      conv=>whnf
      refine A5 ?_
      refine Aj A0 false 11 rfl rfl rfl A7 rfl (A4 B1) ?_
      refine A3 [12] A7 ⟨A8 ?_,trivial⟩
      refine A5 (A3 [13] A7 ⟨A8 ?_,trivial⟩)
      refine Av A0 rfl rfl rfl rfl rfl rfl rfl rfl rfl rfl rfl (Ap ((r.2.2.nodes.getD r2.2.2.toNat default).outs++[r4.2.2-1])) (Ad rfl) Bj Ab (A8 ?_)
      refine A5 (A3 [14] A7 ⟨A8 ?_,trivial⟩)
      (repeat refine Am ?_)
      refine A5 ?_
      refine Aj A0 false 15 rfl rfl rfl A7 rfl (A4 B1) ?_
      refine A3 [16] A7 ⟨A8 ?_,trivial⟩
      refine Al (j:=r2.2.2) A0 rfl rfl rfl rfl rfl rfl rfl rfl _ (Ax (j:=r2.2.2.toNat) (xs:=r.2.2.nodes) (e:=An.c) (x:=⟨(r.2.2.nodes.getD r2.2.2.toNat default).kind,(r.2.2.nodes.getD r2.2.2.toNat default).a,(r.2.2.nodes.getD r2.2.2.toNat default).b,(r.2.2.nodes.getD r2.2.2.toNat default).outs++[r4.2.2-1]⟩) Ab rfl) (A8 ?_)
      refine A5 (Aq A7 (A8 ?_))
     rotate_left 1
     focus
      refine A8 ?_
      refine Ai (Ah d r3.1 r3.2.1 9 hr3.1 Aw) hH hp rfl At rfl rfl (fun r4 hr4=>go A0 false ?_)
      conv=>whnf
      refine A5 ?_
      refine Aj A0 false 11 rfl rfl rfl A7 rfl (A4 B1) ?_
      refine A3 [8,12] A7 ⟨?_,?_,trivial⟩
      focus
       refine A8 ?_
       refine C7 A0 rfl rfl rfl rfl rfl rfl (c:=Ap (r.2.2.nodes.getD r2.2.2.toNat default).outs) rfl (fun v=>go A0 false ?_)
       conv=>whnf
       refine A5 (A3 [12] A7 ⟨A8 ?_,trivial⟩)
       refine A5 (A3 [13] A7 ⟨A8 ?_,trivial⟩)
       refine Av A0 rfl rfl rfl rfl rfl rfl rfl rfl rfl rfl rfl (Ap ((r.2.2.nodes.getD r2.2.2.toNat default).outs++[r4.2.2-1])) (Ad rfl) Bj Ab (A8 ?_)
       refine A5 (A3 [14] A7 ⟨A8 ?_,trivial⟩)
       (repeat refine Am ?_)
       refine A5 ?_
       refine Aj A0 false 15 rfl rfl rfl A7 rfl (A4 B1) ?_
       refine A3 [16] A7 ⟨A8 ?_,trivial⟩
       refine Al (j:=r2.2.2) A0 rfl rfl rfl rfl rfl rfl rfl rfl _ (Ax (j:=r2.2.2.toNat) (xs:=r.2.2.nodes) (e:=An.c) (x:=⟨(r.2.2.nodes.getD r2.2.2.toNat default).kind,(r.2.2.nodes.getD r2.2.2.toNat default).a,(r.2.2.nodes.getD r2.2.2.toNat default).b,(r.2.2.nodes.getD r2.2.2.toNat default).outs++[r4.2.2-1]⟩) Ab rfl) (A8 ?_)
       refine A5 (Aq A7 (A8 ?_))
      rotate_left 1
      focus
       refine A8 ?_
       refine A5 (A3 [8] A7 ⟨A8 ?_,trivial⟩)
       refine C7 A0 rfl rfl rfl rfl rfl rfl (c:=Ap (r.2.2.nodes.getD r2.2.2.toNat default).outs) rfl (fun v=>go A0 false ?_)
       conv=>whnf
       refine A5 (A3 [13] A7 ⟨A8 ?_,trivial⟩)
       refine Av A0 rfl rfl rfl rfl rfl rfl rfl rfl rfl rfl rfl (Ap ((r.2.2.nodes.getD r2.2.2.toNat default).outs++[r4.2.2-1])) (Ad rfl) Bj Ab (A8 ?_)
       refine A5 (A3 [14] A7 ⟨A8 ?_,trivial⟩)
       (repeat refine Am ?_)
       refine A5 ?_
       refine Aj A0 false 15 rfl rfl rfl A7 rfl (A4 B1) ?_
       refine A3 [16] A7 ⟨A8 ?_,trivial⟩
       refine Al (j:=r2.2.2) A0 rfl rfl rfl rfl rfl rfl rfl rfl _ (Ax (j:=r2.2.2.toNat) (xs:=r.2.2.nodes) (e:=An.c) (x:=⟨(r.2.2.nodes.getD r2.2.2.toNat default).kind,(r.2.2.nodes.getD r2.2.2.toNat default).a,(r.2.2.nodes.getD r2.2.2.toNat default).b,(r.2.2.nodes.getD r2.2.2.toNat default).outs++[r4.2.2-1]⟩) Ab rfl) (A8 ?_)
       refine A5 (Aq A7 (A8 ?_))
    rotate_left 3
    focus
     refine A8 ?_
     refine Ai (Ah d r3.1 r3.2.1 9 hr3.1 Aw) hH hp rfl At rfl rfl (fun r4 hr4=>go A0 false ?_)
     conv=>whnf
     refine A5 ?_
     refine Aj A0 false 11 rfl rfl rfl A7 rfl (A4 B1) ?_
     refine A3 [6,12] A7 ⟨?_,?_,trivial⟩
     focus
      refine A8 ?_
      (repeat refine Am ?_)
      refine A5 ?_
      refine Aj A0 false 7 rfl rfl rfl A7 rfl (A4 B1) ?_
      refine A3 [8,12] A7 ⟨?_,?_,trivial⟩
      focus
       refine A8 ?_
       refine C7 A0 rfl rfl rfl rfl rfl rfl (c:=Ap (r.2.2.nodes.getD r2.2.2.toNat default).outs) rfl (fun v=>go A0 false ?_)
       conv=>whnf
       refine A5 (A3 [12] A7 ⟨A8 ?_,trivial⟩)
       refine A5 (A3 [13] A7 ⟨A8 ?_,trivial⟩)
       refine Av A0 rfl rfl rfl rfl rfl rfl rfl rfl rfl rfl rfl (Ap ((r.2.2.nodes.getD r2.2.2.toNat default).outs++[r4.2.2-1])) (Ad rfl) Bj Ab (A8 ?_)
       refine A5 (A3 [14] A7 ⟨A8 ?_,trivial⟩)
       (repeat refine Am ?_)
       refine A5 ?_
       refine Aj A0 false 15 rfl rfl rfl A7 rfl (A4 B1) ?_
       refine A3 [16] A7 ⟨A8 ?_,trivial⟩
       refine Al (j:=r2.2.2) A0 rfl rfl rfl rfl rfl rfl rfl rfl _ (Ax (j:=r2.2.2.toNat) (xs:=r.2.2.nodes) (e:=An.c) (x:=⟨(r.2.2.nodes.getD r2.2.2.toNat default).kind,(r.2.2.nodes.getD r2.2.2.toNat default).a,(r.2.2.nodes.getD r2.2.2.toNat default).b,(r.2.2.nodes.getD r2.2.2.toNat default).outs++[r4.2.2-1]⟩) Ab rfl) (A8 ?_)
       refine A5 (Aq A7 (A8 ?_))
      rotate_left 1
      focus
       refine A8 ?_
       refine A5 (A3 [8] A7 ⟨A8 ?_,trivial⟩)
       refine C7 A0 rfl rfl rfl rfl rfl rfl (c:=Ap (r.2.2.nodes.getD r2.2.2.toNat default).outs) rfl (fun v=>go A0 false ?_)
       conv=>whnf
       refine A5 (A3 [13] A7 ⟨A8 ?_,trivial⟩)
       refine Av A0 rfl rfl rfl rfl rfl rfl rfl rfl rfl rfl rfl (Ap ((r.2.2.nodes.getD r2.2.2.toNat default).outs++[r4.2.2-1])) (Ad rfl) Bj Ab (A8 ?_)
       refine A5 (A3 [14] A7 ⟨A8 ?_,trivial⟩)
       (repeat refine Am ?_)
       refine A5 ?_
       refine Aj A0 false 15 rfl rfl rfl A7 rfl (A4 B1) ?_
       refine A3 [16] A7 ⟨A8 ?_,trivial⟩
       refine Al (j:=r2.2.2) A0 rfl rfl rfl rfl rfl rfl rfl rfl _ (Ax (j:=r2.2.2.toNat) (xs:=r.2.2.nodes) (e:=An.c) (x:=⟨(r.2.2.nodes.getD r2.2.2.toNat default).kind,(r.2.2.nodes.getD r2.2.2.toNat default).a,(r.2.2.nodes.getD r2.2.2.toNat default).b,(r.2.2.nodes.getD r2.2.2.toNat default).outs++[r4.2.2-1]⟩) Ab rfl) (A8 ?_)
       refine A5 (Aq A7 (A8 ?_))
     rotate_left 2
     focus
      refine A8 ?_
      refine A5 (A3 [6] A7 ⟨A8 ?_,trivial⟩)
      (repeat refine Am ?_)
      refine A5 ?_
      refine Aj A0 false 7 rfl rfl rfl A7 rfl (A4 B1) ?_
      refine A3 [8] A7 ⟨A8 ?_,trivial⟩
      refine C7 A0 rfl rfl rfl rfl rfl rfl (c:=Ap (r.2.2.nodes.getD r2.2.2.toNat default).outs) rfl (fun v=>go A0 false ?_)
      conv=>whnf
      refine A5 (A3 [13] A7 ⟨A8 ?_,trivial⟩)
      refine Av A0 rfl rfl rfl rfl rfl rfl rfl rfl rfl rfl rfl (Ap ((r.2.2.nodes.getD r2.2.2.toNat default).outs++[r4.2.2-1])) (Ad rfl) Bj Ab (A8 ?_)
      refine A5 (A3 [14] A7 ⟨A8 ?_,trivial⟩)
      (repeat refine Am ?_)
      refine A5 ?_
      refine Aj A0 false 15 rfl rfl rfl A7 rfl (A4 B1) ?_
      refine A3 [16] A7 ⟨A8 ?_,trivial⟩
      refine Al (j:=r2.2.2) A0 rfl rfl rfl rfl rfl rfl rfl rfl _ (Ax (j:=r2.2.2.toNat) (xs:=r.2.2.nodes) (e:=An.c) (x:=⟨(r.2.2.nodes.getD r2.2.2.toNat default).kind,(r.2.2.nodes.getD r2.2.2.toNat default).a,(r.2.2.nodes.getD r2.2.2.toNat default).b,(r.2.2.nodes.getD r2.2.2.toNat default).outs++[r4.2.2-1]⟩) Ab rfl) (A8 ?_)
      refine A5 (Aq A7 (A8 ?_))
   rotate_left 6
   focus
    refine A8 ?_
    refine Ai (Ah d r3.1 r3.2.1 9 hr3.1 Aw) hH hp rfl At rfl rfl (fun r4 hr4=>go A0 false ?_)
    conv=>whnf
    refine A5 ?_
    refine Aj A0 false 11 rfl rfl rfl A7 rfl (A4 B1) ?_
    refine A3 [4,12] A7 ⟨?_,?_,trivial⟩
    focus
     refine A8 ?_
     refine A5 ?_
     refine A3 [6,12] A7 ⟨?_,?_,trivial⟩
     focus
      refine A8 ?_
      (repeat refine Am ?_)
      refine A5 ?_
      refine Aj A0 false 7 rfl rfl rfl A7 rfl (A4 B1) ?_
      refine A3 [8,12] A7 ⟨?_,?_,trivial⟩
      focus
       refine A8 ?_
       refine C7 A0 rfl rfl rfl rfl rfl rfl (c:=Ap (r.2.2.nodes.getD r2.2.2.toNat default).outs) rfl (fun v=>go A0 false ?_)
       conv=>whnf
       refine A5 (A3 [12] A7 ⟨A8 ?_,trivial⟩)
       refine A5 (A3 [13] A7 ⟨A8 ?_,trivial⟩)
       refine Av A0 rfl rfl rfl rfl rfl rfl rfl rfl rfl rfl rfl (Ap ((r.2.2.nodes.getD r2.2.2.toNat default).outs++[r4.2.2-1])) (Ad rfl) Bj Ab (A8 ?_)
       refine A5 (A3 [14] A7 ⟨A8 ?_,trivial⟩)
       (repeat refine Am ?_)
       refine A5 ?_
       refine Aj A0 false 15 rfl rfl rfl A7 rfl (A4 B1) ?_
       refine A3 [16] A7 ⟨A8 ?_,trivial⟩
       refine Al (j:=r2.2.2) A0 rfl rfl rfl rfl rfl rfl rfl rfl _ (Ax (j:=r2.2.2.toNat) (xs:=r.2.2.nodes) (e:=An.c) (x:=⟨(r.2.2.nodes.getD r2.2.2.toNat default).kind,(r.2.2.nodes.getD r2.2.2.toNat default).a,(r.2.2.nodes.getD r2.2.2.toNat default).b,(r.2.2.nodes.getD r2.2.2.toNat default).outs++[r4.2.2-1]⟩) Ab rfl) (A8 ?_)
       refine A5 (Aq A7 (A8 ?_))
      rotate_left 1
      focus
       refine A8 ?_
       refine A5 (A3 [8] A7 ⟨A8 ?_,trivial⟩)
       refine C7 A0 rfl rfl rfl rfl rfl rfl (c:=Ap (r.2.2.nodes.getD r2.2.2.toNat default).outs) rfl (fun v=>go A0 false ?_)
       conv=>whnf
       refine A5 (A3 [13] A7 ⟨A8 ?_,trivial⟩)
       refine Av A0 rfl rfl rfl rfl rfl rfl rfl rfl rfl rfl rfl (Ap ((r.2.2.nodes.getD r2.2.2.toNat default).outs++[r4.2.2-1])) (Ad rfl) Bj Ab (A8 ?_)
       refine A5 (A3 [14] A7 ⟨A8 ?_,trivial⟩)
       (repeat refine Am ?_)
       refine A5 ?_
       refine Aj A0 false 15 rfl rfl rfl A7 rfl (A4 B1) ?_
       refine A3 [16] A7 ⟨A8 ?_,trivial⟩
       refine Al (j:=r2.2.2) A0 rfl rfl rfl rfl rfl rfl rfl rfl _ (Ax (j:=r2.2.2.toNat) (xs:=r.2.2.nodes) (e:=An.c) (x:=⟨(r.2.2.nodes.getD r2.2.2.toNat default).kind,(r.2.2.nodes.getD r2.2.2.toNat default).a,(r.2.2.nodes.getD r2.2.2.toNat default).b,(r.2.2.nodes.getD r2.2.2.toNat default).outs++[r4.2.2-1]⟩) Ab rfl) (A8 ?_)
       refine A5 (Aq A7 (A8 ?_))
     rotate_left 2
     focus
      refine A8 ?_
      refine A5 (A3 [6] A7 ⟨A8 ?_,trivial⟩)
      (repeat refine Am ?_)
      refine A5 ?_
      refine Aj A0 false 7 rfl rfl rfl A7 rfl (A4 B1) ?_
      refine A3 [8] A7 ⟨A8 ?_,trivial⟩
      refine C7 A0 rfl rfl rfl rfl rfl rfl (c:=Ap (r.2.2.nodes.getD r2.2.2.toNat default).outs) rfl (fun v=>go A0 false ?_)
      conv=>whnf
      refine A5 (A3 [13] A7 ⟨A8 ?_,trivial⟩)
      refine Av A0 rfl rfl rfl rfl rfl rfl rfl rfl rfl rfl rfl (Ap ((r.2.2.nodes.getD r2.2.2.toNat default).outs++[r4.2.2-1])) (Ad rfl) Bj Ab (A8 ?_)
      refine A5 (A3 [14] A7 ⟨A8 ?_,trivial⟩)
      (repeat refine Am ?_)
      refine A5 ?_
      refine Aj A0 false 15 rfl rfl rfl A7 rfl (A4 B1) ?_
      refine A3 [16] A7 ⟨A8 ?_,trivial⟩
      refine Al (j:=r2.2.2) A0 rfl rfl rfl rfl rfl rfl rfl rfl _ (Ax (j:=r2.2.2.toNat) (xs:=r.2.2.nodes) (e:=An.c) (x:=⟨(r.2.2.nodes.getD r2.2.2.toNat default).kind,(r.2.2.nodes.getD r2.2.2.toNat default).a,(r.2.2.nodes.getD r2.2.2.toNat default).b,(r.2.2.nodes.getD r2.2.2.toNat default).outs++[r4.2.2-1]⟩) Ab rfl) (A8 ?_)
      refine A5 (Aq A7 (A8 ?_))
    rotate_left 3
    focus
     refine A8 ?_
     refine A5 (A3 [4] A7 ⟨A8 ?_,trivial⟩)
     refine A5 (A3 [6] A7 ⟨A8 ?_,trivial⟩)
     (repeat refine Am ?_)
     refine A5 ?_
     refine Aj A0 false 7 rfl rfl rfl A7 rfl (A4 B1) ?_
     refine A3 [8] A7 ⟨A8 ?_,trivial⟩
     refine C7 A0 rfl rfl rfl rfl rfl rfl (c:=Ap (r.2.2.nodes.getD r2.2.2.toNat default).outs) rfl (fun v=>go A0 false ?_)
     conv=>whnf
     refine A5 (A3 [13] A7 ⟨A8 ?_,trivial⟩)
     refine Av A0 rfl rfl rfl rfl rfl rfl rfl rfl rfl rfl rfl (Ap ((r.2.2.nodes.getD r2.2.2.toNat default).outs++[r4.2.2-1])) (Ad rfl) Bj Ab (A8 ?_)
     refine A5 (A3 [14] A7 ⟨A8 ?_,trivial⟩)
     (repeat refine Am ?_)
     refine A5 ?_
     refine Aj A0 false 15 rfl rfl rfl A7 rfl (A4 B1) ?_
     refine A3 [16] A7 ⟨A8 ?_,trivial⟩
     refine Al (j:=r2.2.2) A0 rfl rfl rfl rfl rfl rfl rfl rfl _ (Ax (j:=r2.2.2.toNat) (xs:=r.2.2.nodes) (e:=An.c) (x:=⟨(r.2.2.nodes.getD r2.2.2.toNat default).kind,(r.2.2.nodes.getD r2.2.2.toNat default).a,(r.2.2.nodes.getD r2.2.2.toNat default).b,(r.2.2.nodes.getD r2.2.2.toNat default).outs++[r4.2.2-1]⟩) Ab rfl) (A8 ?_)
     refine A5 (Aq A7 (A8 ?_))
  rotate_left 10
  focus
   refine A8 ?_
   refine A5 ?_
   refine A3 [1,6,10] A7 ⟨?_,?_,?_,trivial⟩
   focus
    refine A8 ?_
    refine A5 ?_
    refine A3 [6,10] A7 ⟨?_,?_,trivial⟩
    focus
     refine A8 ?_
     (repeat refine Am ?_)
     refine A5 ?_
     refine Aj A0 false 7 rfl rfl rfl A7 rfl (A4 B1) ?_
     refine A3 [8,10] A7 ⟨?_,?_,trivial⟩
     focus
      refine A8 ?_
      refine C7 A0 rfl rfl rfl rfl rfl rfl (c:=Ap (r.2.2.nodes.getD r2.2.2.toNat default).outs) rfl (fun v=>go A0 false ?_)
      conv=>whnf
      refine A5 (A3 [10] A7 ⟨A8 ?_,trivial⟩)
      refine Ai (Ah d r3.1 r3.2.1 9 hr3.1 Aw) hH hp rfl At rfl rfl (fun r4 hr4=>go A0 false ?_)
      conv=>whnf
      refine A5 ?_
      refine Aj A0 false 11 rfl rfl rfl A7 rfl (A4 B1) ?_
      refine A3 [12] A7 ⟨A8 ?_,trivial⟩
      refine A5 (A3 [13] A7 ⟨A8 ?_,trivial⟩)
      refine Av A0 rfl rfl rfl rfl rfl rfl rfl rfl rfl rfl rfl (Ap ((r.2.2.nodes.getD r2.2.2.toNat default).outs++[r4.2.2-1])) (Ad rfl) Bj Ab (A8 ?_)
      refine A5 (A3 [14] A7 ⟨A8 ?_,trivial⟩)
      (repeat refine Am ?_)
      refine A5 ?_
      refine Aj A0 false 15 rfl rfl rfl A7 rfl (A4 B1) ?_
      refine A3 [16] A7 ⟨A8 ?_,trivial⟩
      refine Al (j:=r2.2.2) A0 rfl rfl rfl rfl rfl rfl rfl rfl _ (Ax (j:=r2.2.2.toNat) (xs:=r.2.2.nodes) (e:=An.c) (x:=⟨(r.2.2.nodes.getD r2.2.2.toNat default).kind,(r.2.2.nodes.getD r2.2.2.toNat default).a,(r.2.2.nodes.getD r2.2.2.toNat default).b,(r.2.2.nodes.getD r2.2.2.toNat default).outs++[r4.2.2-1]⟩) Ab rfl) (A8 ?_)
      refine A5 (Aq A7 (A8 ?_))
     rotate_left 1
     focus
      refine A8 ?_
      refine Ai (Ah d r3.1 r3.2.1 9 hr3.1 Aw) hH hp rfl At rfl rfl (fun r4 hr4=>go A0 false ?_)
      conv=>whnf
      refine A5 ?_
      refine Aj A0 false 11 rfl rfl rfl A7 rfl (A4 B1) ?_
      refine A3 [8,12] A7 ⟨?_,?_,trivial⟩
      focus
       refine A8 ?_
       refine C7 A0 rfl rfl rfl rfl rfl rfl (c:=Ap (r.2.2.nodes.getD r2.2.2.toNat default).outs) rfl (fun v=>go A0 false ?_)
       conv=>whnf
       refine A5 (A3 [12] A7 ⟨A8 ?_,trivial⟩)
       refine A5 (A3 [13] A7 ⟨A8 ?_,trivial⟩)
       refine Av A0 rfl rfl rfl rfl rfl rfl rfl rfl rfl rfl rfl (Ap ((r.2.2.nodes.getD r2.2.2.toNat default).outs++[r4.2.2-1])) (Ad rfl) Bj Ab (A8 ?_)
       refine A5 (A3 [14] A7 ⟨A8 ?_,trivial⟩)
       (repeat refine Am ?_)
       refine A5 ?_
       refine Aj A0 false 15 rfl rfl rfl A7 rfl (A4 B1) ?_
       refine A3 [16] A7 ⟨A8 ?_,trivial⟩
       refine Al (j:=r2.2.2) A0 rfl rfl rfl rfl rfl rfl rfl rfl _ (Ax (j:=r2.2.2.toNat) (xs:=r.2.2.nodes) (e:=An.c) (x:=⟨(r.2.2.nodes.getD r2.2.2.toNat default).kind,(r.2.2.nodes.getD r2.2.2.toNat default).a,(r.2.2.nodes.getD r2.2.2.toNat default).b,(r.2.2.nodes.getD r2.2.2.toNat default).outs++[r4.2.2-1]⟩) Ab rfl) (A8 ?_)
       refine A5 (Aq A7 (A8 ?_))
      rotate_left 1
      focus
       refine A8 ?_
       refine A5 (A3 [8] A7 ⟨A8 ?_,trivial⟩)
       refine C7 A0 rfl rfl rfl rfl rfl rfl (c:=Ap (r.2.2.nodes.getD r2.2.2.toNat default).outs) rfl (fun v=>go A0 false ?_)
       conv=>whnf
       refine A5 (A3 [13] A7 ⟨A8 ?_,trivial⟩)
       refine Av A0 rfl rfl rfl rfl rfl rfl rfl rfl rfl rfl rfl (Ap ((r.2.2.nodes.getD r2.2.2.toNat default).outs++[r4.2.2-1])) (Ad rfl) Bj Ab (A8 ?_)
       refine A5 (A3 [14] A7 ⟨A8 ?_,trivial⟩)
       (repeat refine Am ?_)
       refine A5 ?_
       refine Aj A0 false 15 rfl rfl rfl A7 rfl (A4 B1) ?_
       refine A3 [16] A7 ⟨A8 ?_,trivial⟩
       refine Al (j:=r2.2.2) A0 rfl rfl rfl rfl rfl rfl rfl rfl _ (Ax (j:=r2.2.2.toNat) (xs:=r.2.2.nodes) (e:=An.c) (x:=⟨(r.2.2.nodes.getD r2.2.2.toNat default).kind,(r.2.2.nodes.getD r2.2.2.toNat default).a,(r.2.2.nodes.getD r2.2.2.toNat default).b,(r.2.2.nodes.getD r2.2.2.toNat default).outs++[r4.2.2-1]⟩) Ab rfl) (A8 ?_)
       refine A5 (Aq A7 (A8 ?_))
    rotate_left 3
    focus
     refine A8 ?_
     refine Ai (Ah d r3.1 r3.2.1 9 hr3.1 Aw) hH hp rfl At rfl rfl (fun r4 hr4=>go A0 false ?_)
     conv=>whnf
     refine A5 ?_
     refine Aj A0 false 11 rfl rfl rfl A7 rfl (A4 B1) ?_
     refine A3 [6,12] A7 ⟨?_,?_,trivial⟩
     focus
      refine A8 ?_
      (repeat refine Am ?_)
      refine A5 ?_
      refine Aj A0 false 7 rfl rfl rfl A7 rfl (A4 B1) ?_
      refine A3 [8,12] A7 ⟨?_,?_,trivial⟩
      focus
       refine A8 ?_
       refine C7 A0 rfl rfl rfl rfl rfl rfl (c:=Ap (r.2.2.nodes.getD r2.2.2.toNat default).outs) rfl (fun v=>go A0 false ?_)
       conv=>whnf
       refine A5 (A3 [12] A7 ⟨A8 ?_,trivial⟩)
       refine A5 (A3 [13] A7 ⟨A8 ?_,trivial⟩)
       refine Av A0 rfl rfl rfl rfl rfl rfl rfl rfl rfl rfl rfl (Ap ((r.2.2.nodes.getD r2.2.2.toNat default).outs++[r4.2.2-1])) (Ad rfl) Bj Ab (A8 ?_)
       refine A5 (A3 [14] A7 ⟨A8 ?_,trivial⟩)
       (repeat refine Am ?_)
       refine A5 ?_
       refine Aj A0 false 15 rfl rfl rfl A7 rfl (A4 B1) ?_
       refine A3 [16] A7 ⟨A8 ?_,trivial⟩
       refine Al (j:=r2.2.2) A0 rfl rfl rfl rfl rfl rfl rfl rfl _ (Ax (j:=r2.2.2.toNat) (xs:=r.2.2.nodes) (e:=An.c) (x:=⟨(r.2.2.nodes.getD r2.2.2.toNat default).kind,(r.2.2.nodes.getD r2.2.2.toNat default).a,(r.2.2.nodes.getD r2.2.2.toNat default).b,(r.2.2.nodes.getD r2.2.2.toNat default).outs++[r4.2.2-1]⟩) Ab rfl) (A8 ?_)
       refine A5 (Aq A7 (A8 ?_))
      rotate_left 1
      focus
       refine A8 ?_
       refine A5 (A3 [8] A7 ⟨A8 ?_,trivial⟩)
       refine C7 A0 rfl rfl rfl rfl rfl rfl (c:=Ap (r.2.2.nodes.getD r2.2.2.toNat default).outs) rfl (fun v=>go A0 false ?_)
       conv=>whnf
       refine A5 (A3 [13] A7 ⟨A8 ?_,trivial⟩)
       refine Av A0 rfl rfl rfl rfl rfl rfl rfl rfl rfl rfl rfl (Ap ((r.2.2.nodes.getD r2.2.2.toNat default).outs++[r4.2.2-1])) (Ad rfl) Bj Ab (A8 ?_)
       refine A5 (A3 [14] A7 ⟨A8 ?_,trivial⟩)
       (repeat refine Am ?_)
       refine A5 ?_
       refine Aj A0 false 15 rfl rfl rfl A7 rfl (A4 B1) ?_
       refine A3 [16] A7 ⟨A8 ?_,trivial⟩
       refine Al (j:=r2.2.2) A0 rfl rfl rfl rfl rfl rfl rfl rfl _ (Ax (j:=r2.2.2.toNat) (xs:=r.2.2.nodes) (e:=An.c) (x:=⟨(r.2.2.nodes.getD r2.2.2.toNat default).kind,(r.2.2.nodes.getD r2.2.2.toNat default).a,(r.2.2.nodes.getD r2.2.2.toNat default).b,(r.2.2.nodes.getD r2.2.2.toNat default).outs++[r4.2.2-1]⟩) Ab rfl) (A8 ?_)
       refine A5 (Aq A7 (A8 ?_))
     rotate_left 2
     focus
      refine A8 ?_
      refine A5 (A3 [6] A7 ⟨A8 ?_,trivial⟩)
      (repeat refine Am ?_)
      refine A5 ?_
      refine Aj A0 false 7 rfl rfl rfl A7 rfl (A4 B1) ?_
      refine A3 [8] A7 ⟨A8 ?_,trivial⟩
      refine C7 A0 rfl rfl rfl rfl rfl rfl (c:=Ap (r.2.2.nodes.getD r2.2.2.toNat default).outs) rfl (fun v=>go A0 false ?_)
      conv=>whnf
      refine A5 (A3 [13] A7 ⟨A8 ?_,trivial⟩)
      refine Av A0 rfl rfl rfl rfl rfl rfl rfl rfl rfl rfl rfl (Ap ((r.2.2.nodes.getD r2.2.2.toNat default).outs++[r4.2.2-1])) (Ad rfl) Bj Ab (A8 ?_)
      refine A5 (A3 [14] A7 ⟨A8 ?_,trivial⟩)
      (repeat refine Am ?_)
      refine A5 ?_
      refine Aj A0 false 15 rfl rfl rfl A7 rfl (A4 B1) ?_
      refine A3 [16] A7 ⟨A8 ?_,trivial⟩
      refine Al (j:=r2.2.2) A0 rfl rfl rfl rfl rfl rfl rfl rfl _ (Ax (j:=r2.2.2.toNat) (xs:=r.2.2.nodes) (e:=An.c) (x:=⟨(r.2.2.nodes.getD r2.2.2.toNat default).kind,(r.2.2.nodes.getD r2.2.2.toNat default).a,(r.2.2.nodes.getD r2.2.2.toNat default).b,(r.2.2.nodes.getD r2.2.2.toNat default).outs++[r4.2.2-1]⟩) Ab rfl) (A8 ?_)
      refine A5 (Aq A7 (A8 ?_))
   rotate_left 6
   focus
    refine A8 ?_
    (repeat refine Am ?_)
    refine A5 ?_
    refine Aj A0 false 7 rfl rfl rfl A7 rfl (A4 B1) ?_
    refine A3 [1,8,10] A7 ⟨?_,?_,?_,trivial⟩
    focus
     refine A8 ?_
     refine A5 ?_
     refine A3 [8,10] A7 ⟨?_,?_,trivial⟩
     focus
      refine A8 ?_
      refine C7 A0 rfl rfl rfl rfl rfl rfl (c:=Ap (r.2.2.nodes.getD r2.2.2.toNat default).outs) rfl (fun v=>go A0 false ?_)
      conv=>whnf
      refine A5 (A3 [10] A7 ⟨A8 ?_,trivial⟩)
      refine Ai (Ah d r3.1 r3.2.1 9 hr3.1 Aw) hH hp rfl At rfl rfl (fun r4 hr4=>go A0 false ?_)
      conv=>whnf
      refine A5 ?_
      refine Aj A0 false 11 rfl rfl rfl A7 rfl (A4 B1) ?_
      refine A3 [12] A7 ⟨A8 ?_,trivial⟩
      refine A5 (A3 [13] A7 ⟨A8 ?_,trivial⟩)
      refine Av A0 rfl rfl rfl rfl rfl rfl rfl rfl rfl rfl rfl (Ap ((r.2.2.nodes.getD r2.2.2.toNat default).outs++[r4.2.2-1])) (Ad rfl) Bj Ab (A8 ?_)
      refine A5 (A3 [14] A7 ⟨A8 ?_,trivial⟩)
      (repeat refine Am ?_)
      refine A5 ?_
      refine Aj A0 false 15 rfl rfl rfl A7 rfl (A4 B1) ?_
      refine A3 [16] A7 ⟨A8 ?_,trivial⟩
      refine Al (j:=r2.2.2) A0 rfl rfl rfl rfl rfl rfl rfl rfl _ (Ax (j:=r2.2.2.toNat) (xs:=r.2.2.nodes) (e:=An.c) (x:=⟨(r.2.2.nodes.getD r2.2.2.toNat default).kind,(r.2.2.nodes.getD r2.2.2.toNat default).a,(r.2.2.nodes.getD r2.2.2.toNat default).b,(r.2.2.nodes.getD r2.2.2.toNat default).outs++[r4.2.2-1]⟩) Ab rfl) (A8 ?_)
      refine A5 (Aq A7 (A8 ?_))
     rotate_left 1
     focus
      refine A8 ?_
      refine Ai (Ah d r3.1 r3.2.1 9 hr3.1 Aw) hH hp rfl At rfl rfl (fun r4 hr4=>go A0 false ?_)
      conv=>whnf
      refine A5 ?_
      refine Aj A0 false 11 rfl rfl rfl A7 rfl (A4 B1) ?_
      refine A3 [8,12] A7 ⟨?_,?_,trivial⟩
      focus
       refine A8 ?_
       refine C7 A0 rfl rfl rfl rfl rfl rfl (c:=Ap (r.2.2.nodes.getD r2.2.2.toNat default).outs) rfl (fun v=>go A0 false ?_)
       conv=>whnf
       refine A5 (A3 [12] A7 ⟨A8 ?_,trivial⟩)
       refine A5 (A3 [13] A7 ⟨A8 ?_,trivial⟩)
       refine Av A0 rfl rfl rfl rfl rfl rfl rfl rfl rfl rfl rfl (Ap ((r.2.2.nodes.getD r2.2.2.toNat default).outs++[r4.2.2-1])) (Ad rfl) Bj Ab (A8 ?_)
       refine A5 (A3 [14] A7 ⟨A8 ?_,trivial⟩)
       (repeat refine Am ?_)
       refine A5 ?_
       refine Aj A0 false 15 rfl rfl rfl A7 rfl (A4 B1) ?_
       refine A3 [16] A7 ⟨A8 ?_,trivial⟩
       refine Al (j:=r2.2.2) A0 rfl rfl rfl rfl rfl rfl rfl rfl _ (Ax (j:=r2.2.2.toNat) (xs:=r.2.2.nodes) (e:=An.c) (x:=⟨(r.2.2.nodes.getD r2.2.2.toNat default).kind,(r.2.2.nodes.getD r2.2.2.toNat default).a,(r.2.2.nodes.getD r2.2.2.toNat default).b,(r.2.2.nodes.getD r2.2.2.toNat default).outs++[r4.2.2-1]⟩) Ab rfl) (A8 ?_)
       refine A5 (Aq A7 (A8 ?_))
      rotate_left 1
      focus
       refine A8 ?_
       refine A5 (A3 [8] A7 ⟨A8 ?_,trivial⟩)
       refine C7 A0 rfl rfl rfl rfl rfl rfl (c:=Ap (r.2.2.nodes.getD r2.2.2.toNat default).outs) rfl (fun v=>go A0 false ?_)
       conv=>whnf
       refine A5 (A3 [13] A7 ⟨A8 ?_,trivial⟩)
       refine Av A0 rfl rfl rfl rfl rfl rfl rfl rfl rfl rfl rfl (Ap ((r.2.2.nodes.getD r2.2.2.toNat default).outs++[r4.2.2-1])) (Ad rfl) Bj Ab (A8 ?_)
       refine A5 (A3 [14] A7 ⟨A8 ?_,trivial⟩)
       (repeat refine Am ?_)
       refine A5 ?_
       refine Aj A0 false 15 rfl rfl rfl A7 rfl (A4 B1) ?_
       refine A3 [16] A7 ⟨A8 ?_,trivial⟩
       refine Al (j:=r2.2.2) A0 rfl rfl rfl rfl rfl rfl rfl rfl _ (Ax (j:=r2.2.2.toNat) (xs:=r.2.2.nodes) (e:=An.c) (x:=⟨(r.2.2.nodes.getD r2.2.2.toNat default).kind,(r.2.2.nodes.getD r2.2.2.toNat default).a,(r.2.2.nodes.getD r2.2.2.toNat default).b,(r.2.2.nodes.getD r2.2.2.toNat default).outs++[r4.2.2-1]⟩) Ab rfl) (A8 ?_)
       refine A5 (Aq A7 (A8 ?_))
    rotate_left 3
    focus
     refine A8 ?_
     refine C7 A0 rfl rfl rfl rfl rfl rfl (c:=Ap (r.2.2.nodes.getD r2.2.2.toNat default).outs) rfl (fun v=>go A0 false ?_)
     conv=>whnf
     refine A5 ?_
     refine A3 [1,10] A7 ⟨?_,?_,trivial⟩
     focus
      refine A8 ?_
      refine A5 (A3 [10] A7 ⟨A8 ?_,trivial⟩)
      refine Ai (Ah d r3.1 r3.2.1 9 hr3.1 Aw) hH hp rfl At rfl rfl (fun r4 hr4=>go A0 false ?_)
      conv=>whnf
      refine A5 ?_
      refine Aj A0 false 11 rfl rfl rfl A7 rfl (A4 B1) ?_
      refine A3 [12] A7 ⟨A8 ?_,trivial⟩
      refine A5 (A3 [13] A7 ⟨A8 ?_,trivial⟩)
      refine Av A0 rfl rfl rfl rfl rfl rfl rfl rfl rfl rfl rfl (Ap ((r.2.2.nodes.getD r2.2.2.toNat default).outs++[r4.2.2-1])) (Ad rfl) Bj Ab (A8 ?_)
      refine A5 (A3 [14] A7 ⟨A8 ?_,trivial⟩)
      (repeat refine Am ?_)
      refine A5 ?_
      refine Aj A0 false 15 rfl rfl rfl A7 rfl (A4 B1) ?_
      refine A3 [16] A7 ⟨A8 ?_,trivial⟩
      refine Al (j:=r2.2.2) A0 rfl rfl rfl rfl rfl rfl rfl rfl _ (Ax (j:=r2.2.2.toNat) (xs:=r.2.2.nodes) (e:=An.c) (x:=⟨(r.2.2.nodes.getD r2.2.2.toNat default).kind,(r.2.2.nodes.getD r2.2.2.toNat default).a,(r.2.2.nodes.getD r2.2.2.toNat default).b,(r.2.2.nodes.getD r2.2.2.toNat default).outs++[r4.2.2-1]⟩) Ab rfl) (A8 ?_)
      refine A5 (Aq A7 (A8 ?_))
     rotate_left 1
     focus
      refine A8 ?_
      refine Ai (Ah d r3.1 r3.2.1 9 hr3.1 Aw) hH hp rfl At rfl rfl (fun r4 hr4=>go A0 false ?_)
      conv=>whnf
      refine A5 ?_
      refine Aj A0 false 11 rfl rfl rfl A7 rfl (A4 B1) ?_
      refine A3 [1,12] A7 ⟨?_,?_,trivial⟩
      focus
       refine A8 ?_
       refine A5 (A3 [12] A7 ⟨A8 ?_,trivial⟩)
       refine A5 (A3 [13] A7 ⟨A8 ?_,trivial⟩)
       refine Av A0 rfl rfl rfl rfl rfl rfl rfl rfl rfl rfl rfl (Ap ((r.2.2.nodes.getD r2.2.2.toNat default).outs++[r4.2.2-1])) (Ad rfl) Bj Ab (A8 ?_)
       refine A5 (A3 [14] A7 ⟨A8 ?_,trivial⟩)
       (repeat refine Am ?_)
       refine A5 ?_
       refine Aj A0 false 15 rfl rfl rfl A7 rfl (A4 B1) ?_
       refine A3 [16] A7 ⟨A8 ?_,trivial⟩
       refine Al (j:=r2.2.2) A0 rfl rfl rfl rfl rfl rfl rfl rfl _ (Ax (j:=r2.2.2.toNat) (xs:=r.2.2.nodes) (e:=An.c) (x:=⟨(r.2.2.nodes.getD r2.2.2.toNat default).kind,(r.2.2.nodes.getD r2.2.2.toNat default).a,(r.2.2.nodes.getD r2.2.2.toNat default).b,(r.2.2.nodes.getD r2.2.2.toNat default).outs++[r4.2.2-1]⟩) Ab rfl) (A8 ?_)
       refine A5 (Aq A7 (A8 ?_))
      rotate_left 1
      focus
       refine A8 ?_
       refine A5 ?_
       refine A3 [1,13] A7 ⟨?_,?_,trivial⟩
       focus
        refine A8 ?_
        refine A5 (A3 [13] A7 ⟨A8 ?_,trivial⟩)
        refine Av A0 rfl rfl rfl rfl rfl rfl rfl rfl rfl rfl rfl (Ap ((r.2.2.nodes.getD r2.2.2.toNat default).outs++[r4.2.2-1])) (Ad rfl) Bj Ab (A8 ?_)
        refine A5 (A3 [14] A7 ⟨A8 ?_,trivial⟩)
        (repeat refine Am ?_)
        refine A5 ?_
        refine Aj A0 false 15 rfl rfl rfl A7 rfl (A4 B1) ?_
        refine A3 [16] A7 ⟨A8 ?_,trivial⟩
        refine Al (j:=r2.2.2) A0 rfl rfl rfl rfl rfl rfl rfl rfl _ (Ax (j:=r2.2.2.toNat) (xs:=r.2.2.nodes) (e:=An.c) (x:=⟨(r.2.2.nodes.getD r2.2.2.toNat default).kind,(r.2.2.nodes.getD r2.2.2.toNat default).a,(r.2.2.nodes.getD r2.2.2.toNat default).b,(r.2.2.nodes.getD r2.2.2.toNat default).outs++[r4.2.2-1]⟩) Ab rfl) (A8 ?_)
        refine A5 (Aq A7 (A8 ?_))
       rotate_left 1
       focus
        refine A8 ?_
        refine Av A0 rfl rfl rfl rfl rfl rfl rfl rfl rfl rfl rfl (Ap ((r.2.2.nodes.getD r2.2.2.toNat default).outs++[r4.2.2-1])) (Ad rfl) Bj Ab (A8 ?_)
        refine A5 (A3 [1] A7 ⟨A8 ?_,trivial⟩)
        refine A5 (A3 [14] A7 ⟨A8 ?_,trivial⟩)
        (repeat refine Am ?_)
        refine A5 ?_
        refine Aj A0 false 15 rfl rfl rfl A7 rfl (A4 B1) ?_
        refine A3 [16] A7 ⟨A8 ?_,trivial⟩
        refine Al (j:=r2.2.2) A0 rfl rfl rfl rfl rfl rfl rfl rfl _ (Ax (j:=r2.2.2.toNat) (xs:=r.2.2.nodes) (e:=An.c) (x:=⟨(r.2.2.nodes.getD r2.2.2.toNat default).kind,(r.2.2.nodes.getD r2.2.2.toNat default).a,(r.2.2.nodes.getD r2.2.2.toNat default).b,(r.2.2.nodes.getD r2.2.2.toNat default).outs++[r4.2.2-1]⟩) Ab rfl) (A8 ?_)
        refine A5 (Aq A7 (A8 ?_))
    rotate_left 4
    focus
     refine A8 ?_
     refine Ai (Ah d r3.1 r3.2.1 9 hr3.1 Aw) hH hp rfl At rfl rfl (fun r4 hr4=>go A0 false ?_)
     conv=>whnf
     refine A5 ?_
     refine Aj A0 false 11 rfl rfl rfl A7 rfl (A4 B1) ?_
     refine A3 [1,8,12] A7 ⟨?_,?_,?_,trivial⟩
     focus
      refine A8 ?_
      refine A5 ?_
      refine A3 [8,12] A7 ⟨?_,?_,trivial⟩
      focus
       refine A8 ?_
       refine C7 A0 rfl rfl rfl rfl rfl rfl (c:=Ap (r.2.2.nodes.getD r2.2.2.toNat default).outs) rfl (fun v=>go A0 false ?_)
       conv=>whnf
       refine A5 (A3 [12] A7 ⟨A8 ?_,trivial⟩)
       refine A5 (A3 [13] A7 ⟨A8 ?_,trivial⟩)
       refine Av A0 rfl rfl rfl rfl rfl rfl rfl rfl rfl rfl rfl (Ap ((r.2.2.nodes.getD r2.2.2.toNat default).outs++[r4.2.2-1])) (Ad rfl) Bj Ab (A8 ?_)
       refine A5 (A3 [14] A7 ⟨A8 ?_,trivial⟩)
       (repeat refine Am ?_)
       refine A5 ?_
       refine Aj A0 false 15 rfl rfl rfl A7 rfl (A4 B1) ?_
       refine A3 [16] A7 ⟨A8 ?_,trivial⟩
       refine Al (j:=r2.2.2) A0 rfl rfl rfl rfl rfl rfl rfl rfl _ (Ax (j:=r2.2.2.toNat) (xs:=r.2.2.nodes) (e:=An.c) (x:=⟨(r.2.2.nodes.getD r2.2.2.toNat default).kind,(r.2.2.nodes.getD r2.2.2.toNat default).a,(r.2.2.nodes.getD r2.2.2.toNat default).b,(r.2.2.nodes.getD r2.2.2.toNat default).outs++[r4.2.2-1]⟩) Ab rfl) (A8 ?_)
       refine A5 (Aq A7 (A8 ?_))
      rotate_left 1
      focus
       refine A8 ?_
       refine A5 (A3 [8] A7 ⟨A8 ?_,trivial⟩)
       refine C7 A0 rfl rfl rfl rfl rfl rfl (c:=Ap (r.2.2.nodes.getD r2.2.2.toNat default).outs) rfl (fun v=>go A0 false ?_)
       conv=>whnf
       refine A5 (A3 [13] A7 ⟨A8 ?_,trivial⟩)
       refine Av A0 rfl rfl rfl rfl rfl rfl rfl rfl rfl rfl rfl (Ap ((r.2.2.nodes.getD r2.2.2.toNat default).outs++[r4.2.2-1])) (Ad rfl) Bj Ab (A8 ?_)
       refine A5 (A3 [14] A7 ⟨A8 ?_,trivial⟩)
       (repeat refine Am ?_)
       refine A5 ?_
       refine Aj A0 false 15 rfl rfl rfl A7 rfl (A4 B1) ?_
       refine A3 [16] A7 ⟨A8 ?_,trivial⟩
       refine Al (j:=r2.2.2) A0 rfl rfl rfl rfl rfl rfl rfl rfl _ (Ax (j:=r2.2.2.toNat) (xs:=r.2.2.nodes) (e:=An.c) (x:=⟨(r.2.2.nodes.getD r2.2.2.toNat default).kind,(r.2.2.nodes.getD r2.2.2.toNat default).a,(r.2.2.nodes.getD r2.2.2.toNat default).b,(r.2.2.nodes.getD r2.2.2.toNat default).outs++[r4.2.2-1]⟩) Ab rfl) (A8 ?_)
       refine A5 (Aq A7 (A8 ?_))
     rotate_left 2
     focus
      refine A8 ?_
      refine C7 A0 rfl rfl rfl rfl rfl rfl (c:=Ap (r.2.2.nodes.getD r2.2.2.toNat default).outs) rfl (fun v=>go A0 false ?_)
      conv=>whnf
      refine A5 ?_
      refine A3 [1,12] A7 ⟨?_,?_,trivial⟩
      focus
       refine A8 ?_
       refine A5 (A3 [12] A7 ⟨A8 ?_,trivial⟩)
       refine A5 (A3 [13] A7 ⟨A8 ?_,trivial⟩)
       refine Av A0 rfl rfl rfl rfl rfl rfl rfl rfl rfl rfl rfl (Ap ((r.2.2.nodes.getD r2.2.2.toNat default).outs++[r4.2.2-1])) (Ad rfl) Bj Ab (A8 ?_)
       refine A5 (A3 [14] A7 ⟨A8 ?_,trivial⟩)
       (repeat refine Am ?_)
       refine A5 ?_
       refine Aj A0 false 15 rfl rfl rfl A7 rfl (A4 B1) ?_
       refine A3 [16] A7 ⟨A8 ?_,trivial⟩
       refine Al (j:=r2.2.2) A0 rfl rfl rfl rfl rfl rfl rfl rfl _ (Ax (j:=r2.2.2.toNat) (xs:=r.2.2.nodes) (e:=An.c) (x:=⟨(r.2.2.nodes.getD r2.2.2.toNat default).kind,(r.2.2.nodes.getD r2.2.2.toNat default).a,(r.2.2.nodes.getD r2.2.2.toNat default).b,(r.2.2.nodes.getD r2.2.2.toNat default).outs++[r4.2.2-1]⟩) Ab rfl) (A8 ?_)
       refine A5 (Aq A7 (A8 ?_))
      rotate_left 1
      focus
       refine A8 ?_
       refine A5 ?_
       refine A3 [1,13] A7 ⟨?_,?_,trivial⟩
       focus
        refine A8 ?_
        refine A5 (A3 [13] A7 ⟨A8 ?_,trivial⟩)
        refine Av A0 rfl rfl rfl rfl rfl rfl rfl rfl rfl rfl rfl (Ap ((r.2.2.nodes.getD r2.2.2.toNat default).outs++[r4.2.2-1])) (Ad rfl) Bj Ab (A8 ?_)
        refine A5 (A3 [14] A7 ⟨A8 ?_,trivial⟩)
        (repeat refine Am ?_)
        refine A5 ?_
        refine Aj A0 false 15 rfl rfl rfl A7 rfl (A4 B1) ?_
        refine A3 [16] A7 ⟨A8 ?_,trivial⟩
        refine Al (j:=r2.2.2) A0 rfl rfl rfl rfl rfl rfl rfl rfl _ (Ax (j:=r2.2.2.toNat) (xs:=r.2.2.nodes) (e:=An.c) (x:=⟨(r.2.2.nodes.getD r2.2.2.toNat default).kind,(r.2.2.nodes.getD r2.2.2.toNat default).a,(r.2.2.nodes.getD r2.2.2.toNat default).b,(r.2.2.nodes.getD r2.2.2.toNat default).outs++[r4.2.2-1]⟩) Ab rfl) (A8 ?_)
        refine A5 (Aq A7 (A8 ?_))
       rotate_left 1
       focus
        refine A8 ?_
        refine Av A0 rfl rfl rfl rfl rfl rfl rfl rfl rfl rfl rfl (Ap ((r.2.2.nodes.getD r2.2.2.toNat default).outs++[r4.2.2-1])) (Ad rfl) Bj Ab (A8 ?_)
        refine A5 (A3 [1] A7 ⟨A8 ?_,trivial⟩)
        refine A5 (A3 [14] A7 ⟨A8 ?_,trivial⟩)
        (repeat refine Am ?_)
        refine A5 ?_
        refine Aj A0 false 15 rfl rfl rfl A7 rfl (A4 B1) ?_
        refine A3 [16] A7 ⟨A8 ?_,trivial⟩
        refine Al (j:=r2.2.2) A0 rfl rfl rfl rfl rfl rfl rfl rfl _ (Ax (j:=r2.2.2.toNat) (xs:=r.2.2.nodes) (e:=An.c) (x:=⟨(r.2.2.nodes.getD r2.2.2.toNat default).kind,(r.2.2.nodes.getD r2.2.2.toNat default).a,(r.2.2.nodes.getD r2.2.2.toNat default).b,(r.2.2.nodes.getD r2.2.2.toNat default).outs++[r4.2.2-1]⟩) Ab rfl) (A8 ?_)
        refine A5 (Aq A7 (A8 ?_))
     rotate_left 3
     focus
      refine A8 ?_
      refine A5 ?_
      refine A3 [1,8] A7 ⟨?_,?_,trivial⟩
      focus
       refine A8 ?_
       refine A5 (A3 [8] A7 ⟨A8 ?_,trivial⟩)
       refine C7 A0 rfl rfl rfl rfl rfl rfl (c:=Ap (r.2.2.nodes.getD r2.2.2.toNat default).outs) rfl (fun v=>go A0 false ?_)
       conv=>whnf
       refine A5 (A3 [13] A7 ⟨A8 ?_,trivial⟩)
       refine Av A0 rfl rfl rfl rfl rfl rfl rfl rfl rfl rfl rfl (Ap ((r.2.2.nodes.getD r2.2.2.toNat default).outs++[r4.2.2-1])) (Ad rfl) Bj Ab (A8 ?_)
       refine A5 (A3 [14] A7 ⟨A8 ?_,trivial⟩)
       (repeat refine Am ?_)
       refine A5 ?_
       refine Aj A0 false 15 rfl rfl rfl A7 rfl (A4 B1) ?_
       refine A3 [16] A7 ⟨A8 ?_,trivial⟩
       refine Al (j:=r2.2.2) A0 rfl rfl rfl rfl rfl rfl rfl rfl _ (Ax (j:=r2.2.2.toNat) (xs:=r.2.2.nodes) (e:=An.c) (x:=⟨(r.2.2.nodes.getD r2.2.2.toNat default).kind,(r.2.2.nodes.getD r2.2.2.toNat default).a,(r.2.2.nodes.getD r2.2.2.toNat default).b,(r.2.2.nodes.getD r2.2.2.toNat default).outs++[r4.2.2-1]⟩) Ab rfl) (A8 ?_)
       refine A5 (Aq A7 (A8 ?_))
      rotate_left 1
      focus
       refine A8 ?_
       refine C7 A0 rfl rfl rfl rfl rfl rfl (c:=Ap (r.2.2.nodes.getD r2.2.2.toNat default).outs) rfl (fun v=>go A0 false ?_)
       conv=>whnf
       refine A5 ?_
       refine A3 [1,13] A7 ⟨?_,?_,trivial⟩
       focus
        refine A8 ?_
        refine A5 (A3 [13] A7 ⟨A8 ?_,trivial⟩)
        refine Av A0 rfl rfl rfl rfl rfl rfl rfl rfl rfl rfl rfl (Ap ((r.2.2.nodes.getD r2.2.2.toNat default).outs++[r4.2.2-1])) (Ad rfl) Bj Ab (A8 ?_)
        refine A5 (A3 [14] A7 ⟨A8 ?_,trivial⟩)
        (repeat refine Am ?_)
        refine A5 ?_
        refine Aj A0 false 15 rfl rfl rfl A7 rfl (A4 B1) ?_
        refine A3 [16] A7 ⟨A8 ?_,trivial⟩
        refine Al (j:=r2.2.2) A0 rfl rfl rfl rfl rfl rfl rfl rfl _ (Ax (j:=r2.2.2.toNat) (xs:=r.2.2.nodes) (e:=An.c) (x:=⟨(r.2.2.nodes.getD r2.2.2.toNat default).kind,(r.2.2.nodes.getD r2.2.2.toNat default).a,(r.2.2.nodes.getD r2.2.2.toNat default).b,(r.2.2.nodes.getD r2.2.2.toNat default).outs++[r4.2.2-1]⟩) Ab rfl) (A8 ?_)
        refine A5 (Aq A7 (A8 ?_))
       rotate_left 1
       focus
        refine A8 ?_
        refine Av A0 rfl rfl rfl rfl rfl rfl rfl rfl rfl rfl rfl (Ap ((r.2.2.nodes.getD r2.2.2.toNat default).outs++[r4.2.2-1])) (Ad rfl) Bj Ab (A8 ?_)
        refine A5 (A3 [1] A7 ⟨A8 ?_,trivial⟩)
        refine A5 (A3 [14] A7 ⟨A8 ?_,trivial⟩)
        (repeat refine Am ?_)
        refine A5 ?_
        refine Aj A0 false 15 rfl rfl rfl A7 rfl (A4 B1) ?_
        refine A3 [16] A7 ⟨A8 ?_,trivial⟩
        refine Al (j:=r2.2.2) A0 rfl rfl rfl rfl rfl rfl rfl rfl _ (Ax (j:=r2.2.2.toNat) (xs:=r.2.2.nodes) (e:=An.c) (x:=⟨(r.2.2.nodes.getD r2.2.2.toNat default).kind,(r.2.2.nodes.getD r2.2.2.toNat default).a,(r.2.2.nodes.getD r2.2.2.toNat default).b,(r.2.2.nodes.getD r2.2.2.toNat default).outs++[r4.2.2-1]⟩) Ab rfl) (A8 ?_)
        refine A5 (Aq A7 (A8 ?_))
   rotate_left 15
   focus
    refine A8 ?_
    refine Ai (Ah d r3.1 r3.2.1 9 hr3.1 Aw) hH hp rfl At rfl rfl (fun r4 hr4=>go A0 false ?_)
    conv=>whnf
    refine A5 ?_
    refine Aj A0 false 11 rfl rfl rfl A7 rfl (A4 B1) ?_
    refine A3 [1,6,12] A7 ⟨?_,?_,?_,trivial⟩
    focus
     refine A8 ?_
     refine A5 ?_
     refine A3 [6,12] A7 ⟨?_,?_,trivial⟩
     focus
      refine A8 ?_
      (repeat refine Am ?_)
      refine A5 ?_
      refine Aj A0 false 7 rfl rfl rfl A7 rfl (A4 B1) ?_
      refine A3 [8,12] A7 ⟨?_,?_,trivial⟩
      focus
       refine A8 ?_
       refine C7 A0 rfl rfl rfl rfl rfl rfl (c:=Ap (r.2.2.nodes.getD r2.2.2.toNat default).outs) rfl (fun v=>go A0 false ?_)
       conv=>whnf
       refine A5 (A3 [12] A7 ⟨A8 ?_,trivial⟩)
       refine A5 (A3 [13] A7 ⟨A8 ?_,trivial⟩)
       refine Av A0 rfl rfl rfl rfl rfl rfl rfl rfl rfl rfl rfl (Ap ((r.2.2.nodes.getD r2.2.2.toNat default).outs++[r4.2.2-1])) (Ad rfl) Bj Ab (A8 ?_)
       refine A5 (A3 [14] A7 ⟨A8 ?_,trivial⟩)
       (repeat refine Am ?_)
       refine A5 ?_
       refine Aj A0 false 15 rfl rfl rfl A7 rfl (A4 B1) ?_
       refine A3 [16] A7 ⟨A8 ?_,trivial⟩
       refine Al (j:=r2.2.2) A0 rfl rfl rfl rfl rfl rfl rfl rfl _ (Ax (j:=r2.2.2.toNat) (xs:=r.2.2.nodes) (e:=An.c) (x:=⟨(r.2.2.nodes.getD r2.2.2.toNat default).kind,(r.2.2.nodes.getD r2.2.2.toNat default).a,(r.2.2.nodes.getD r2.2.2.toNat default).b,(r.2.2.nodes.getD r2.2.2.toNat default).outs++[r4.2.2-1]⟩) Ab rfl) (A8 ?_)
       refine A5 (Aq A7 (A8 ?_))
      rotate_left 1
      focus
       refine A8 ?_
       refine A5 (A3 [8] A7 ⟨A8 ?_,trivial⟩)
       refine C7 A0 rfl rfl rfl rfl rfl rfl (c:=Ap (r.2.2.nodes.getD r2.2.2.toNat default).outs) rfl (fun v=>go A0 false ?_)
       conv=>whnf
       refine A5 (A3 [13] A7 ⟨A8 ?_,trivial⟩)
       refine Av A0 rfl rfl rfl rfl rfl rfl rfl rfl rfl rfl rfl (Ap ((r.2.2.nodes.getD r2.2.2.toNat default).outs++[r4.2.2-1])) (Ad rfl) Bj Ab (A8 ?_)
       refine A5 (A3 [14] A7 ⟨A8 ?_,trivial⟩)
       (repeat refine Am ?_)
       refine A5 ?_
       refine Aj A0 false 15 rfl rfl rfl A7 rfl (A4 B1) ?_
       refine A3 [16] A7 ⟨A8 ?_,trivial⟩
       refine Al (j:=r2.2.2) A0 rfl rfl rfl rfl rfl rfl rfl rfl _ (Ax (j:=r2.2.2.toNat) (xs:=r.2.2.nodes) (e:=An.c) (x:=⟨(r.2.2.nodes.getD r2.2.2.toNat default).kind,(r.2.2.nodes.getD r2.2.2.toNat default).a,(r.2.2.nodes.getD r2.2.2.toNat default).b,(r.2.2.nodes.getD r2.2.2.toNat default).outs++[r4.2.2-1]⟩) Ab rfl) (A8 ?_)
       refine A5 (Aq A7 (A8 ?_))
     rotate_left 2
     focus
      refine A8 ?_
      refine A5 (A3 [6] A7 ⟨A8 ?_,trivial⟩)
      (repeat refine Am ?_)
      refine A5 ?_
      refine Aj A0 false 7 rfl rfl rfl A7 rfl (A4 B1) ?_
      refine A3 [8] A7 ⟨A8 ?_,trivial⟩
      refine C7 A0 rfl rfl rfl rfl rfl rfl (c:=Ap (r.2.2.nodes.getD r2.2.2.toNat default).outs) rfl (fun v=>go A0 false ?_)
      conv=>whnf
      refine A5 (A3 [13] A7 ⟨A8 ?_,trivial⟩)
      refine Av A0 rfl rfl rfl rfl rfl rfl rfl rfl rfl rfl rfl (Ap ((r.2.2.nodes.getD r2.2.2.toNat default).outs++[r4.2.2-1])) (Ad rfl) Bj Ab (A8 ?_)
      refine A5 (A3 [14] A7 ⟨A8 ?_,trivial⟩)
      (repeat refine Am ?_)
      refine A5 ?_
      refine Aj A0 false 15 rfl rfl rfl A7 rfl (A4 B1) ?_
      refine A3 [16] A7 ⟨A8 ?_,trivial⟩
      refine Al (j:=r2.2.2) A0 rfl rfl rfl rfl rfl rfl rfl rfl _ (Ax (j:=r2.2.2.toNat) (xs:=r.2.2.nodes) (e:=An.c) (x:=⟨(r.2.2.nodes.getD r2.2.2.toNat default).kind,(r.2.2.nodes.getD r2.2.2.toNat default).a,(r.2.2.nodes.getD r2.2.2.toNat default).b,(r.2.2.nodes.getD r2.2.2.toNat default).outs++[r4.2.2-1]⟩) Ab rfl) (A8 ?_)
      refine A5 (Aq A7 (A8 ?_))
    rotate_left 3
    focus
     refine A8 ?_
     (repeat refine Am ?_)
     refine A5 ?_
     refine Aj A0 false 7 rfl rfl rfl A7 rfl (A4 B1) ?_
     refine A3 [1,8,12] A7 ⟨?_,?_,?_,trivial⟩
     focus
      refine A8 ?_
      refine A5 ?_
      refine A3 [8,12] A7 ⟨?_,?_,trivial⟩
      focus
       refine A8 ?_
       refine C7 A0 rfl rfl rfl rfl rfl rfl (c:=Ap (r.2.2.nodes.getD r2.2.2.toNat default).outs) rfl (fun v=>go A0 false ?_)
       conv=>whnf
       refine A5 (A3 [12] A7 ⟨A8 ?_,trivial⟩)
       refine A5 (A3 [13] A7 ⟨A8 ?_,trivial⟩)
       refine Av A0 rfl rfl rfl rfl rfl rfl rfl rfl rfl rfl rfl (Ap ((r.2.2.nodes.getD r2.2.2.toNat default).outs++[r4.2.2-1])) (Ad rfl) Bj Ab (A8 ?_)
       refine A5 (A3 [14] A7 ⟨A8 ?_,trivial⟩)
       (repeat refine Am ?_)
       refine A5 ?_
       refine Aj A0 false 15 rfl rfl rfl A7 rfl (A4 B1) ?_
       refine A3 [16] A7 ⟨A8 ?_,trivial⟩
       refine Al (j:=r2.2.2) A0 rfl rfl rfl rfl rfl rfl rfl rfl _ (Ax (j:=r2.2.2.toNat) (xs:=r.2.2.nodes) (e:=An.c) (x:=⟨(r.2.2.nodes.getD r2.2.2.toNat default).kind,(r.2.2.nodes.getD r2.2.2.toNat default).a,(r.2.2.nodes.getD r2.2.2.toNat default).b,(r.2.2.nodes.getD r2.2.2.toNat default).outs++[r4.2.2-1]⟩) Ab rfl) (A8 ?_)
       refine A5 (Aq A7 (A8 ?_))
      rotate_left 1
      focus
       refine A8 ?_
       refine A5 (A3 [8] A7 ⟨A8 ?_,trivial⟩)
       refine C7 A0 rfl rfl rfl rfl rfl rfl (c:=Ap (r.2.2.nodes.getD r2.2.2.toNat default).outs) rfl (fun v=>go A0 false ?_)
       conv=>whnf
       refine A5 (A3 [13] A7 ⟨A8 ?_,trivial⟩)
       refine Av A0 rfl rfl rfl rfl rfl rfl rfl rfl rfl rfl rfl (Ap ((r.2.2.nodes.getD r2.2.2.toNat default).outs++[r4.2.2-1])) (Ad rfl) Bj Ab (A8 ?_)
       refine A5 (A3 [14] A7 ⟨A8 ?_,trivial⟩)
       (repeat refine Am ?_)
       refine A5 ?_
       refine Aj A0 false 15 rfl rfl rfl A7 rfl (A4 B1) ?_
       refine A3 [16] A7 ⟨A8 ?_,trivial⟩
       refine Al (j:=r2.2.2) A0 rfl rfl rfl rfl rfl rfl rfl rfl _ (Ax (j:=r2.2.2.toNat) (xs:=r.2.2.nodes) (e:=An.c) (x:=⟨(r.2.2.nodes.getD r2.2.2.toNat default).kind,(r.2.2.nodes.getD r2.2.2.toNat default).a,(r.2.2.nodes.getD r2.2.2.toNat default).b,(r.2.2.nodes.getD r2.2.2.toNat default).outs++[r4.2.2-1]⟩) Ab rfl) (A8 ?_)
       refine A5 (Aq A7 (A8 ?_))
     rotate_left 2
     focus
      refine A8 ?_
      refine C7 A0 rfl rfl rfl rfl rfl rfl (c:=Ap (r.2.2.nodes.getD r2.2.2.toNat default).outs) rfl (fun v=>go A0 false ?_)
      conv=>whnf
      refine A5 ?_
      refine A3 [1,12] A7 ⟨?_,?_,trivial⟩
      focus
       refine A8 ?_
       refine A5 (A3 [12] A7 ⟨A8 ?_,trivial⟩)
       refine A5 (A3 [13] A7 ⟨A8 ?_,trivial⟩)
       refine Av A0 rfl rfl rfl rfl rfl rfl rfl rfl rfl rfl rfl (Ap ((r.2.2.nodes.getD r2.2.2.toNat default).outs++[r4.2.2-1])) (Ad rfl) Bj Ab (A8 ?_)
       refine A5 (A3 [14] A7 ⟨A8 ?_,trivial⟩)
       (repeat refine Am ?_)
       refine A5 ?_
       refine Aj A0 false 15 rfl rfl rfl A7 rfl (A4 B1) ?_
       refine A3 [16] A7 ⟨A8 ?_,trivial⟩
       refine Al (j:=r2.2.2) A0 rfl rfl rfl rfl rfl rfl rfl rfl _ (Ax (j:=r2.2.2.toNat) (xs:=r.2.2.nodes) (e:=An.c) (x:=⟨(r.2.2.nodes.getD r2.2.2.toNat default).kind,(r.2.2.nodes.getD r2.2.2.toNat default).a,(r.2.2.nodes.getD r2.2.2.toNat default).b,(r.2.2.nodes.getD r2.2.2.toNat default).outs++[r4.2.2-1]⟩) Ab rfl) (A8 ?_)
       refine A5 (Aq A7 (A8 ?_))
      rotate_left 1
      focus
       refine A8 ?_
       refine A5 ?_
       refine A3 [1,13] A7 ⟨?_,?_,trivial⟩
       focus
        refine A8 ?_
        refine A5 (A3 [13] A7 ⟨A8 ?_,trivial⟩)
        refine Av A0 rfl rfl rfl rfl rfl rfl rfl rfl rfl rfl rfl (Ap ((r.2.2.nodes.getD r2.2.2.toNat default).outs++[r4.2.2-1])) (Ad rfl) Bj Ab (A8 ?_)
        refine A5 (A3 [14] A7 ⟨A8 ?_,trivial⟩)
        (repeat refine Am ?_)
        refine A5 ?_
        refine Aj A0 false 15 rfl rfl rfl A7 rfl (A4 B1) ?_
        refine A3 [16] A7 ⟨A8 ?_,trivial⟩
        refine Al (j:=r2.2.2) A0 rfl rfl rfl rfl rfl rfl rfl rfl _ (Ax (j:=r2.2.2.toNat) (xs:=r.2.2.nodes) (e:=An.c) (x:=⟨(r.2.2.nodes.getD r2.2.2.toNat default).kind,(r.2.2.nodes.getD r2.2.2.toNat default).a,(r.2.2.nodes.getD r2.2.2.toNat default).b,(r.2.2.nodes.getD r2.2.2.toNat default).outs++[r4.2.2-1]⟩) Ab rfl) (A8 ?_)
        refine A5 (Aq A7 (A8 ?_))
       rotate_left 1
       focus
        refine A8 ?_
        refine Av A0 rfl rfl rfl rfl rfl rfl rfl rfl rfl rfl rfl (Ap ((r.2.2.nodes.getD r2.2.2.toNat default).outs++[r4.2.2-1])) (Ad rfl) Bj Ab (A8 ?_)
        refine A5 (A3 [1] A7 ⟨A8 ?_,trivial⟩)
        refine A5 (A3 [14] A7 ⟨A8 ?_,trivial⟩)
        (repeat refine Am ?_)
        refine A5 ?_
        refine Aj A0 false 15 rfl rfl rfl A7 rfl (A4 B1) ?_
        refine A3 [16] A7 ⟨A8 ?_,trivial⟩
        refine Al (j:=r2.2.2) A0 rfl rfl rfl rfl rfl rfl rfl rfl _ (Ax (j:=r2.2.2.toNat) (xs:=r.2.2.nodes) (e:=An.c) (x:=⟨(r.2.2.nodes.getD r2.2.2.toNat default).kind,(r.2.2.nodes.getD r2.2.2.toNat default).a,(r.2.2.nodes.getD r2.2.2.toNat default).b,(r.2.2.nodes.getD r2.2.2.toNat default).outs++[r4.2.2-1]⟩) Ab rfl) (A8 ?_)
        refine A5 (Aq A7 (A8 ?_))
     rotate_left 3
     focus
      refine A8 ?_
      refine A5 ?_
      refine A3 [1,8] A7 ⟨?_,?_,trivial⟩
      focus
       refine A8 ?_
       refine A5 (A3 [8] A7 ⟨A8 ?_,trivial⟩)
       refine C7 A0 rfl rfl rfl rfl rfl rfl (c:=Ap (r.2.2.nodes.getD r2.2.2.toNat default).outs) rfl (fun v=>go A0 false ?_)
       conv=>whnf
       refine A5 (A3 [13] A7 ⟨A8 ?_,trivial⟩)
       refine Av A0 rfl rfl rfl rfl rfl rfl rfl rfl rfl rfl rfl (Ap ((r.2.2.nodes.getD r2.2.2.toNat default).outs++[r4.2.2-1])) (Ad rfl) Bj Ab (A8 ?_)
       refine A5 (A3 [14] A7 ⟨A8 ?_,trivial⟩)
       (repeat refine Am ?_)
       refine A5 ?_
       refine Aj A0 false 15 rfl rfl rfl A7 rfl (A4 B1) ?_
       refine A3 [16] A7 ⟨A8 ?_,trivial⟩
       refine Al (j:=r2.2.2) A0 rfl rfl rfl rfl rfl rfl rfl rfl _ (Ax (j:=r2.2.2.toNat) (xs:=r.2.2.nodes) (e:=An.c) (x:=⟨(r.2.2.nodes.getD r2.2.2.toNat default).kind,(r.2.2.nodes.getD r2.2.2.toNat default).a,(r.2.2.nodes.getD r2.2.2.toNat default).b,(r.2.2.nodes.getD r2.2.2.toNat default).outs++[r4.2.2-1]⟩) Ab rfl) (A8 ?_)
       refine A5 (Aq A7 (A8 ?_))
      rotate_left 1
      focus
       refine A8 ?_
       refine C7 A0 rfl rfl rfl rfl rfl rfl (c:=Ap (r.2.2.nodes.getD r2.2.2.toNat default).outs) rfl (fun v=>go A0 false ?_)
       conv=>whnf
       refine A5 ?_
       refine A3 [1,13] A7 ⟨?_,?_,trivial⟩
       focus
        refine A8 ?_
        refine A5 (A3 [13] A7 ⟨A8 ?_,trivial⟩)
        refine Av A0 rfl rfl rfl rfl rfl rfl rfl rfl rfl rfl rfl (Ap ((r.2.2.nodes.getD r2.2.2.toNat default).outs++[r4.2.2-1])) (Ad rfl) Bj Ab (A8 ?_)
        refine A5 (A3 [14] A7 ⟨A8 ?_,trivial⟩)
        (repeat refine Am ?_)
        refine A5 ?_
        refine Aj A0 false 15 rfl rfl rfl A7 rfl (A4 B1) ?_
        refine A3 [16] A7 ⟨A8 ?_,trivial⟩
        refine Al (j:=r2.2.2) A0 rfl rfl rfl rfl rfl rfl rfl rfl _ (Ax (j:=r2.2.2.toNat) (xs:=r.2.2.nodes) (e:=An.c) (x:=⟨(r.2.2.nodes.getD r2.2.2.toNat default).kind,(r.2.2.nodes.getD r2.2.2.toNat default).a,(r.2.2.nodes.getD r2.2.2.toNat default).b,(r.2.2.nodes.getD r2.2.2.toNat default).outs++[r4.2.2-1]⟩) Ab rfl) (A8 ?_)
        refine A5 (Aq A7 (A8 ?_))
       rotate_left 1
       focus
        refine A8 ?_
        refine Av A0 rfl rfl rfl rfl rfl rfl rfl rfl rfl rfl rfl (Ap ((r.2.2.nodes.getD r2.2.2.toNat default).outs++[r4.2.2-1])) (Ad rfl) Bj Ab (A8 ?_)
        refine A5 (A3 [1] A7 ⟨A8 ?_,trivial⟩)
        refine A5 (A3 [14] A7 ⟨A8 ?_,trivial⟩)
        (repeat refine Am ?_)
        refine A5 ?_
        refine Aj A0 false 15 rfl rfl rfl A7 rfl (A4 B1) ?_
        refine A3 [16] A7 ⟨A8 ?_,trivial⟩
        refine Al (j:=r2.2.2) A0 rfl rfl rfl rfl rfl rfl rfl rfl _ (Ax (j:=r2.2.2.toNat) (xs:=r.2.2.nodes) (e:=An.c) (x:=⟨(r.2.2.nodes.getD r2.2.2.toNat default).kind,(r.2.2.nodes.getD r2.2.2.toNat default).a,(r.2.2.nodes.getD r2.2.2.toNat default).b,(r.2.2.nodes.getD r2.2.2.toNat default).outs++[r4.2.2-1]⟩) Ab rfl) (A8 ?_)
        refine A5 (Aq A7 (A8 ?_))
    rotate_left 8
    focus
     refine A8 ?_
     refine A5 ?_
     refine A3 [1,6] A7 ⟨?_,?_,trivial⟩
     focus
      refine A8 ?_
      refine A5 (A3 [6] A7 ⟨A8 ?_,trivial⟩)
      (repeat refine Am ?_)
      refine A5 ?_
      refine Aj A0 false 7 rfl rfl rfl A7 rfl (A4 B1) ?_
      refine A3 [8] A7 ⟨A8 ?_,trivial⟩
      refine C7 A0 rfl rfl rfl rfl rfl rfl (c:=Ap (r.2.2.nodes.getD r2.2.2.toNat default).outs) rfl (fun v=>go A0 false ?_)
      conv=>whnf
      refine A5 (A3 [13] A7 ⟨A8 ?_,trivial⟩)
      refine Av A0 rfl rfl rfl rfl rfl rfl rfl rfl rfl rfl rfl (Ap ((r.2.2.nodes.getD r2.2.2.toNat default).outs++[r4.2.2-1])) (Ad rfl) Bj Ab (A8 ?_)
      refine A5 (A3 [14] A7 ⟨A8 ?_,trivial⟩)
      (repeat refine Am ?_)
      refine A5 ?_
      refine Aj A0 false 15 rfl rfl rfl A7 rfl (A4 B1) ?_
      refine A3 [16] A7 ⟨A8 ?_,trivial⟩
      refine Al (j:=r2.2.2) A0 rfl rfl rfl rfl rfl rfl rfl rfl _ (Ax (j:=r2.2.2.toNat) (xs:=r.2.2.nodes) (e:=An.c) (x:=⟨(r.2.2.nodes.getD r2.2.2.toNat default).kind,(r.2.2.nodes.getD r2.2.2.toNat default).a,(r.2.2.nodes.getD r2.2.2.toNat default).b,(r.2.2.nodes.getD r2.2.2.toNat default).outs++[r4.2.2-1]⟩) Ab rfl) (A8 ?_)
      refine A5 (Aq A7 (A8 ?_))
     rotate_left 1
     focus
      refine A8 ?_
      (repeat refine Am ?_)
      refine A5 ?_
      refine Aj A0 false 7 rfl rfl rfl A7 rfl (A4 B1) ?_
      refine A3 [1,8] A7 ⟨?_,?_,trivial⟩
      focus
       refine A8 ?_
       refine A5 (A3 [8] A7 ⟨A8 ?_,trivial⟩)
       refine C7 A0 rfl rfl rfl rfl rfl rfl (c:=Ap (r.2.2.nodes.getD r2.2.2.toNat default).outs) rfl (fun v=>go A0 false ?_)
       conv=>whnf
       refine A5 (A3 [13] A7 ⟨A8 ?_,trivial⟩)
       refine Av A0 rfl rfl rfl rfl rfl rfl rfl rfl rfl rfl rfl (Ap ((r.2.2.nodes.getD r2.2.2.toNat default).outs++[r4.2.2-1])) (Ad rfl) Bj Ab (A8 ?_)
       refine A5 (A3 [14] A7 ⟨A8 ?_,trivial⟩)
       (repeat refine Am ?_)
       refine A5 ?_
       refine Aj A0 false 15 rfl rfl rfl A7 rfl (A4 B1) ?_
       refine A3 [16] A7 ⟨A8 ?_,trivial⟩
       refine Al (j:=r2.2.2) A0 rfl rfl rfl rfl rfl rfl rfl rfl _ (Ax (j:=r2.2.2.toNat) (xs:=r.2.2.nodes) (e:=An.c) (x:=⟨(r.2.2.nodes.getD r2.2.2.toNat default).kind,(r.2.2.nodes.getD r2.2.2.toNat default).a,(r.2.2.nodes.getD r2.2.2.toNat default).b,(r.2.2.nodes.getD r2.2.2.toNat default).outs++[r4.2.2-1]⟩) Ab rfl) (A8 ?_)
       refine A5 (Aq A7 (A8 ?_))
      rotate_left 1
      focus
       refine A8 ?_
       refine C7 A0 rfl rfl rfl rfl rfl rfl (c:=Ap (r.2.2.nodes.getD r2.2.2.toNat default).outs) rfl (fun v=>go A0 false ?_)
       conv=>whnf
       refine A5 ?_
       refine A3 [1,13] A7 ⟨?_,?_,trivial⟩
       focus
        refine A8 ?_
        refine A5 (A3 [13] A7 ⟨A8 ?_,trivial⟩)
        refine Av A0 rfl rfl rfl rfl rfl rfl rfl rfl rfl rfl rfl (Ap ((r.2.2.nodes.getD r2.2.2.toNat default).outs++[r4.2.2-1])) (Ad rfl) Bj Ab (A8 ?_)
        refine A5 (A3 [14] A7 ⟨A8 ?_,trivial⟩)
        (repeat refine Am ?_)
        refine A5 ?_
        refine Aj A0 false 15 rfl rfl rfl A7 rfl (A4 B1) ?_
        refine A3 [16] A7 ⟨A8 ?_,trivial⟩
        refine Al (j:=r2.2.2) A0 rfl rfl rfl rfl rfl rfl rfl rfl _ (Ax (j:=r2.2.2.toNat) (xs:=r.2.2.nodes) (e:=An.c) (x:=⟨(r.2.2.nodes.getD r2.2.2.toNat default).kind,(r.2.2.nodes.getD r2.2.2.toNat default).a,(r.2.2.nodes.getD r2.2.2.toNat default).b,(r.2.2.nodes.getD r2.2.2.toNat default).outs++[r4.2.2-1]⟩) Ab rfl) (A8 ?_)
        refine A5 (Aq A7 (A8 ?_))
       rotate_left 1
       focus
        refine A8 ?_
        refine Av A0 rfl rfl rfl rfl rfl rfl rfl rfl rfl rfl rfl (Ap ((r.2.2.nodes.getD r2.2.2.toNat default).outs++[r4.2.2-1])) (Ad rfl) Bj Ab (A8 ?_)
        refine A5 (A3 [1] A7 ⟨A8 ?_,trivial⟩)
        refine A5 (A3 [14] A7 ⟨A8 ?_,trivial⟩)
        (repeat refine Am ?_)
        refine A5 ?_
        refine Aj A0 false 15 rfl rfl rfl A7 rfl (A4 B1) ?_
        refine A3 [16] A7 ⟨A8 ?_,trivial⟩
        refine Al (j:=r2.2.2) A0 rfl rfl rfl rfl rfl rfl rfl rfl _ (Ax (j:=r2.2.2.toNat) (xs:=r.2.2.nodes) (e:=An.c) (x:=⟨(r.2.2.nodes.getD r2.2.2.toNat default).kind,(r.2.2.nodes.getD r2.2.2.toNat default).a,(r.2.2.nodes.getD r2.2.2.toNat default).b,(r.2.2.nodes.getD r2.2.2.toNat default).outs++[r4.2.2-1]⟩) Ab rfl) (A8 ?_)
        refine A5 (Aq A7 (A8 ?_))
  rotate_left 36
  focus
   refine A8 ?_
   refine Ai (Ah d r3.1 r3.2.1 9 hr3.1 Aw) hH hp rfl At rfl rfl (fun r4 hr4=>go A0 false ?_)
   conv=>whnf
   refine A5 ?_
   refine Aj A0 false 11 rfl rfl rfl A7 rfl (A4 B1) ?_
   refine A3 [1,4,12] A7 ⟨?_,?_,?_,trivial⟩
   focus
    refine A8 ?_
    refine A5 ?_
    refine A3 [4,12] A7 ⟨?_,?_,trivial⟩
    focus
     refine A8 ?_
     refine A5 ?_
     refine A3 [6,12] A7 ⟨?_,?_,trivial⟩
     focus
      refine A8 ?_
      (repeat refine Am ?_)
      refine A5 ?_
      refine Aj A0 false 7 rfl rfl rfl A7 rfl (A4 B1) ?_
      refine A3 [8,12] A7 ⟨?_,?_,trivial⟩
      focus
       refine A8 ?_
       refine C7 A0 rfl rfl rfl rfl rfl rfl (c:=Ap (r.2.2.nodes.getD r2.2.2.toNat default).outs) rfl (fun v=>go A0 false ?_)
       conv=>whnf
       refine A5 (A3 [12] A7 ⟨A8 ?_,trivial⟩)
       refine A5 (A3 [13] A7 ⟨A8 ?_,trivial⟩)
       refine Av A0 rfl rfl rfl rfl rfl rfl rfl rfl rfl rfl rfl (Ap ((r.2.2.nodes.getD r2.2.2.toNat default).outs++[r4.2.2-1])) (Ad rfl) Bj Ab (A8 ?_)
       refine A5 (A3 [14] A7 ⟨A8 ?_,trivial⟩)
       (repeat refine Am ?_)
       refine A5 ?_
       refine Aj A0 false 15 rfl rfl rfl A7 rfl (A4 B1) ?_
       refine A3 [16] A7 ⟨A8 ?_,trivial⟩
       refine Al (j:=r2.2.2) A0 rfl rfl rfl rfl rfl rfl rfl rfl _ (Ax (j:=r2.2.2.toNat) (xs:=r.2.2.nodes) (e:=An.c) (x:=⟨(r.2.2.nodes.getD r2.2.2.toNat default).kind,(r.2.2.nodes.getD r2.2.2.toNat default).a,(r.2.2.nodes.getD r2.2.2.toNat default).b,(r.2.2.nodes.getD r2.2.2.toNat default).outs++[r4.2.2-1]⟩) Ab rfl) (A8 ?_)
       refine A5 (Aq A7 (A8 ?_))
      rotate_left 1
      focus
       refine A8 ?_
       refine A5 (A3 [8] A7 ⟨A8 ?_,trivial⟩)
       refine C7 A0 rfl rfl rfl rfl rfl rfl (c:=Ap (r.2.2.nodes.getD r2.2.2.toNat default).outs) rfl (fun v=>go A0 false ?_)
       conv=>whnf
       refine A5 (A3 [13] A7 ⟨A8 ?_,trivial⟩)
       refine Av A0 rfl rfl rfl rfl rfl rfl rfl rfl rfl rfl rfl (Ap ((r.2.2.nodes.getD r2.2.2.toNat default).outs++[r4.2.2-1])) (Ad rfl) Bj Ab (A8 ?_)
       refine A5 (A3 [14] A7 ⟨A8 ?_,trivial⟩)
       (repeat refine Am ?_)
       refine A5 ?_
       refine Aj A0 false 15 rfl rfl rfl A7 rfl (A4 B1) ?_
       refine A3 [16] A7 ⟨A8 ?_,trivial⟩
       refine Al (j:=r2.2.2) A0 rfl rfl rfl rfl rfl rfl rfl rfl _ (Ax (j:=r2.2.2.toNat) (xs:=r.2.2.nodes) (e:=An.c) (x:=⟨(r.2.2.nodes.getD r2.2.2.toNat default).kind,(r.2.2.nodes.getD r2.2.2.toNat default).a,(r.2.2.nodes.getD r2.2.2.toNat default).b,(r.2.2.nodes.getD r2.2.2.toNat default).outs++[r4.2.2-1]⟩) Ab rfl) (A8 ?_)
       refine A5 (Aq A7 (A8 ?_))
     rotate_left 2
     focus
      refine A8 ?_
      refine A5 (A3 [6] A7 ⟨A8 ?_,trivial⟩)
      (repeat refine Am ?_)
      refine A5 ?_
      refine Aj A0 false 7 rfl rfl rfl A7 rfl (A4 B1) ?_
      refine A3 [8] A7 ⟨A8 ?_,trivial⟩
      refine C7 A0 rfl rfl rfl rfl rfl rfl (c:=Ap (r.2.2.nodes.getD r2.2.2.toNat default).outs) rfl (fun v=>go A0 false ?_)
      conv=>whnf
      refine A5 (A3 [13] A7 ⟨A8 ?_,trivial⟩)
      refine Av A0 rfl rfl rfl rfl rfl rfl rfl rfl rfl rfl rfl (Ap ((r.2.2.nodes.getD r2.2.2.toNat default).outs++[r4.2.2-1])) (Ad rfl) Bj Ab (A8 ?_)
      refine A5 (A3 [14] A7 ⟨A8 ?_,trivial⟩)
      (repeat refine Am ?_)
      refine A5 ?_
      refine Aj A0 false 15 rfl rfl rfl A7 rfl (A4 B1) ?_
      refine A3 [16] A7 ⟨A8 ?_,trivial⟩
      refine Al (j:=r2.2.2) A0 rfl rfl rfl rfl rfl rfl rfl rfl _ (Ax (j:=r2.2.2.toNat) (xs:=r.2.2.nodes) (e:=An.c) (x:=⟨(r.2.2.nodes.getD r2.2.2.toNat default).kind,(r.2.2.nodes.getD r2.2.2.toNat default).a,(r.2.2.nodes.getD r2.2.2.toNat default).b,(r.2.2.nodes.getD r2.2.2.toNat default).outs++[r4.2.2-1]⟩) Ab rfl) (A8 ?_)
      refine A5 (Aq A7 (A8 ?_))
    rotate_left 3
    focus
     refine A8 ?_
     refine A5 (A3 [4] A7 ⟨A8 ?_,trivial⟩)
     refine A5 (A3 [6] A7 ⟨A8 ?_,trivial⟩)
     (repeat refine Am ?_)
     refine A5 ?_
     refine Aj A0 false 7 rfl rfl rfl A7 rfl (A4 B1) ?_
     refine A3 [8] A7 ⟨A8 ?_,trivial⟩
     refine C7 A0 rfl rfl rfl rfl rfl rfl (c:=Ap (r.2.2.nodes.getD r2.2.2.toNat default).outs) rfl (fun v=>go A0 false ?_)
     conv=>whnf
     refine A5 (A3 [13] A7 ⟨A8 ?_,trivial⟩)
     refine Av A0 rfl rfl rfl rfl rfl rfl rfl rfl rfl rfl rfl (Ap ((r.2.2.nodes.getD r2.2.2.toNat default).outs++[r4.2.2-1])) (Ad rfl) Bj Ab (A8 ?_)
     refine A5 (A3 [14] A7 ⟨A8 ?_,trivial⟩)
     (repeat refine Am ?_)
     refine A5 ?_
     refine Aj A0 false 15 rfl rfl rfl A7 rfl (A4 B1) ?_
     refine A3 [16] A7 ⟨A8 ?_,trivial⟩
     refine Al (j:=r2.2.2) A0 rfl rfl rfl rfl rfl rfl rfl rfl _ (Ax (j:=r2.2.2.toNat) (xs:=r.2.2.nodes) (e:=An.c) (x:=⟨(r.2.2.nodes.getD r2.2.2.toNat default).kind,(r.2.2.nodes.getD r2.2.2.toNat default).a,(r.2.2.nodes.getD r2.2.2.toNat default).b,(r.2.2.nodes.getD r2.2.2.toNat default).outs++[r4.2.2-1]⟩) Ab rfl) (A8 ?_)
     refine A5 (Aq A7 (A8 ?_))
   rotate_left 4
   focus
    refine A8 ?_
    refine A5 ?_
    refine A3 [1,6,12] A7 ⟨?_,?_,?_,trivial⟩
    focus
     refine A8 ?_
     refine A5 ?_
     refine A3 [6,12] A7 ⟨?_,?_,trivial⟩
     focus
      refine A8 ?_
      (repeat refine Am ?_)
      refine A5 ?_
      refine Aj A0 false 7 rfl rfl rfl A7 rfl (A4 B1) ?_
      refine A3 [8,12] A7 ⟨?_,?_,trivial⟩
      focus
       refine A8 ?_
       refine C7 A0 rfl rfl rfl rfl rfl rfl (c:=Ap (r.2.2.nodes.getD r2.2.2.toNat default).outs) rfl (fun v=>go A0 false ?_)
       conv=>whnf
       refine A5 (A3 [12] A7 ⟨A8 ?_,trivial⟩)
       refine A5 (A3 [13] A7 ⟨A8 ?_,trivial⟩)
       refine Av A0 rfl rfl rfl rfl rfl rfl rfl rfl rfl rfl rfl (Ap ((r.2.2.nodes.getD r2.2.2.toNat default).outs++[r4.2.2-1])) (Ad rfl) Bj Ab (A8 ?_)
       refine A5 (A3 [14] A7 ⟨A8 ?_,trivial⟩)
       (repeat refine Am ?_)
       refine A5 ?_
       refine Aj A0 false 15 rfl rfl rfl A7 rfl (A4 B1) ?_
       refine A3 [16] A7 ⟨A8 ?_,trivial⟩
       refine Al (j:=r2.2.2) A0 rfl rfl rfl rfl rfl rfl rfl rfl _ (Ax (j:=r2.2.2.toNat) (xs:=r.2.2.nodes) (e:=An.c) (x:=⟨(r.2.2.nodes.getD r2.2.2.toNat default).kind,(r.2.2.nodes.getD r2.2.2.toNat default).a,(r.2.2.nodes.getD r2.2.2.toNat default).b,(r.2.2.nodes.getD r2.2.2.toNat default).outs++[r4.2.2-1]⟩) Ab rfl) (A8 ?_)
       refine A5 (Aq A7 (A8 ?_))
      rotate_left 1
      focus
       refine A8 ?_
       refine A5 (A3 [8] A7 ⟨A8 ?_,trivial⟩)
       refine C7 A0 rfl rfl rfl rfl rfl rfl (c:=Ap (r.2.2.nodes.getD r2.2.2.toNat default).outs) rfl (fun v=>go A0 false ?_)
       conv=>whnf
       refine A5 (A3 [13] A7 ⟨A8 ?_,trivial⟩)
       refine Av A0 rfl rfl rfl rfl rfl rfl rfl rfl rfl rfl rfl (Ap ((r.2.2.nodes.getD r2.2.2.toNat default).outs++[r4.2.2-1])) (Ad rfl) Bj Ab (A8 ?_)
       refine A5 (A3 [14] A7 ⟨A8 ?_,trivial⟩)
       (repeat refine Am ?_)
       refine A5 ?_
       refine Aj A0 false 15 rfl rfl rfl A7 rfl (A4 B1) ?_
       refine A3 [16] A7 ⟨A8 ?_,trivial⟩
       refine Al (j:=r2.2.2) A0 rfl rfl rfl rfl rfl rfl rfl rfl _ (Ax (j:=r2.2.2.toNat) (xs:=r.2.2.nodes) (e:=An.c) (x:=⟨(r.2.2.nodes.getD r2.2.2.toNat default).kind,(r.2.2.nodes.getD r2.2.2.toNat default).a,(r.2.2.nodes.getD r2.2.2.toNat default).b,(r.2.2.nodes.getD r2.2.2.toNat default).outs++[r4.2.2-1]⟩) Ab rfl) (A8 ?_)
       refine A5 (Aq A7 (A8 ?_))
     rotate_left 2
     focus
      refine A8 ?_
      refine A5 (A3 [6] A7 ⟨A8 ?_,trivial⟩)
      (repeat refine Am ?_)
      refine A5 ?_
      refine Aj A0 false 7 rfl rfl rfl A7 rfl (A4 B1) ?_
      refine A3 [8] A7 ⟨A8 ?_,trivial⟩
      refine C7 A0 rfl rfl rfl rfl rfl rfl (c:=Ap (r.2.2.nodes.getD r2.2.2.toNat default).outs) rfl (fun v=>go A0 false ?_)
      conv=>whnf
      refine A5 (A3 [13] A7 ⟨A8 ?_,trivial⟩)
      refine Av A0 rfl rfl rfl rfl rfl rfl rfl rfl rfl rfl rfl (Ap ((r.2.2.nodes.getD r2.2.2.toNat default).outs++[r4.2.2-1])) (Ad rfl) Bj Ab (A8 ?_)
      refine A5 (A3 [14] A7 ⟨A8 ?_,trivial⟩)
      (repeat refine Am ?_)
      refine A5 ?_
      refine Aj A0 false 15 rfl rfl rfl A7 rfl (A4 B1) ?_
      refine A3 [16] A7 ⟨A8 ?_,trivial⟩
      refine Al (j:=r2.2.2) A0 rfl rfl rfl rfl rfl rfl rfl rfl _ (Ax (j:=r2.2.2.toNat) (xs:=r.2.2.nodes) (e:=An.c) (x:=⟨(r.2.2.nodes.getD r2.2.2.toNat default).kind,(r.2.2.nodes.getD r2.2.2.toNat default).a,(r.2.2.nodes.getD r2.2.2.toNat default).b,(r.2.2.nodes.getD r2.2.2.toNat default).outs++[r4.2.2-1]⟩) Ab rfl) (A8 ?_)
      refine A5 (Aq A7 (A8 ?_))
    rotate_left 3
    focus
     refine A8 ?_
     (repeat refine Am ?_)
     refine A5 ?_
     refine Aj A0 false 7 rfl rfl rfl A7 rfl (A4 B1) ?_
     refine A3 [1,8,12] A7 ⟨?_,?_,?_,trivial⟩
     focus
      refine A8 ?_
      refine A5 ?_
      refine A3 [8,12] A7 ⟨?_,?_,trivial⟩
      focus
       refine A8 ?_
       refine C7 A0 rfl rfl rfl rfl rfl rfl (c:=Ap (r.2.2.nodes.getD r2.2.2.toNat default).outs) rfl (fun v=>go A0 false ?_)
       conv=>whnf
       refine A5 (A3 [12] A7 ⟨A8 ?_,trivial⟩)
       refine A5 (A3 [13] A7 ⟨A8 ?_,trivial⟩)
       refine Av A0 rfl rfl rfl rfl rfl rfl rfl rfl rfl rfl rfl (Ap ((r.2.2.nodes.getD r2.2.2.toNat default).outs++[r4.2.2-1])) (Ad rfl) Bj Ab (A8 ?_)
       refine A5 (A3 [14] A7 ⟨A8 ?_,trivial⟩)
       (repeat refine Am ?_)
       refine A5 ?_
       refine Aj A0 false 15 rfl rfl rfl A7 rfl (A4 B1) ?_
       refine A3 [16] A7 ⟨A8 ?_,trivial⟩
       refine Al (j:=r2.2.2) A0 rfl rfl rfl rfl rfl rfl rfl rfl _ (Ax (j:=r2.2.2.toNat) (xs:=r.2.2.nodes) (e:=An.c) (x:=⟨(r.2.2.nodes.getD r2.2.2.toNat default).kind,(r.2.2.nodes.getD r2.2.2.toNat default).a,(r.2.2.nodes.getD r2.2.2.toNat default).b,(r.2.2.nodes.getD r2.2.2.toNat default).outs++[r4.2.2-1]⟩) Ab rfl) (A8 ?_)
       refine A5 (Aq A7 (A8 ?_))
      rotate_left 1
      focus
       refine A8 ?_
       refine A5 (A3 [8] A7 ⟨A8 ?_,trivial⟩)
       refine C7 A0 rfl rfl rfl rfl rfl rfl (c:=Ap (r.2.2.nodes.getD r2.2.2.toNat default).outs) rfl (fun v=>go A0 false ?_)
       conv=>whnf
       refine A5 (A3 [13] A7 ⟨A8 ?_,trivial⟩)
       refine Av A0 rfl rfl rfl rfl rfl rfl rfl rfl rfl rfl rfl (Ap ((r.2.2.nodes.getD r2.2.2.toNat default).outs++[r4.2.2-1])) (Ad rfl) Bj Ab (A8 ?_)
       refine A5 (A3 [14] A7 ⟨A8 ?_,trivial⟩)
       (repeat refine Am ?_)
       refine A5 ?_
       refine Aj A0 false 15 rfl rfl rfl A7 rfl (A4 B1) ?_
       refine A3 [16] A7 ⟨A8 ?_,trivial⟩
       refine Al (j:=r2.2.2) A0 rfl rfl rfl rfl rfl rfl rfl rfl _ (Ax (j:=r2.2.2.toNat) (xs:=r.2.2.nodes) (e:=An.c) (x:=⟨(r.2.2.nodes.getD r2.2.2.toNat default).kind,(r.2.2.nodes.getD r2.2.2.toNat default).a,(r.2.2.nodes.getD r2.2.2.toNat default).b,(r.2.2.nodes.getD r2.2.2.toNat default).outs++[r4.2.2-1]⟩) Ab rfl) (A8 ?_)
       refine A5 (Aq A7 (A8 ?_))
     rotate_left 2
     focus
      refine A8 ?_
      refine C7 A0 rfl rfl rfl rfl rfl rfl (c:=Ap (r.2.2.nodes.getD r2.2.2.toNat default).outs) rfl (fun v=>go A0 false ?_)
      conv=>whnf
      refine A5 ?_
      refine A3 [1,12] A7 ⟨?_,?_,trivial⟩
      focus
       refine A8 ?_
       refine A5 (A3 [12] A7 ⟨A8 ?_,trivial⟩)
       refine A5 (A3 [13] A7 ⟨A8 ?_,trivial⟩)
       refine Av A0 rfl rfl rfl rfl rfl rfl rfl rfl rfl rfl rfl (Ap ((r.2.2.nodes.getD r2.2.2.toNat default).outs++[r4.2.2-1])) (Ad rfl) Bj Ab (A8 ?_)
       refine A5 (A3 [14] A7 ⟨A8 ?_,trivial⟩)
       (repeat refine Am ?_)
       refine A5 ?_
       refine Aj A0 false 15 rfl rfl rfl A7 rfl (A4 B1) ?_
       refine A3 [16] A7 ⟨A8 ?_,trivial⟩
       refine Al (j:=r2.2.2) A0 rfl rfl rfl rfl rfl rfl rfl rfl _ (Ax (j:=r2.2.2.toNat) (xs:=r.2.2.nodes) (e:=An.c) (x:=⟨(r.2.2.nodes.getD r2.2.2.toNat default).kind,(r.2.2.nodes.getD r2.2.2.toNat default).a,(r.2.2.nodes.getD r2.2.2.toNat default).b,(r.2.2.nodes.getD r2.2.2.toNat default).outs++[r4.2.2-1]⟩) Ab rfl) (A8 ?_)
       refine A5 (Aq A7 (A8 ?_))
      rotate_left 1
      focus
       refine A8 ?_
       refine A5 ?_
       refine A3 [1,13] A7 ⟨?_,?_,trivial⟩
       focus
        refine A8 ?_
        refine A5 (A3 [13] A7 ⟨A8 ?_,trivial⟩)
        refine Av A0 rfl rfl rfl rfl rfl rfl rfl rfl rfl rfl rfl (Ap ((r.2.2.nodes.getD r2.2.2.toNat default).outs++[r4.2.2-1])) (Ad rfl) Bj Ab (A8 ?_)
        refine A5 (A3 [14] A7 ⟨A8 ?_,trivial⟩)
        (repeat refine Am ?_)
        refine A5 ?_
        refine Aj A0 false 15 rfl rfl rfl A7 rfl (A4 B1) ?_
        refine A3 [16] A7 ⟨A8 ?_,trivial⟩
        refine Al (j:=r2.2.2) A0 rfl rfl rfl rfl rfl rfl rfl rfl _ (Ax (j:=r2.2.2.toNat) (xs:=r.2.2.nodes) (e:=An.c) (x:=⟨(r.2.2.nodes.getD r2.2.2.toNat default).kind,(r.2.2.nodes.getD r2.2.2.toNat default).a,(r.2.2.nodes.getD r2.2.2.toNat default).b,(r.2.2.nodes.getD r2.2.2.toNat default).outs++[r4.2.2-1]⟩) Ab rfl) (A8 ?_)
        refine A5 (Aq A7 (A8 ?_))
       rotate_left 1
       focus
        refine A8 ?_
        refine Av A0 rfl rfl rfl rfl rfl rfl rfl rfl rfl rfl rfl (Ap ((r.2.2.nodes.getD r2.2.2.toNat default).outs++[r4.2.2-1])) (Ad rfl) Bj Ab (A8 ?_)
        refine A5 (A3 [1] A7 ⟨A8 ?_,trivial⟩)
        refine A5 (A3 [14] A7 ⟨A8 ?_,trivial⟩)
        (repeat refine Am ?_)
        refine A5 ?_
        refine Aj A0 false 15 rfl rfl rfl A7 rfl (A4 B1) ?_
        refine A3 [16] A7 ⟨A8 ?_,trivial⟩
        refine Al (j:=r2.2.2) A0 rfl rfl rfl rfl rfl rfl rfl rfl _ (Ax (j:=r2.2.2.toNat) (xs:=r.2.2.nodes) (e:=An.c) (x:=⟨(r.2.2.nodes.getD r2.2.2.toNat default).kind,(r.2.2.nodes.getD r2.2.2.toNat default).a,(r.2.2.nodes.getD r2.2.2.toNat default).b,(r.2.2.nodes.getD r2.2.2.toNat default).outs++[r4.2.2-1]⟩) Ab rfl) (A8 ?_)
        refine A5 (Aq A7 (A8 ?_))
     rotate_left 3
     focus
      refine A8 ?_
      refine A5 ?_
      refine A3 [1,8] A7 ⟨?_,?_,trivial⟩
      focus
       refine A8 ?_
       refine A5 (A3 [8] A7 ⟨A8 ?_,trivial⟩)
       refine C7 A0 rfl rfl rfl rfl rfl rfl (c:=Ap (r.2.2.nodes.getD r2.2.2.toNat default).outs) rfl (fun v=>go A0 false ?_)
       conv=>whnf
       refine A5 (A3 [13] A7 ⟨A8 ?_,trivial⟩)
       refine Av A0 rfl rfl rfl rfl rfl rfl rfl rfl rfl rfl rfl (Ap ((r.2.2.nodes.getD r2.2.2.toNat default).outs++[r4.2.2-1])) (Ad rfl) Bj Ab (A8 ?_)
       refine A5 (A3 [14] A7 ⟨A8 ?_,trivial⟩)
       (repeat refine Am ?_)
       refine A5 ?_
       refine Aj A0 false 15 rfl rfl rfl A7 rfl (A4 B1) ?_
       refine A3 [16] A7 ⟨A8 ?_,trivial⟩
       refine Al (j:=r2.2.2) A0 rfl rfl rfl rfl rfl rfl rfl rfl _ (Ax (j:=r2.2.2.toNat) (xs:=r.2.2.nodes) (e:=An.c) (x:=⟨(r.2.2.nodes.getD r2.2.2.toNat default).kind,(r.2.2.nodes.getD r2.2.2.toNat default).a,(r.2.2.nodes.getD r2.2.2.toNat default).b,(r.2.2.nodes.getD r2.2.2.toNat default).outs++[r4.2.2-1]⟩) Ab rfl) (A8 ?_)
       refine A5 (Aq A7 (A8 ?_))
      rotate_left 1
      focus
       refine A8 ?_
       refine C7 A0 rfl rfl rfl rfl rfl rfl (c:=Ap (r.2.2.nodes.getD r2.2.2.toNat default).outs) rfl (fun v=>go A0 false ?_)
       conv=>whnf
       refine A5 ?_
       refine A3 [1,13] A7 ⟨?_,?_,trivial⟩
       focus
        refine A8 ?_
        refine A5 (A3 [13] A7 ⟨A8 ?_,trivial⟩)
        refine Av A0 rfl rfl rfl rfl rfl rfl rfl rfl rfl rfl rfl (Ap ((r.2.2.nodes.getD r2.2.2.toNat default).outs++[r4.2.2-1])) (Ad rfl) Bj Ab (A8 ?_)
        refine A5 (A3 [14] A7 ⟨A8 ?_,trivial⟩)
        (repeat refine Am ?_)
        refine A5 ?_
        refine Aj A0 false 15 rfl rfl rfl A7 rfl (A4 B1) ?_
        refine A3 [16] A7 ⟨A8 ?_,trivial⟩
        refine Al (j:=r2.2.2) A0 rfl rfl rfl rfl rfl rfl rfl rfl _ (Ax (j:=r2.2.2.toNat) (xs:=r.2.2.nodes) (e:=An.c) (x:=⟨(r.2.2.nodes.getD r2.2.2.toNat default).kind,(r.2.2.nodes.getD r2.2.2.toNat default).a,(r.2.2.nodes.getD r2.2.2.toNat default).b,(r.2.2.nodes.getD r2.2.2.toNat default).outs++[r4.2.2-1]⟩) Ab rfl) (A8 ?_)
        refine A5 (Aq A7 (A8 ?_))
       rotate_left 1
       focus
        refine A8 ?_
        refine Av A0 rfl rfl rfl rfl rfl rfl rfl rfl rfl rfl rfl (Ap ((r.2.2.nodes.getD r2.2.2.toNat default).outs++[r4.2.2-1])) (Ad rfl) Bj Ab (A8 ?_)
        refine A5 (A3 [1] A7 ⟨A8 ?_,trivial⟩)
        refine A5 (A3 [14] A7 ⟨A8 ?_,trivial⟩)
        (repeat refine Am ?_)
        refine A5 ?_
        refine Aj A0 false 15 rfl rfl rfl A7 rfl (A4 B1) ?_
        refine A3 [16] A7 ⟨A8 ?_,trivial⟩
        refine Al (j:=r2.2.2) A0 rfl rfl rfl rfl rfl rfl rfl rfl _ (Ax (j:=r2.2.2.toNat) (xs:=r.2.2.nodes) (e:=An.c) (x:=⟨(r.2.2.nodes.getD r2.2.2.toNat default).kind,(r.2.2.nodes.getD r2.2.2.toNat default).a,(r.2.2.nodes.getD r2.2.2.toNat default).b,(r.2.2.nodes.getD r2.2.2.toNat default).outs++[r4.2.2-1]⟩) Ab rfl) (A8 ?_)
        refine A5 (Aq A7 (A8 ?_))
    rotate_left 8
    focus
     refine A8 ?_
     refine A5 ?_
     refine A3 [1,6] A7 ⟨?_,?_,trivial⟩
     focus
      refine A8 ?_
      refine A5 (A3 [6] A7 ⟨A8 ?_,trivial⟩)
      (repeat refine Am ?_)
      refine A5 ?_
      refine Aj A0 false 7 rfl rfl rfl A7 rfl (A4 B1) ?_
      refine A3 [8] A7 ⟨A8 ?_,trivial⟩
      refine C7 A0 rfl rfl rfl rfl rfl rfl (c:=Ap (r.2.2.nodes.getD r2.2.2.toNat default).outs) rfl (fun v=>go A0 false ?_)
      conv=>whnf
      refine A5 (A3 [13] A7 ⟨A8 ?_,trivial⟩)
      refine Av A0 rfl rfl rfl rfl rfl rfl rfl rfl rfl rfl rfl (Ap ((r.2.2.nodes.getD r2.2.2.toNat default).outs++[r4.2.2-1])) (Ad rfl) Bj Ab (A8 ?_)
      refine A5 (A3 [14] A7 ⟨A8 ?_,trivial⟩)
      (repeat refine Am ?_)
      refine A5 ?_
      refine Aj A0 false 15 rfl rfl rfl A7 rfl (A4 B1) ?_
      refine A3 [16] A7 ⟨A8 ?_,trivial⟩
      refine Al (j:=r2.2.2) A0 rfl rfl rfl rfl rfl rfl rfl rfl _ (Ax (j:=r2.2.2.toNat) (xs:=r.2.2.nodes) (e:=An.c) (x:=⟨(r.2.2.nodes.getD r2.2.2.toNat default).kind,(r.2.2.nodes.getD r2.2.2.toNat default).a,(r.2.2.nodes.getD r2.2.2.toNat default).b,(r.2.2.nodes.getD r2.2.2.toNat default).outs++[r4.2.2-1]⟩) Ab rfl) (A8 ?_)
      refine A5 (Aq A7 (A8 ?_))
     rotate_left 1
     focus
      refine A8 ?_
      (repeat refine Am ?_)
      refine A5 ?_
      refine Aj A0 false 7 rfl rfl rfl A7 rfl (A4 B1) ?_
      refine A3 [1,8] A7 ⟨?_,?_,trivial⟩
      focus
       refine A8 ?_
       refine A5 (A3 [8] A7 ⟨A8 ?_,trivial⟩)
       refine C7 A0 rfl rfl rfl rfl rfl rfl (c:=Ap (r.2.2.nodes.getD r2.2.2.toNat default).outs) rfl (fun v=>go A0 false ?_)
       conv=>whnf
       refine A5 (A3 [13] A7 ⟨A8 ?_,trivial⟩)
       refine Av A0 rfl rfl rfl rfl rfl rfl rfl rfl rfl rfl rfl (Ap ((r.2.2.nodes.getD r2.2.2.toNat default).outs++[r4.2.2-1])) (Ad rfl) Bj Ab (A8 ?_)
       refine A5 (A3 [14] A7 ⟨A8 ?_,trivial⟩)
       (repeat refine Am ?_)
       refine A5 ?_
       refine Aj A0 false 15 rfl rfl rfl A7 rfl (A4 B1) ?_
       refine A3 [16] A7 ⟨A8 ?_,trivial⟩
       refine Al (j:=r2.2.2) A0 rfl rfl rfl rfl rfl rfl rfl rfl _ (Ax (j:=r2.2.2.toNat) (xs:=r.2.2.nodes) (e:=An.c) (x:=⟨(r.2.2.nodes.getD r2.2.2.toNat default).kind,(r.2.2.nodes.getD r2.2.2.toNat default).a,(r.2.2.nodes.getD r2.2.2.toNat default).b,(r.2.2.nodes.getD r2.2.2.toNat default).outs++[r4.2.2-1]⟩) Ab rfl) (A8 ?_)
       refine A5 (Aq A7 (A8 ?_))
      rotate_left 1
      focus
       refine A8 ?_
       refine C7 A0 rfl rfl rfl rfl rfl rfl (c:=Ap (r.2.2.nodes.getD r2.2.2.toNat default).outs) rfl (fun v=>go A0 false ?_)
       conv=>whnf
       refine A5 ?_
       refine A3 [1,13] A7 ⟨?_,?_,trivial⟩
       focus
        refine A8 ?_
        refine A5 (A3 [13] A7 ⟨A8 ?_,trivial⟩)
        refine Av A0 rfl rfl rfl rfl rfl rfl rfl rfl rfl rfl rfl (Ap ((r.2.2.nodes.getD r2.2.2.toNat default).outs++[r4.2.2-1])) (Ad rfl) Bj Ab (A8 ?_)
        refine A5 (A3 [14] A7 ⟨A8 ?_,trivial⟩)
        (repeat refine Am ?_)
        refine A5 ?_
        refine Aj A0 false 15 rfl rfl rfl A7 rfl (A4 B1) ?_
        refine A3 [16] A7 ⟨A8 ?_,trivial⟩
        refine Al (j:=r2.2.2) A0 rfl rfl rfl rfl rfl rfl rfl rfl _ (Ax (j:=r2.2.2.toNat) (xs:=r.2.2.nodes) (e:=An.c) (x:=⟨(r.2.2.nodes.getD r2.2.2.toNat default).kind,(r.2.2.nodes.getD r2.2.2.toNat default).a,(r.2.2.nodes.getD r2.2.2.toNat default).b,(r.2.2.nodes.getD r2.2.2.toNat default).outs++[r4.2.2-1]⟩) Ab rfl) (A8 ?_)
        refine A5 (Aq A7 (A8 ?_))
       rotate_left 1
       focus
        refine A8 ?_
        refine Av A0 rfl rfl rfl rfl rfl rfl rfl rfl rfl rfl rfl (Ap ((r.2.2.nodes.getD r2.2.2.toNat default).outs++[r4.2.2-1])) (Ad rfl) Bj Ab (A8 ?_)
        refine A5 (A3 [1] A7 ⟨A8 ?_,trivial⟩)
        refine A5 (A3 [14] A7 ⟨A8 ?_,trivial⟩)
        (repeat refine Am ?_)
        refine A5 ?_
        refine Aj A0 false 15 rfl rfl rfl A7 rfl (A4 B1) ?_
        refine A3 [16] A7 ⟨A8 ?_,trivial⟩
        refine Al (j:=r2.2.2) A0 rfl rfl rfl rfl rfl rfl rfl rfl _ (Ax (j:=r2.2.2.toNat) (xs:=r.2.2.nodes) (e:=An.c) (x:=⟨(r.2.2.nodes.getD r2.2.2.toNat default).kind,(r.2.2.nodes.getD r2.2.2.toNat default).a,(r.2.2.nodes.getD r2.2.2.toNat default).b,(r.2.2.nodes.getD r2.2.2.toNat default).outs++[r4.2.2-1]⟩) Ab rfl) (A8 ?_)
        refine A5 (Aq A7 (A8 ?_))
   rotate_left 15
   focus
    refine A8 ?_
    refine A5 ?_
    refine A3 [1,4] A7 ⟨?_,?_,trivial⟩
    focus
     refine A8 ?_
     refine A5 (A3 [4] A7 ⟨A8 ?_,trivial⟩)
     refine A5 (A3 [6] A7 ⟨A8 ?_,trivial⟩)
     (repeat refine Am ?_)
     refine A5 ?_
     refine Aj A0 false 7 rfl rfl rfl A7 rfl (A4 B1) ?_
     refine A3 [8] A7 ⟨A8 ?_,trivial⟩
     refine C7 A0 rfl rfl rfl rfl rfl rfl (c:=Ap (r.2.2.nodes.getD r2.2.2.toNat default).outs) rfl (fun v=>go A0 false ?_)
     conv=>whnf
     refine A5 (A3 [13] A7 ⟨A8 ?_,trivial⟩)
     refine Av A0 rfl rfl rfl rfl rfl rfl rfl rfl rfl rfl rfl (Ap ((r.2.2.nodes.getD r2.2.2.toNat default).outs++[r4.2.2-1])) (Ad rfl) Bj Ab (A8 ?_)
     refine A5 (A3 [14] A7 ⟨A8 ?_,trivial⟩)
     (repeat refine Am ?_)
     refine A5 ?_
     refine Aj A0 false 15 rfl rfl rfl A7 rfl (A4 B1) ?_
     refine A3 [16] A7 ⟨A8 ?_,trivial⟩
     refine Al (j:=r2.2.2) A0 rfl rfl rfl rfl rfl rfl rfl rfl _ (Ax (j:=r2.2.2.toNat) (xs:=r.2.2.nodes) (e:=An.c) (x:=⟨(r.2.2.nodes.getD r2.2.2.toNat default).kind,(r.2.2.nodes.getD r2.2.2.toNat default).a,(r.2.2.nodes.getD r2.2.2.toNat default).b,(r.2.2.nodes.getD r2.2.2.toNat default).outs++[r4.2.2-1]⟩) Ab rfl) (A8 ?_)
     refine A5 (Aq A7 (A8 ?_))
    rotate_left 1
    focus
     refine A8 ?_
     refine A5 ?_
     refine A3 [1,6] A7 ⟨?_,?_,trivial⟩
     focus
      refine A8 ?_
      refine A5 (A3 [6] A7 ⟨A8 ?_,trivial⟩)
      (repeat refine Am ?_)
      refine A5 ?_
      refine Aj A0 false 7 rfl rfl rfl A7 rfl (A4 B1) ?_
      refine A3 [8] A7 ⟨A8 ?_,trivial⟩
      refine C7 A0 rfl rfl rfl rfl rfl rfl (c:=Ap (r.2.2.nodes.getD r2.2.2.toNat default).outs) rfl (fun v=>go A0 false ?_)
      conv=>whnf
      refine A5 (A3 [13] A7 ⟨A8 ?_,trivial⟩)
      refine Av A0 rfl rfl rfl rfl rfl rfl rfl rfl rfl rfl rfl (Ap ((r.2.2.nodes.getD r2.2.2.toNat default).outs++[r4.2.2-1])) (Ad rfl) Bj Ab (A8 ?_)
      refine A5 (A3 [14] A7 ⟨A8 ?_,trivial⟩)
      (repeat refine Am ?_)
      refine A5 ?_
      refine Aj A0 false 15 rfl rfl rfl A7 rfl (A4 B1) ?_
      refine A3 [16] A7 ⟨A8 ?_,trivial⟩
      refine Al (j:=r2.2.2) A0 rfl rfl rfl rfl rfl rfl rfl rfl _ (Ax (j:=r2.2.2.toNat) (xs:=r.2.2.nodes) (e:=An.c) (x:=⟨(r.2.2.nodes.getD r2.2.2.toNat default).kind,(r.2.2.nodes.getD r2.2.2.toNat default).a,(r.2.2.nodes.getD r2.2.2.toNat default).b,(r.2.2.nodes.getD r2.2.2.toNat default).outs++[r4.2.2-1]⟩) Ab rfl) (A8 ?_)
      refine A5 (Aq A7 (A8 ?_))
     rotate_left 1
     focus
      refine A8 ?_
      (repeat refine Am ?_)
      refine A5 ?_
      refine Aj A0 false 7 rfl rfl rfl A7 rfl (A4 B1) ?_
      refine A3 [1,8] A7 ⟨?_,?_,trivial⟩
      focus
       refine A8 ?_
       refine A5 (A3 [8] A7 ⟨A8 ?_,trivial⟩)
       refine C7 A0 rfl rfl rfl rfl rfl rfl (c:=Ap (r.2.2.nodes.getD r2.2.2.toNat default).outs) rfl (fun v=>go A0 false ?_)
       conv=>whnf
       refine A5 (A3 [13] A7 ⟨A8 ?_,trivial⟩)
       refine Av A0 rfl rfl rfl rfl rfl rfl rfl rfl rfl rfl rfl (Ap ((r.2.2.nodes.getD r2.2.2.toNat default).outs++[r4.2.2-1])) (Ad rfl) Bj Ab (A8 ?_)
       refine A5 (A3 [14] A7 ⟨A8 ?_,trivial⟩)
       (repeat refine Am ?_)
       refine A5 ?_
       refine Aj A0 false 15 rfl rfl rfl A7 rfl (A4 B1) ?_
       refine A3 [16] A7 ⟨A8 ?_,trivial⟩
       refine Al (j:=r2.2.2) A0 rfl rfl rfl rfl rfl rfl rfl rfl _ (Ax (j:=r2.2.2.toNat) (xs:=r.2.2.nodes) (e:=An.c) (x:=⟨(r.2.2.nodes.getD r2.2.2.toNat default).kind,(r.2.2.nodes.getD r2.2.2.toNat default).a,(r.2.2.nodes.getD r2.2.2.toNat default).b,(r.2.2.nodes.getD r2.2.2.toNat default).outs++[r4.2.2-1]⟩) Ab rfl) (A8 ?_)
       refine A5 (Aq A7 (A8 ?_))
      rotate_left 1
      focus
       refine A8 ?_
       refine C7 A0 rfl rfl rfl rfl rfl rfl (c:=Ap (r.2.2.nodes.getD r2.2.2.toNat default).outs) rfl (fun v=>go A0 false ?_)
       conv=>whnf
       refine A5 ?_
       refine A3 [1,13] A7 ⟨?_,?_,trivial⟩
       focus
        refine A8 ?_
        refine A5 (A3 [13] A7 ⟨A8 ?_,trivial⟩)
        refine Av A0 rfl rfl rfl rfl rfl rfl rfl rfl rfl rfl rfl (Ap ((r.2.2.nodes.getD r2.2.2.toNat default).outs++[r4.2.2-1])) (Ad rfl) Bj Ab (A8 ?_)
        refine A5 (A3 [14] A7 ⟨A8 ?_,trivial⟩)
        (repeat refine Am ?_)
        refine A5 ?_
        refine Aj A0 false 15 rfl rfl rfl A7 rfl (A4 B1) ?_
        refine A3 [16] A7 ⟨A8 ?_,trivial⟩
        refine Al (j:=r2.2.2) A0 rfl rfl rfl rfl rfl rfl rfl rfl _ (Ax (j:=r2.2.2.toNat) (xs:=r.2.2.nodes) (e:=An.c) (x:=⟨(r.2.2.nodes.getD r2.2.2.toNat default).kind,(r.2.2.nodes.getD r2.2.2.toNat default).a,(r.2.2.nodes.getD r2.2.2.toNat default).b,(r.2.2.nodes.getD r2.2.2.toNat default).outs++[r4.2.2-1]⟩) Ab rfl) (A8 ?_)
        refine A5 (Aq A7 (A8 ?_))
       rotate_left 1
       focus
        refine A8 ?_
        refine Av A0 rfl rfl rfl rfl rfl rfl rfl rfl rfl rfl rfl (Ap ((r.2.2.nodes.getD r2.2.2.toNat default).outs++[r4.2.2-1])) (Ad rfl) Bj Ab (A8 ?_)
        refine A5 (A3 [1] A7 ⟨A8 ?_,trivial⟩)
        refine A5 (A3 [14] A7 ⟨A8 ?_,trivial⟩)
        (repeat refine Am ?_)
        refine A5 ?_
        refine Aj A0 false 15 rfl rfl rfl A7 rfl (A4 B1) ?_
        refine A3 [16] A7 ⟨A8 ?_,trivial⟩
        refine Al (j:=r2.2.2) A0 rfl rfl rfl rfl rfl rfl rfl rfl _ (Ax (j:=r2.2.2.toNat) (xs:=r.2.2.nodes) (e:=An.c) (x:=⟨(r.2.2.nodes.getD r2.2.2.toNat default).kind,(r.2.2.nodes.getD r2.2.2.toNat default).a,(r.2.2.nodes.getD r2.2.2.toNat default).b,(r.2.2.nodes.getD r2.2.2.toNat default).outs++[r4.2.2-1]⟩) Ab rfl) (A8 ?_)
        refine A5 (Aq A7 (A8 ?_))
  all_goals
   have h4:=hr4.2.2.2 Aw
   have h5:=hr4.2.1
   exact Bm A0 (r4.1,r4.2.1,⟨r.2.2.nodes.set r2.2.2.toNat ⟨(r.2.2.nodes.getD r2.2.2.toNat default).kind,(r.2.2.nodes.getD r2.2.2.toNat default).a,(r.2.2.nodes.getD r2.2.2.toNat default).b,(r.2.2.nodes.getD r2.2.2.toNat default).outs++[r4.2.2-1]⟩,r.2.2.workers,r.2.2.cap⟩) ⟨hr4.1,Ih (Zx hm ((A4z (m:=10) ⟨hx.1,hx2⟩ Aw (Dk Ab Ab)).m Aw)) (by rw [List.length_set];omega) (Dk Ab Ab) (Dk Ab Ab)⟩ rfl rfl rfl rfl At
 repeat refine B7 ?_
 refine ⟨fun c4=>?_,fun c4=>?_⟩<;>conv=>whnf
 ·repeat refine B7 ?_
  refine Bv A0 false [6,9] (fun j:JGr=>[]) (fun j=>[⟨0,[.c (.val d.v),.c (vi j.i),.c (vi j.h)]⟩,⟨3,[.own 2,.c (vi r.2.2.workers),.c (vi r.2.2.cap)]⟩,⟨1,[.c (.val (.slice none 0 0)),.c (vi 0),.c (vi 0)]⟩]) (fun j=>[⟨2,Br j.xs⟩]) (fun j=>(0≤j.i∧j.i≤d.n)∧Vy j.xs∧j.xs.length≤9) (fun j=>9-j.xs.length) (⟨r3.1,r3.2.1,r.2.2.nodes⟩) (⟨hr3.1,hm,Nat.le_trans hl.2 Aw⟩) trivial Cf ⟨F2,trivial⟩ Cj A7 (fun j hj=>?_)
  conv=>whnf
  obtain ⟨hi2,hm2,hl2⟩:=hj
  refine Fk rfl ?_
  refine Aj A0 false 0 rfl rfl rfl A7 rfl (A4 B1) ?_
  refine Aj A0 false 3 rfl rfl rfl A7 rfl (A4 B1) ?_
  refine A3 [1,4] A7 ⟨?_,?_,trivial⟩
  focus
   refine A8 ?_
   refine A5 ?_
   refine A3 [2,4] A7 ⟨?_,?_,trivial⟩
   focus
    refine A8 ?_
    refine A5 (A3 [4] A7 ⟨A8 ?_,trivial⟩)
    refine Ai (Ah d j.i j.h 2 hi2 Aw) hH hp rfl At rfl rfl (fun r9 hr9=>go A0 false ?_)
    conv=>whnf
    refine A5 ?_
    refine Aj A0 false 5 rfl rfl rfl A7 rfl (A4 B1) ?_
    refine Aj A0 false 6 rfl rfl rfl A7 rfl (A4 B1) ?_
    refine Aq A7 (A8 ?_)
   rotate_left 1
   focus
    refine A8 ?_
    refine Ai (Ah d j.i j.h 2 hi2 Aw) hH hp rfl At rfl rfl (fun r9 hr9=>go A0 false ?_)
    conv=>whnf
    refine A5 ?_
    refine Aj A0 false 5 rfl rfl rfl A7 rfl (A4 B1) ?_
    refine A3 [2] A7 ⟨A8 ?_,trivial⟩
    refine A5 ?_
    refine Aj A0 false 6 rfl rfl rfl A7 rfl (A4 B1) ?_
    refine Aq A7 (A8 ?_)
  rotate_left 2
  focus
   refine A8 ?_
   refine Ai (Ah d j.i j.h 2 hi2 Aw) hH hp rfl At rfl rfl (fun r9 hr9=>go A0 false ?_)
   conv=>whnf
   refine A5 ?_
   refine Aj A0 false 5 rfl rfl rfl A7 rfl (A4 B1) ?_
   refine A3 [1] A7 ⟨A8 ?_,trivial⟩
   refine A5 (A3 [2] A7 ⟨A8 ?_,trivial⟩)
   refine A5 ?_
   refine Aj A0 false 6 rfl rfl rfl A7 rfl (A4 B1) ?_
   refine Aq A7 (A8 ?_)
  all_goals
   have hn9:=hr9.2.2.2 Aw
   have hn8:=hr9.2.1
   (repeat refine Am ?_)
   refine Es (fun hlt=>?_) fun hlt=>?_<;>conv=>whnf
   ·refine Dv 4 (Br [⟨8,0,0,[]⟩]) rfl (Gq rfl Zs) ?_
    refine Av A0 rfl rfl rfl rfl rfl rfl rfl rfl rfl rfl rfl (Br (j.xs++[⟨8,0,0,[]⟩])) (Ad (xs:=j.xs) (x:=⟨8,0,0,[]⟩) (e:=An.c) rfl) Bj (by simp only [List.length_cons,List.length_nil];omega) (A8 ?_)
    refine B6 [(2,5)] (⟨r9.1,r9.2.1,j.xs++[⟨8,0,0,[]⟩]⟩) (⟨hr9.1,A5t hm2 B5t,by rw [List.length_append];show _+1≤9;omega⟩) (by show 9-(j.xs++[(⟨8,0,0,[]⟩:An)]).length<_;rw [List.length_append];show 9-(_+1)<_;omega) trivial ⟨rfl,trivial⟩ Cf A7 Cj A7
   exact Bm A0 (r9.1,r9.2.1,⟨j.xs,r.2.2.workers,r.2.2.cap⟩) ⟨hr9.1,Ih hm2 Ab (Dk Ab Ab) (Dk Ab Ab)⟩ rfl rfl rfl rfl At
 repeat refine B7 ?_
 refine ⟨fun c5=>?_,fun c5=>?_⟩<;>conv=>whnf
 ·repeat refine B7 ?_
  refine B0p A0 rfl rfl rfl rfl rfl rfl rfl rfl rfl ⟨hk0,by omega⟩ Ab _ rfl (A8 ?_)
  refine L7 4 (Br (r.2.2.nodes.take r2.2.2.toNat)) rfl (A5y Ab) ?_
  exact Bm A0 (r3.1,r3.2.1,⟨r.2.2.nodes.take r2.2.2.toNat,r.2.2.workers,r.2.2.cap⟩) ⟨hr3.1,Ih (A5u _ hm) (by rw [List.length_take];omega) (Dk Ab Ab) (Dk Ab Ab)⟩ rfl rfl rfl rfl At
 repeat refine B7 ?_
 exact Bm A0 (r3.1,r3.2.1,r.2.2) ⟨hr3.1,Ih (ns:=r.2.2.nodes) (a:=r.2.2.workers) (b:=r.2.2.cap) hm Ab (Dk Ab Ab) (Dk Ab Ab)⟩ rfl rfl rfl rfl At
end Go.Proofs.YtdendlkeiaccpaaGreat
