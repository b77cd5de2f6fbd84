/- Part 24 of the proof that each of the laws FnSpread returns true for every input. No conditions. -/
import Derived.Test.YtdendlkeiaccpaaGreatQ4
import Derived.Test.YtdendlkeiaccpaaGreatQ23
import Derived.Test.YtdendlkeiaccpaaGreatQ12

set_option linter.unusedSimpArgs false
set_option linter.unusedVariables false
set_option maxRecDepth 100000
namespace Go.Proofs.YtdendlkeiaccpaaGreat
open Go.Sx
def A7f (x:Bw):Prop:=x.ok∧x.outs.length≤20
def A2v (xs:List Bw):Prop:=∀x∈xs,A7f x
theorem Md.m {m:Nat}{x:Bw}(h:Md m x)(hm:m≤20):A7f x:=⟨h.1,Nat.le_trans h.2 hm⟩
theorem A2e {x:Bw}(h:Wg x):x.ok∧x.outs.length≤10:=by
 obtain ⟨h1,h2,h3,h4,h5⟩:=h;exact ⟨⟨Et Ad Ad,Et Ad Ad,Et Ad Ad,by rw [maxLen];omega,fun n hn=>by have:=h5 n hn;exact Et Ad Ad⟩,h4⟩
theorem C0w {xs:List Bw}(h:A4y xs):A2v xs:=fun x hx=>⟨(A2e (h x hx)).1,Nat.le_trans (A2e (h x hx)).2 B5⟩
theorem B4g {x:Bw}{xs:List Bw}(hs:A2v xs)(h:A7f x):A2v (xs++[x]):=fun y hy=>by
 rcases List.mem_append.1 hy with hy|hy
 ·exact hs y hy
 rw [List.mem_singleton.1 hy];exact h
theorem A7k {x:Bw}{xs:List Bw}{j:Nat}(hs:A2v xs)(h:A7f x):A2v (xs.set j x):=fun y hy=>by
 rcases List.mem_or_eq_of_mem_set hy with hy|rfl
 ·exact hs y hy
 exact h
theorem B4h {xs:List Bw}(k:Nat)(hs:A2v xs):A2v (xs.take k):=fun y hy=>hs y (List.mem_of_mem_take hy)
def A41 (g:Ah):Prop:=g.ok∧g.w≤1000
theorem B33:∀{xs:List Bw},A2v xs→(xs.map Bw.w).sum≤20 * xs.length
 | [],_=>Nat.le_refl _
 |x::r,h=>by
  have h1:x.w≤20:=(h x (List.mem_cons_self ..)).2;have h2:=B33 fun y hy=>h y (List.mem_cons_of_mem _ hy);rw [List.map_cons,List.sum_cons,List.length_cons];omega
theorem L9 {ns:List Bw}{a b:Int}(h:A2v ns)(hl:ns.length≤10)(ha:Gk .i64 a)(hb:Gk .i64 b):A41 ⟨ns,a,b⟩:=by
 refine ⟨⟨⟨by show ns.length≤maxLen;rw [maxLen];omega,fun x hx=>(h x hx).1⟩,ha,hb⟩,?_⟩
 have:=B33 h
 show ns.length+(ns.map Bw.w).sum≤1000
 omega
theorem C0p {α:Type} [Inhabited α] {es:Nat}{e:α→List Ai}{xs:List α}{j off:Nat}{v:Value}{x:α}{cs:List Ai}(hj:j<xs.length)(h:Ds (Ds (e (xs.getD j default)) off [.val v]) off cs=e x):
  Qj xs.length es (fun i=>if i=j then Ds (e (xs.getD i default)) off [.val v] else e (xs.getD i default)) j off cs (Kv es e (xs.set j x)):=by
 refine ⟨_,by rw [Kv,List.length_set],fun i hi hne=>?_,?_⟩
 ·simp only [if_neg hne,Go.Sx.getD_set_ne _ _ _ _ _ hne]
 simp only [if_true,h,Go.Sx.getD_set_self _ _ _ _ hj]
theorem B4q {α:Type} [Inhabited α] {es:Nat}{e:α→List Ai}{xs:List α}{m:Nat}(hm:m≤xs.length):Ii (.sl m es fun i=>e (xs.getD i default)) (Kv es e (xs.take m)):=by
 have hl:(xs.take m).length=m:=by rw [List.length_take];omega
 refine ⟨hl,rfl,fun i hi=>?_⟩
 have:(xs.take m).getD i default=xs.getD i default:=by
  simp [List.getD,hi]
 show Gb _ (e ((xs.take m).getD i default))
 rw [this];exact Gb.rfl' _
theorem C5b:A7f ⟨8,0,0,[]⟩:=by
 refine ⟨⟨Et B5 B5,Et B5 B5,Et B5 B5,Nat.zero_le _,fun n hn=>by cases hn⟩,Nat.zero_le _⟩
structure JGr where
 i:Int
 h:Int
 xs:List Bw
set_option maxHeartbeats 4000000 in
theorem Xo (d:Ey)(i h:Int)(hi:0≤i∧i≤d.n):E3 Tryz.prog HT 55 d.pins (d.cur i h) [] (fun r:Int×Int×Ah=>(0≤r.1∧r.1≤d.n)∧A41 r.2.2) (fun r=>d.cur r.1 r.2.1) (fun r=>[.agg r.2.2.c]):=by
 refine Em A0 false Tryz.func55 rfl B5 fun B b hH hp=>?_;conv=>whnf
 refine Ay (B4v d i h hi) hH hp rfl B0 rfl rfl (fun r hr=>go A0 false ?_);conv=>whnf
 obtain ⟨hr1,_,hn,hl,hw,hc⟩:=hr;have hm:=C0w hn;refine Ay (Au d r.1 r.2.1 r.2.2.nodes.length hr1 Ad) hH hp rfl B0 rfl rfl (fun r2 hr2=>go A0 false ?_);conv=>whnf
 have hk:=hr2.2.2.2 Ad;have hk0:=hr2.2.1;refine Ay (Au d r2.1 r2.2.1 12 hr2.1 B5) hH hp rfl B0 rfl rfl (fun r3 hr3=>go A0 false ?_);conv=>whnf
 refine ⟨fun c0=>?_,fun c0=>?_⟩<;>conv=>whnf
 ·repeat refine B2 ?_
  refine Gs rfl ?_;refine Bt A0 false 0 rfl rfl rfl A6 rfl (A4 Br) ?_;refine Bt A0 false 2 rfl rfl rfl A6 rfl (A4 Br) ?_;refine Bt A0 false 3 rfl rfl rfl A6 rfl (A4 Br) ?_;refine A5 [1,4] A6 ⟨?_,?_,trivial⟩
  focus
   refine A7 ?_;refine Ag (A5 [4] A6 ⟨A7 ?_,trivial⟩);refine Ay (A0c d r3.1 r3.2.1 hr3.1) hH hp rfl B0 rfl rfl (fun r4 hr4=>go A0 false ?_)
  rotate_left 1
  focus
   refine A7 ?_;refine Ay (A0c d r3.1 r3.2.1 hr3.1) hH hp rfl B0 rfl rfl (fun r4 hr4=>go A0 false ?_);conv=>whnf
   refine Ag ?_;refine A5 [1] A6 ⟨?_,trivial⟩;refine go A0 false ?_
  all_goals
   conv=>whnf
   refine Ag (A5 [5] A6 ⟨A7 ?_,trivial⟩);(repeat refine Ap ?_);refine Ag (A5 [6] A6 ⟨A7 ?_,trivial⟩);refine Bv (j:=r2.2.2) A0 rfl rfl rfl rfl rfl rfl rfl rfl _ (Ck (j:=r2.2.2.toNat) (xs:=r.2.2.nodes) (e:=Bw.c) (x:=r4.2.2) Ad rfl) (A7 ?_);refine Ag (Gr A6 (A7 ?_))
  all_goals exact C3 A0 (r4.1,r4.2.1,⟨r.2.2.nodes.set r2.2.2.toNat r4.2.2,r.2.2.workers,r.2.2.cap⟩) ⟨hr4.1,L9 (A7k hm (hr4.2.m B5)) (by rw [List.length_set];omega) (Et Ad Ad) (Et Ad Ad)⟩ rfl rfl rfl rfl B0
 repeat refine B2 ?_
 refine ⟨fun c1=>?_,fun c1=>?_⟩<;>conv=>whnf
 ·repeat refine B2 ?_
  refine Fx 4 (Bh [0,4,5,-1]) rfl (Bu rfl C2) ?_;refine Ay (Dt d r3.1 r3.2.1 [0,4,5,-1] hr3.1 B5) hH hp rfl B0 rfl rfl (fun r4 hr4=>go A0 false ?_);conv=>whnf
  exact C3 A0 (r4.1,r4.2.1,⟨r.2.2.nodes,[0,4,5,-1].getD r4.2.2 0,r.2.2.cap⟩) ⟨hr4.1,L9 hm Ad (Ha _ _ (by intro x hx;simp only [List.mem_cons,List.not_mem_nil,or_false] at hx;show _∧_;omega)) (Et Ad Ad)⟩ rfl rfl rfl rfl B0
 repeat refine B2 ?_
 refine ⟨fun c2=>?_,fun c2=>?_⟩<;>conv=>whnf
 ·repeat refine B2 ?_
  refine Fx 4 (Bh [0,4,5,-1]) rfl (Bu rfl C2) ?_;refine Ay (Dt d r3.1 r3.2.1 [0,4,5,-1] hr3.1 B5) hH hp rfl B0 rfl rfl (fun r4 hr4=>go A0 false ?_);conv=>whnf
  exact C3 A0 (r4.1,r4.2.1,⟨r.2.2.nodes,r.2.2.workers,[0,4,5,-1].getD r4.2.2 0⟩) ⟨hr4.1,L9 hm Ad (Et Ad Ad) (Ha _ _ (by intro x hx;simp only [List.mem_cons,List.not_mem_nil,or_false] at hx;show _∧_;omega))⟩ rfl rfl rfl rfl B0
 repeat refine B2 ?_
 refine ⟨fun c3=>?_,fun c3=>?_⟩<;>conv=>whnf
 ·repeat refine B2 ?_
  have hx:=hm _ (At (d:=default) (show r2.2.2.toNat<r.2.2.nodes.length by omega))
  have hx2:=(A2e (hn _ (At (d:=default) (show r2.2.2.toNat<r.2.2.nodes.length by omega)))).2
  refine Gs rfl ?_;refine Bt A0 false 0 rfl rfl rfl A6 rfl (A4 Br) ?_;refine Bt A0 false 2 rfl rfl rfl A6 rfl (A4 Br) ?_;refine Bt A0 false 3 rfl rfl rfl A6 rfl (A4 Br) ?_;refine Bt A0 false 5 rfl rfl rfl A6 rfl (A4 Br) ?_;refine Bt A0 false 9 rfl rfl rfl A6 rfl (A4 Br) ?_;refine A5 [1,4,10] A6 ⟨?_,?_,?_,trivial⟩
  focus
   refine A7 ?_;refine Ag ?_;refine A5 [4,10] A6 ⟨?_,?_,trivial⟩
   focus
    refine A7 ?_;refine Ag ?_;refine A5 [6,10] A6 ⟨?_,?_,trivial⟩
    focus
     refine A7 ?_;(repeat refine Ap ?_);refine Ag ?_;refine Bt A0 false 7 rfl rfl rfl A6 rfl (A4 Br) ?_;refine A5 [8,10] A6 ⟨?_,?_,trivial⟩
     focus
      refine A7 ?_;refine Cu A0 rfl rfl rfl rfl rfl rfl (c:=Bh (r.2.2.nodes.getD r2.2.2.toNat default).outs) rfl (fun v=>go A0 false ?_);conv=>whnf
      refine Ag (A5 [10] A6 ⟨A7 ?_,trivial⟩);refine Ay (Au d r3.1 r3.2.1 9 hr3.1 B5) hH hp rfl B0 rfl rfl (fun r4 hr4=>go A0 false ?_);conv=>whnf
      refine Ag ?_;refine Bt A0 false 11 rfl rfl rfl A6 rfl (A4 Br) ?_;refine A5 [12] A6 ⟨?_,trivial⟩;refine go A0 false ?_
     rotate_left 1
     focus
      refine A7 ?_;refine Ay (Au d r3.1 r3.2.1 9 hr3.1 B5) hH hp rfl B0 rfl rfl (fun r4 hr4=>go A0 false ?_);conv=>whnf
      refine Ag ?_;refine Bt A0 false 11 rfl rfl rfl A6 rfl (A4 Br) ?_;refine A5 [8,12] A6 ⟨?_,?_,trivial⟩
      focus
       refine A7 ?_;refine Cu A0 rfl rfl rfl rfl rfl rfl (c:=Bh (r.2.2.nodes.getD r2.2.2.toNat default).outs) rfl (fun v=>go A0 false ?_);conv=>whnf
       refine Ag ?_;refine A5 [12] A6 ⟨?_,trivial⟩;refine go A0 false ?_
      rotate_left 1
      focus
       refine A7 ?_;refine Ag (A5 [8] A6 ⟨A7 ?_,trivial⟩);refine Cu A0 rfl rfl rfl rfl rfl rfl (c:=Bh (r.2.2.nodes.getD r2.2.2.toNat default).outs) rfl (fun v=>go A0 false ?_)
    rotate_left 3
    focus
     refine A7 ?_;refine Ay (Au d r3.1 r3.2.1 9 hr3.1 B5) hH hp rfl B0 rfl rfl (fun r4 hr4=>go A0 false ?_);conv=>whnf
     refine Ag ?_;refine Bt A0 false 11 rfl rfl rfl A6 rfl (A4 Br) ?_;refine A5 [6,12] A6 ⟨?_,?_,trivial⟩
     focus
      refine A7 ?_;(repeat refine Ap ?_);refine Ag ?_;refine Bt A0 false 7 rfl rfl rfl A6 rfl (A4 Br) ?_;refine A5 [8,12] A6 ⟨?_,?_,trivial⟩
      focus
       refine A7 ?_;refine Cu A0 rfl rfl rfl rfl rfl rfl (c:=Bh (r.2.2.nodes.getD r2.2.2.toNat default).outs) rfl (fun v=>go A0 false ?_);conv=>whnf
       refine Ag ?_;refine A5 [12] A6 ⟨?_,trivial⟩;refine go A0 false ?_
      rotate_left 1
      focus
       refine A7 ?_;refine Ag (A5 [8] A6 ⟨A7 ?_,trivial⟩);refine Cu A0 rfl rfl rfl rfl rfl rfl (c:=Bh (r.2.2.nodes.getD r2.2.2.toNat default).outs) rfl (fun v=>go A0 false ?_)
     rotate_left 2
     focus
      refine A7 ?_;refine Ag (A5 [6] A6 ⟨A7 ?_,trivial⟩);(repeat refine Ap ?_);refine Ag ?_;refine Bt A0 false 7 rfl rfl rfl A6 rfl (A4 Br) ?_;refine A5 [8] A6 ⟨A7 ?_,trivial⟩;refine Cu A0 rfl rfl rfl rfl rfl rfl (c:=Bh (r.2.2.nodes.getD r2.2.2.toNat default).outs) rfl (fun v=>go A0 false ?_)
   rotate_left 6
   focus
    refine A7 ?_;refine Ay (Au d r3.1 r3.2.1 9 hr3.1 B5) hH hp rfl B0 rfl rfl (fun r4 hr4=>go A0 false ?_);conv=>whnf
    refine Ag ?_;refine Bt A0 false 11 rfl rfl rfl A6 rfl (A4 Br) ?_;refine A5 [4,12] A6 ⟨?_,?_,trivial⟩
    focus
     refine A7 ?_;refine Ag ?_;refine A5 [6,12] A6 ⟨?_,?_,trivial⟩
     focus
      refine A7 ?_;(repeat refine Ap ?_);refine Ag ?_;refine Bt A0 false 7 rfl rfl rfl A6 rfl (A4 Br) ?_;refine A5 [8,12] A6 ⟨?_,?_,trivial⟩
      focus
       refine A7 ?_;refine Cu A0 rfl rfl rfl rfl rfl rfl (c:=Bh (r.2.2.nodes.getD r2.2.2.toNat default).outs) rfl (fun v=>go A0 false ?_);conv=>whnf
       refine Ag ?_;refine A5 [12] A6 ⟨?_,trivial⟩;refine go A0 false ?_
      rotate_left 1
      focus
       refine A7 ?_;refine Ag (A5 [8] A6 ⟨A7 ?_,trivial⟩);refine Cu A0 rfl rfl rfl rfl rfl rfl (c:=Bh (r.2.2.nodes.getD r2.2.2.toNat default).outs) rfl (fun v=>go A0 false ?_)
     rotate_left 2
     focus
      refine A7 ?_;refine Ag (A5 [6] A6 ⟨A7 ?_,trivial⟩);(repeat refine Ap ?_);refine Ag ?_;refine Bt A0 false 7 rfl rfl rfl A6 rfl (A4 Br) ?_;refine A5 [8] A6 ⟨A7 ?_,trivial⟩;refine Cu A0 rfl rfl rfl rfl rfl rfl (c:=Bh (r.2.2.nodes.getD r2.2.2.toNat default).outs) rfl (fun v=>go A0 false ?_)
    rotate_left 3
    focus
     refine A7 ?_;refine Ag (A5 [4] A6 ⟨A7 ?_,trivial⟩);refine Ag (A5 [6] A6 ⟨A7 ?_,trivial⟩);(repeat refine Ap ?_);refine Ag ?_;refine Bt A0 false 7 rfl rfl rfl A6 rfl (A4 Br) ?_;refine A5 [8] A6 ⟨A7 ?_,trivial⟩;refine Cu A0 rfl rfl rfl rfl rfl rfl (c:=Bh (r.2.2.nodes.getD r2.2.2.toNat default).outs) rfl (fun v=>go A0 false ?_)
   all_goals
    conv=>whnf
    refine Ag (A5 [13] A6 ⟨A7 ?_,trivial⟩);refine Bj A0 rfl rfl rfl rfl rfl rfl rfl rfl rfl rfl rfl (Bh ((r.2.2.nodes.getD r2.2.2.toNat default).outs++[r4.2.2-1])) (An rfl) C6 Ad (G3 ?_)
  rotate_left 10
  focus
   refine A7 ?_;refine Ag ?_;refine A5 [1,6,10] A6 ⟨?_,?_,?_,trivial⟩
   focus
    refine A7 ?_;refine Ag ?_;refine A5 [6,10] A6 ⟨?_,?_,trivial⟩
    focus
     refine A7 ?_;(repeat refine Ap ?_);refine Ag ?_;refine Bt A0 false 7 rfl rfl rfl A6 rfl (A4 Br) ?_;refine A5 [8,10] A6 ⟨?_,?_,trivial⟩
     focus
      refine A7 ?_;refine Cu A0 rfl rfl rfl rfl rfl rfl (c:=Bh (r.2.2.nodes.getD r2.2.2.toNat default).outs) rfl (fun v=>go A0 false ?_);conv=>whnf
      refine Ag (A5 [10] A6 ⟨A7 ?_,trivial⟩);refine Ay (Au d r3.1 r3.2.1 9 hr3.1 B5) hH hp rfl B0 rfl rfl (fun r4 hr4=>go A0 false ?_);conv=>whnf
      refine Ag ?_;refine Bt A0 false 11 rfl rfl rfl A6 rfl (A4 Br) ?_;refine A5 [12] A6 ⟨?_,trivial⟩;refine go A0 false ?_
     rotate_left 1
     focus
      refine A7 ?_;refine Ay (Au d r3.1 r3.2.1 9 hr3.1 B5) hH hp rfl B0 rfl rfl (fun r4 hr4=>go A0 false ?_);conv=>whnf
      refine Ag ?_;refine Bt A0 false 11 rfl rfl rfl A6 rfl (A4 Br) ?_;refine A5 [8,12] A6 ⟨?_,?_,trivial⟩
      focus
       refine A7 ?_;refine Cu A0 rfl rfl rfl rfl rfl rfl (c:=Bh (r.2.2.nodes.getD r2.2.2.toNat default).outs) rfl (fun v=>go A0 false ?_);conv=>whnf
       refine Ag ?_;refine A5 [12] A6 ⟨?_,trivial⟩;refine go A0 false ?_
      rotate_left 1
      focus
       refine A7 ?_;refine Ag (A5 [8] A6 ⟨A7 ?_,trivial⟩);refine Cu A0 rfl rfl rfl rfl rfl rfl (c:=Bh (r.2.2.nodes.getD r2.2.2.toNat default).outs) rfl (fun v=>go A0 false ?_)
    rotate_left 3
    focus
     refine A7 ?_;refine Ay (Au d r3.1 r3.2.1 9 hr3.1 B5) hH hp rfl B0 rfl rfl (fun r4 hr4=>go A0 false ?_);conv=>whnf
     refine Ag ?_;refine Bt A0 false 11 rfl rfl rfl A6 rfl (A4 Br) ?_;refine A5 [6,12] A6 ⟨?_,?_,trivial⟩
     focus
      refine A7 ?_;(repeat refine Ap ?_);refine Ag ?_;refine Bt A0 false 7 rfl rfl rfl A6 rfl (A4 Br) ?_;refine A5 [8,12] A6 ⟨?_,?_,trivial⟩
      focus
       refine A7 ?_;refine Cu A0 rfl rfl rfl rfl rfl rfl (c:=Bh (r.2.2.nodes.getD r2.2.2.toNat default).outs) rfl (fun v=>go A0 false ?_);conv=>whnf
       refine Ag ?_;refine A5 [12] A6 ⟨?_,trivial⟩;refine go A0 false ?_
      rotate_left 1
      focus
       refine A7 ?_;refine Ag (A5 [8] A6 ⟨A7 ?_,trivial⟩);refine Cu A0 rfl rfl rfl rfl rfl rfl (c:=Bh (r.2.2.nodes.getD r2.2.2.toNat default).outs) rfl (fun v=>go A0 false ?_)
     rotate_left 2
     focus
      refine A7 ?_;refine Ag (A5 [6] A6 ⟨A7 ?_,trivial⟩);(repeat refine Ap ?_);refine Ag ?_;refine Bt A0 false 7 rfl rfl rfl A6 rfl (A4 Br) ?_;refine A5 [8] A6 ⟨A7 ?_,trivial⟩;refine Cu A0 rfl rfl rfl rfl rfl rfl (c:=Bh (r.2.2.nodes.getD r2.2.2.toNat default).outs) rfl (fun v=>go A0 false ?_)
    all_goals
     conv=>whnf
     refine Ag (A5 [13] A6 ⟨A7 ?_,trivial⟩);refine Bj A0 rfl rfl rfl rfl rfl rfl rfl rfl rfl rfl rfl (Bh ((r.2.2.nodes.getD r2.2.2.toNat default).outs++[r4.2.2-1])) (An rfl) C6 Ad (G3 ?_)
   rotate_left 6
   focus
    refine A7 ?_;(repeat refine Ap ?_);refine Ag ?_;refine Bt A0 false 7 rfl rfl rfl A6 rfl (A4 Br) ?_;refine A5 [1,8,10] A6 ⟨?_,?_,?_,trivial⟩
    focus
     refine A7 ?_;refine Ag ?_;refine A5 [8,10] A6 ⟨?_,?_,trivial⟩
     focus
      refine A7 ?_;refine Cu A0 rfl rfl rfl rfl rfl rfl (c:=Bh (r.2.2.nodes.getD r2.2.2.toNat default).outs) rfl (fun v=>go A0 false ?_);conv=>whnf
      refine Ag (A5 [10] A6 ⟨A7 ?_,trivial⟩);refine Ay (Au d r3.1 r3.2.1 9 hr3.1 B5) hH hp rfl B0 rfl rfl (fun r4 hr4=>go A0 false ?_);conv=>whnf
      refine Ag ?_;refine Bt A0 false 11 rfl rfl rfl A6 rfl (A4 Br) ?_;refine A5 [12] A6 ⟨?_,trivial⟩;refine go A0 false ?_
     rotate_left 1
     focus
      refine A7 ?_;refine Ay (Au d r3.1 r3.2.1 9 hr3.1 B5) hH hp rfl B0 rfl rfl (fun r4 hr4=>go A0 false ?_);conv=>whnf
      refine Ag ?_;refine Bt A0 false 11 rfl rfl rfl A6 rfl (A4 Br) ?_;refine A5 [8,12] A6 ⟨?_,?_,trivial⟩
      focus
       refine A7 ?_;refine Cu A0 rfl rfl rfl rfl rfl rfl (c:=Bh (r.2.2.nodes.getD r2.2.2.toNat default).outs) rfl (fun v=>go A0 false ?_);conv=>whnf
       refine Ag ?_;refine A5 [12] A6 ⟨?_,trivial⟩;refine go A0 false ?_
      rotate_left 1
      focus
       refine A7 ?_;refine Ag (A5 [8] A6 ⟨A7 ?_,trivial⟩);refine Cu A0 rfl rfl rfl rfl rfl rfl (c:=Bh (r.2.2.nodes.getD r2.2.2.toNat default).outs) rfl (fun v=>go A0 false ?_)
     all_goals
      conv=>whnf
      refine Ag (A5 [13] A6 ⟨A7 ?_,trivial⟩);refine Bj A0 rfl rfl rfl rfl rfl rfl rfl rfl rfl rfl rfl (Bh ((r.2.2.nodes.getD r2.2.2.toNat default).outs++[r4.2.2-1])) (An rfl) C6 Ad (G3 ?_)
    rotate_left 3
    focus
     refine A7 ?_;refine Cu A0 rfl rfl rfl rfl rfl rfl (c:=Bh (r.2.2.nodes.getD r2.2.2.toNat default).outs) rfl (fun v=>go A0 false ?_);conv=>whnf
     refine Ag ?_;refine A5 [1,10] A6 ⟨?_,?_,trivial⟩
     focus
      refine A7 ?_;refine Ag (A5 [10] A6 ⟨A7 ?_,trivial⟩);refine Ay (Au d r3.1 r3.2.1 9 hr3.1 B5) hH hp rfl B0 rfl rfl (fun r4 hr4=>go A0 false ?_);conv=>whnf
      refine Ag ?_;refine Bt A0 false 11 rfl rfl rfl A6 rfl (A4 Br) ?_;refine A5 [12] A6 ⟨A7 ?_,trivial⟩;refine Ag (A5 [13] A6 ⟨A7 ?_,trivial⟩);refine Bj A0 rfl rfl rfl rfl rfl rfl rfl rfl rfl rfl rfl (Bh ((r.2.2.nodes.getD r2.2.2.toNat default).outs++[r4.2.2-1])) (An rfl) C6 Ad (G3 ?_)
     rotate_left 1
     focus
      refine A7 ?_;refine Ay (Au d r3.1 r3.2.1 9 hr3.1 B5) hH hp rfl B0 rfl rfl (fun r4 hr4=>go A0 false ?_);conv=>whnf
      refine Ag ?_;refine Bt A0 false 11 rfl rfl rfl A6 rfl (A4 Br) ?_;refine A5 [1,12] A6 ⟨?_,?_,trivial⟩
      focus
       refine A7 ?_;refine Ag (A5 [12] A6 ⟨A7 ?_,trivial⟩);refine Ag (A5 [13] A6 ⟨A7 ?_,trivial⟩);refine Bj A0 rfl rfl rfl rfl rfl rfl rfl rfl rfl rfl rfl (Bh ((r.2.2.nodes.getD r2.2.2.toNat default).outs++[r4.2.2-1])) (An rfl) C6 Ad (G3 ?_)
      rotate_left 1
      focus
       refine A7 ?_;refine Ag ?_;refine A5 [1,13] A6 ⟨?_,?_,trivial⟩
       focus
        refine A7 ?_;refine Ag (A5 [13] A6 ⟨A7 ?_,trivial⟩);refine Bj A0 rfl rfl rfl rfl rfl rfl rfl rfl rfl rfl rfl (Bh ((r.2.2.nodes.getD r2.2.2.toNat default).outs++[r4.2.2-1])) (An rfl) C6 Ad (G3 ?_)
       rotate_left 1
       focus
        refine A7 ?_;refine Bj A0 rfl rfl rfl rfl rfl rfl rfl rfl rfl rfl rfl (Bh ((r.2.2.nodes.getD r2.2.2.toNat default).outs++[r4.2.2-1])) (An rfl) C6 Ad (A7 ?_);refine Ag ?_;refine A5 [1] A6 ⟨?_,trivial⟩;refine go A0 false ?_
    rotate_left 4
    focus
     refine A7 ?_;refine Ay (Au d r3.1 r3.2.1 9 hr3.1 B5) hH hp rfl B0 rfl rfl (fun r4 hr4=>go A0 false ?_);conv=>whnf
     refine Ag ?_;refine Bt A0 false 11 rfl rfl rfl A6 rfl (A4 Br) ?_;refine A5 [1,8,12] A6 ⟨?_,?_,?_,trivial⟩
     focus
      refine A7 ?_;refine Ag ?_;refine A5 [8,12] A6 ⟨?_,?_,trivial⟩
      focus
       refine A7 ?_;refine Cu A0 rfl rfl rfl rfl rfl rfl (c:=Bh (r.2.2.nodes.getD r2.2.2.toNat default).outs) rfl (fun v=>go A0 false ?_);conv=>whnf
       refine Ag ?_;refine A5 [12] A6 ⟨?_,trivial⟩;refine go A0 false ?_
      rotate_left 1
      focus
       refine A7 ?_;refine Ag (A5 [8] A6 ⟨A7 ?_,trivial⟩);refine Cu A0 rfl rfl rfl rfl rfl rfl (c:=Bh (r.2.2.nodes.getD r2.2.2.toNat default).outs) rfl (fun v=>go A0 false ?_)
      all_goals
       conv=>whnf
       refine Ag (A5 [13] A6 ⟨A7 ?_,trivial⟩);refine Bj A0 rfl rfl rfl rfl rfl rfl rfl rfl rfl rfl rfl (Bh ((r.2.2.nodes.getD r2.2.2.toNat default).outs++[r4.2.2-1])) (An rfl) C6 Ad (G3 ?_)
     rotate_left 2
     focus
      refine A7 ?_;refine Cu A0 rfl rfl rfl rfl rfl rfl (c:=Bh (r.2.2.nodes.getD r2.2.2.toNat default).outs) rfl (fun v=>go A0 false ?_);conv=>whnf
      refine Ag ?_;refine A5 [1,12] A6 ⟨?_,?_,trivial⟩
      focus
       refine A7 ?_;refine Ag (A5 [12] A6 ⟨A7 ?_,trivial⟩);refine Ag (A5 [13] A6 ⟨A7 ?_,trivial⟩);refine Bj A0 rfl rfl rfl rfl rfl rfl rfl rfl rfl rfl rfl (Bh ((r.2.2.nodes.getD r2.2.2.toNat default).outs++[r4.2.2-1])) (An rfl) C6 Ad (G3 ?_)
      rotate_left 1
      focus
       refine A7 ?_;refine Ag ?_;refine A5 [1,13] A6 ⟨?_,?_,trivial⟩
       focus
        refine A7 ?_;refine Ag (A5 [13] A6 ⟨A7 ?_,trivial⟩);refine Bj A0 rfl rfl rfl rfl rfl rfl rfl rfl rfl rfl rfl (Bh ((r.2.2.nodes.getD r2.2.2.toNat default).outs++[r4.2.2-1])) (An rfl) C6 Ad (G3 ?_)
       rotate_left 1
       focus
        refine A7 ?_;refine Bj A0 rfl rfl rfl rfl rfl rfl rfl rfl rfl rfl rfl (Bh ((r.2.2.nodes.getD r2.2.2.toNat default).outs++[r4.2.2-1])) (An rfl) C6 Ad (A7 ?_);refine Ag ?_;refine A5 [1] A6 ⟨?_,trivial⟩;refine go A0 false ?_
     rotate_left 3
     focus
      refine A7 ?_;refine Ag ?_;refine A5 [1,8] A6 ⟨?_,?_,trivial⟩
      focus
       refine A7 ?_;refine Ag (A5 [8] A6 ⟨A7 ?_,trivial⟩);refine Cu A0 rfl rfl rfl rfl rfl rfl (c:=Bh (r.2.2.nodes.getD r2.2.2.toNat default).outs) rfl (fun v=>go A0 false ?_);conv=>whnf
       refine Ag (A5 [13] A6 ⟨A7 ?_,trivial⟩);refine Bj A0 rfl rfl rfl rfl rfl rfl rfl rfl rfl rfl rfl (Bh ((r.2.2.nodes.getD r2.2.2.toNat default).outs++[r4.2.2-1])) (An rfl) C6 Ad (G3 ?_)
      rotate_left 1
      focus
       refine A7 ?_;refine Cu A0 rfl rfl rfl rfl rfl rfl (c:=Bh (r.2.2.nodes.getD r2.2.2.toNat default).outs) rfl (fun v=>go A0 false ?_);conv=>whnf
       refine Ag ?_;refine A5 [1,13] A6 ⟨?_,?_,trivial⟩
       focus
        refine A7 ?_;refine Ag (A5 [13] A6 ⟨A7 ?_,trivial⟩);refine Bj A0 rfl rfl rfl rfl rfl rfl rfl rfl rfl rfl rfl (Bh ((r.2.2.nodes.getD r2.2.2.toNat default).outs++[r4.2.2-1])) (An rfl) C6 Ad (G3 ?_)
       rotate_left 1
       focus
        refine A7 ?_;refine Bj A0 rfl rfl rfl rfl rfl rfl rfl rfl rfl rfl rfl (Bh ((r.2.2.nodes.getD r2.2.2.toNat default).outs++[r4.2.2-1])) (An rfl) C6 Ad (A7 ?_);refine Ag ?_;refine A5 [1] A6 ⟨?_,trivial⟩;refine go A0 false ?_
   rotate_left 15
   focus
    refine A7 ?_;refine Ay (Au d r3.1 r3.2.1 9 hr3.1 B5) hH hp rfl B0 rfl rfl (fun r4 hr4=>go A0 false ?_);conv=>whnf
    refine Ag ?_;refine Bt A0 false 11 rfl rfl rfl A6 rfl (A4 Br) ?_;refine A5 [1,6,12] A6 ⟨?_,?_,?_,trivial⟩
    focus
     refine A7 ?_;refine Ag ?_;refine A5 [6,12] A6 ⟨?_,?_,trivial⟩
     focus
      refine A7 ?_;(repeat refine Ap ?_);refine Ag ?_;refine Bt A0 false 7 rfl rfl rfl A6 rfl (A4 Br) ?_;refine A5 [8,12] A6 ⟨?_,?_,trivial⟩
      focus
       refine A7 ?_;refine Cu A0 rfl rfl rfl rfl rfl rfl (c:=Bh (r.2.2.nodes.getD r2.2.2.toNat default).outs) rfl (fun v=>go A0 false ?_);conv=>whnf
       refine Ag ?_;refine A5 [12] A6 ⟨?_,trivial⟩;refine go A0 false ?_
      rotate_left 1
      focus
       refine A7 ?_;refine Ag (A5 [8] A6 ⟨A7 ?_,trivial⟩);refine Cu A0 rfl rfl rfl rfl rfl rfl (c:=Bh (r.2.2.nodes.getD r2.2.2.toNat default).outs) rfl (fun v=>go A0 false ?_)
     rotate_left 2
     focus
      refine A7 ?_;refine Ag (A5 [6] A6 ⟨A7 ?_,trivial⟩);(repeat refine Ap ?_);refine Ag ?_;refine Bt A0 false 7 rfl rfl rfl A6 rfl (A4 Br) ?_;refine A5 [8] A6 ⟨A7 ?_,trivial⟩;refine Cu A0 rfl rfl rfl rfl rfl rfl (c:=Bh (r.2.2.nodes.getD r2.2.2.toNat default).outs) rfl (fun v=>go A0 false ?_)
     all_goals
      conv=>whnf
      refine Ag (A5 [13] A6 ⟨A7 ?_,trivial⟩);refine Bj A0 rfl rfl rfl rfl rfl rfl rfl rfl rfl rfl rfl (Bh ((r.2.2.nodes.getD r2.2.2.toNat default).outs++[r4.2.2-1])) (An rfl) C6 Ad (G3 ?_)
    rotate_left 3
    focus
     refine A7 ?_;(repeat refine Ap ?_);refine Ag ?_;refine Bt A0 false 7 rfl rfl rfl A6 rfl (A4 Br) ?_;refine A5 [1,8,12] A6 ⟨?_,?_,?_,trivial⟩
     focus
      refine A7 ?_;refine Ag ?_;refine A5 [8,12] A6 ⟨?_,?_,trivial⟩
      focus
       refine A7 ?_;refine Cu A0 rfl rfl rfl rfl rfl rfl (c:=Bh (r.2.2.nodes.getD r2.2.2.toNat default).outs) rfl (fun v=>go A0 false ?_);conv=>whnf
       refine Ag ?_;refine A5 [12] A6 ⟨?_,trivial⟩;refine go A0 false ?_
      rotate_left 1
      focus
       refine A7 ?_;refine Ag (A5 [8] A6 ⟨A7 ?_,trivial⟩);refine Cu A0 rfl rfl rfl rfl rfl rfl (c:=Bh (r.2.2.nodes.getD r2.2.2.toNat default).outs) rfl (fun v=>go A0 false ?_)
      all_goals
       conv=>whnf
       refine Ag (A5 [13] A6 ⟨A7 ?_,trivial⟩);refine Bj A0 rfl rfl rfl rfl rfl rfl rfl rfl rfl rfl rfl (Bh ((r.2.2.nodes.getD r2.2.2.toNat default).outs++[r4.2.2-1])) (An rfl) C6 Ad (G3 ?_)
     rotate_left 2
     focus
      refine A7 ?_;refine Cu A0 rfl rfl rfl rfl rfl rfl (c:=Bh (r.2.2.nodes.getD r2.2.2.toNat default).outs) rfl (fun v=>go A0 false ?_);conv=>whnf
      refine Ag ?_;refine A5 [1,12] A6 ⟨?_,?_,trivial⟩
      focus
       refine A7 ?_;refine Ag (A5 [12] A6 ⟨A7 ?_,trivial⟩);refine Ag (A5 [13] A6 ⟨A7 ?_,trivial⟩);refine Bj A0 rfl rfl rfl rfl rfl rfl rfl rfl rfl rfl rfl (Bh ((r.2.2.nodes.getD r2.2.2.toNat default).outs++[r4.2.2-1])) (An rfl) C6 Ad (G3 ?_)
      rotate_left 1
      focus
       refine A7 ?_;refine Ag ?_;refine A5 [1,13] A6 ⟨?_,?_,trivial⟩
       focus
        refine A7 ?_;refine Ag (A5 [13] A6 ⟨A7 ?_,trivial⟩);refine Bj A0 rfl rfl rfl rfl rfl rfl rfl rfl rfl rfl rfl (Bh ((r.2.2.nodes.getD r2.2.2.toNat default).outs++[r4.2.2-1])) (An rfl) C6 Ad (G3 ?_)
       rotate_left 1
       focus
        refine A7 ?_;refine Bj A0 rfl rfl rfl rfl rfl rfl rfl rfl rfl rfl rfl (Bh ((r.2.2.nodes.getD r2.2.2.toNat default).outs++[r4.2.2-1])) (An rfl) C6 Ad (A7 ?_);refine Ag ?_;refine A5 [1] A6 ⟨?_,trivial⟩;refine go A0 false ?_
     rotate_left 3
     focus
      refine A7 ?_;refine Ag ?_;refine A5 [1,8] A6 ⟨?_,?_,trivial⟩
      focus
       refine A7 ?_;refine Ag (A5 [8] A6 ⟨A7 ?_,trivial⟩);refine Cu A0 rfl rfl rfl rfl rfl rfl (c:=Bh (r.2.2.nodes.getD r2.2.2.toNat default).outs) rfl (fun v=>go A0 false ?_);conv=>whnf
       refine Ag (A5 [13] A6 ⟨A7 ?_,trivial⟩);refine Bj A0 rfl rfl rfl rfl rfl rfl rfl rfl rfl rfl rfl (Bh ((r.2.2.nodes.getD r2.2.2.toNat default).outs++[r4.2.2-1])) (An rfl) C6 Ad (G3 ?_)
      rotate_left 1
      focus
       refine A7 ?_;refine Cu A0 rfl rfl rfl rfl rfl rfl (c:=Bh (r.2.2.nodes.getD r2.2.2.toNat default).outs) rfl (fun v=>go A0 false ?_);conv=>whnf
       refine Ag ?_;refine A5 [1,13] A6 ⟨?_,?_,trivial⟩
       focus
        refine A7 ?_;refine Ag (A5 [13] A6 ⟨A7 ?_,trivial⟩);refine Bj A0 rfl rfl rfl rfl rfl rfl rfl rfl rfl rfl rfl (Bh ((r.2.2.nodes.getD r2.2.2.toNat default).outs++[r4.2.2-1])) (An rfl) C6 Ad (G3 ?_)
       rotate_left 1
       focus
        refine A7 ?_;refine Bj A0 rfl rfl rfl rfl rfl rfl rfl rfl rfl rfl rfl (Bh ((r.2.2.nodes.getD r2.2.2.toNat default).outs++[r4.2.2-1])) (An rfl) C6 Ad (A7 ?_);refine Ag ?_;refine A5 [1] A6 ⟨?_,trivial⟩;refine go A0 false ?_
    rotate_left 8
    focus
     refine A7 ?_;refine Ag ?_;refine A5 [1,6] A6 ⟨?_,?_,trivial⟩
     focus
      refine A7 ?_;refine Ag (A5 [6] A6 ⟨A7 ?_,trivial⟩);(repeat refine Ap ?_);refine Ag ?_;refine Bt A0 false 7 rfl rfl rfl A6 rfl (A4 Br) ?_;refine A5 [8] A6 ⟨A7 ?_,trivial⟩;refine Cu A0 rfl rfl rfl rfl rfl rfl (c:=Bh (r.2.2.nodes.getD r2.2.2.toNat default).outs) rfl (fun v=>go A0 false ?_);conv=>whnf
      refine Ag (A5 [13] A6 ⟨A7 ?_,trivial⟩);refine Bj A0 rfl rfl rfl rfl rfl rfl rfl rfl rfl rfl rfl (Bh ((r.2.2.nodes.getD r2.2.2.toNat default).outs++[r4.2.2-1])) (An rfl) C6 Ad (G3 ?_)
     rotate_left 1
     focus
      refine A7 ?_;(repeat refine Ap ?_);refine Ag ?_;refine Bt A0 false 7 rfl rfl rfl A6 rfl (A4 Br) ?_;refine A5 [1,8] A6 ⟨?_,?_,trivial⟩
      focus
       refine A7 ?_;refine Ag (A5 [8] A6 ⟨A7 ?_,trivial⟩);refine Cu A0 rfl rfl rfl rfl rfl rfl (c:=Bh (r.2.2.nodes.getD r2.2.2.toNat default).outs) rfl (fun v=>go A0 false ?_);conv=>whnf
       refine Ag (A5 [13] A6 ⟨A7 ?_,trivial⟩);refine Bj A0 rfl rfl rfl rfl rfl rfl rfl rfl rfl rfl rfl (Bh ((r.2.2.nodes.getD r2.2.2.toNat default).outs++[r4.2.2-1])) (An rfl) C6 Ad (G3 ?_)
      rotate_left 1
      focus
       refine A7 ?_;refine Cu A0 rfl rfl rfl rfl rfl rfl (c:=Bh (r.2.2.nodes.getD r2.2.2.toNat default).outs) rfl (fun v=>go A0 false ?_);conv=>whnf
       refine Ag ?_;refine A5 [1,13] A6 ⟨?_,?_,trivial⟩
       focus
        refine A7 ?_;refine Ag (A5 [13] A6 ⟨A7 ?_,trivial⟩);refine Bj A0 rfl rfl rfl rfl rfl rfl rfl rfl rfl rfl rfl (Bh ((r.2.2.nodes.getD r2.2.2.toNat default).outs++[r4.2.2-1])) (An rfl) C6 Ad (G3 ?_)
       rotate_left 1
       focus
        refine A7 ?_;refine Bj A0 rfl rfl rfl rfl rfl rfl rfl rfl rfl rfl rfl (Bh ((r.2.2.nodes.getD r2.2.2.toNat default).outs++[r4.2.2-1])) (An rfl) C6 Ad (A7 ?_);refine Ag ?_;refine A5 [1] A6 ⟨?_,trivial⟩;refine go A0 false ?_
  rotate_left 36
  focus
   refine A7 ?_;refine Ay (Au d r3.1 r3.2.1 9 hr3.1 B5) hH hp rfl B0 rfl rfl (fun r4 hr4=>go A0 false ?_);conv=>whnf
   refine Ag ?_;refine Bt A0 false 11 rfl rfl rfl A6 rfl (A4 Br) ?_;refine A5 [1,4,12] A6 ⟨?_,?_,?_,trivial⟩
   focus
    refine A7 ?_;refine Ag ?_;refine A5 [4,12] A6 ⟨?_,?_,trivial⟩
    focus
     refine A7 ?_;refine Ag ?_;refine A5 [6,12] A6 ⟨?_,?_,trivial⟩
     focus
      refine A7 ?_;(repeat refine Ap ?_);refine Ag ?_;refine Bt A0 false 7 rfl rfl rfl A6 rfl (A4 Br) ?_;refine A5 [8,12] A6 ⟨?_,?_,trivial⟩
      focus
       refine A7 ?_;refine Cu A0 rfl rfl rfl rfl rfl rfl (c:=Bh (r.2.2.nodes.getD r2.2.2.toNat default).outs) rfl (fun v=>go A0 false ?_);conv=>whnf
       refine Ag ?_;refine A5 [12] A6 ⟨?_,trivial⟩;refine go A0 false ?_
      rotate_left 1
      focus
       refine A7 ?_;refine Ag (A5 [8] A6 ⟨A7 ?_,trivial⟩);refine Cu A0 rfl rfl rfl rfl rfl rfl (c:=Bh (r.2.2.nodes.getD r2.2.2.toNat default).outs) rfl (fun v=>go A0 false ?_)
     rotate_left 2
     focus
      refine A7 ?_;refine Ag (A5 [6] A6 ⟨A7 ?_,trivial⟩);(repeat refine Ap ?_);refine Ag ?_;refine Bt A0 false 7 rfl rfl rfl A6 rfl (A4 Br) ?_;refine A5 [8] A6 ⟨A7 ?_,trivial⟩;refine Cu A0 rfl rfl rfl rfl rfl rfl (c:=Bh (r.2.2.nodes.getD r2.2.2.toNat default).outs) rfl (fun v=>go A0 false ?_)
    rotate_left 3
    focus
     refine A7 ?_;refine Ag (A5 [4] A6 ⟨A7 ?_,trivial⟩);refine Ag (A5 [6] A6 ⟨A7 ?_,trivial⟩);(repeat refine Ap ?_);refine Ag ?_;refine Bt A0 false 7 rfl rfl rfl A6 rfl (A4 Br) ?_;refine A5 [8] A6 ⟨A7 ?_,trivial⟩;refine Cu A0 rfl rfl rfl rfl rfl rfl (c:=Bh (r.2.2.nodes.getD r2.2.2.toNat default).outs) rfl (fun v=>go A0 false ?_)
    all_goals
     conv=>whnf
     refine Ag (A5 [13] A6 ⟨A7 ?_,trivial⟩);refine Bj A0 rfl rfl rfl rfl rfl rfl rfl rfl rfl rfl rfl (Bh ((r.2.2.nodes.getD r2.2.2.toNat default).outs++[r4.2.2-1])) (An rfl) C6 Ad (G3 ?_)
   rotate_left 4
   focus
    refine A7 ?_;refine Ag ?_;refine A5 [1,6,12] A6 ⟨?_,?_,?_,trivial⟩
    focus
     refine A7 ?_;refine Ag ?_;refine A5 [6,12] A6 ⟨?_,?_,trivial⟩
     focus
      refine A7 ?_;(repeat refine Ap ?_);refine Ag ?_;refine Bt A0 false 7 rfl rfl rfl A6 rfl (A4 Br) ?_;refine A5 [8,12] A6 ⟨?_,?_,trivial⟩
      focus
       refine A7 ?_;refine Cu A0 rfl rfl rfl rfl rfl rfl (c:=Bh (r.2.2.nodes.getD r2.2.2.toNat default).outs) rfl (fun v=>go A0 false ?_);conv=>whnf
       refine Ag ?_;refine A5 [12] A6 ⟨?_,trivial⟩;refine go A0 false ?_
      rotate_left 1
      focus
       refine A7 ?_;refine Ag (A5 [8] A6 ⟨A7 ?_,trivial⟩);refine Cu A0 rfl rfl rfl rfl rfl rfl (c:=Bh (r.2.2.nodes.getD r2.2.2.toNat default).outs) rfl (fun v=>go A0 false ?_)
     rotate_left 2
     focus
      refine A7 ?_;refine Ag (A5 [6] A6 ⟨A7 ?_,trivial⟩);(repeat refine Ap ?_);refine Ag ?_;refine Bt A0 false 7 rfl rfl rfl A6 rfl (A4 Br) ?_;refine A5 [8] A6 ⟨A7 ?_,trivial⟩;refine Cu A0 rfl rfl rfl rfl rfl rfl (c:=Bh (r.2.2.nodes.getD r2.2.2.toNat default).outs) rfl (fun v=>go A0 false ?_)
     all_goals
      conv=>whnf
      refine Ag (A5 [13] A6 ⟨A7 ?_,trivial⟩);refine Bj A0 rfl rfl rfl rfl rfl rfl rfl rfl rfl rfl rfl (Bh ((r.2.2.nodes.getD r2.2.2.toNat default).outs++[r4.2.2-1])) (An rfl) C6 Ad (G3 ?_)
    rotate_left 3
    focus
     refine A7 ?_;(repeat refine Ap ?_);refine Ag ?_;refine Bt A0 false 7 rfl rfl rfl A6 rfl (A4 Br) ?_;refine A5 [1,8,12] A6 ⟨?_,?_,?_,trivial⟩
     focus
      refine A7 ?_;refine Ag ?_;refine A5 [8,12] A6 ⟨?_,?_,trivial⟩
      focus
       refine A7 ?_;refine Cu A0 rfl rfl rfl rfl rfl rfl (c:=Bh (r.2.2.nodes.getD r2.2.2.toNat default).outs) rfl (fun v=>go A0 false ?_);conv=>whnf
       refine Ag ?_;refine A5 [12] A6 ⟨?_,trivial⟩;refine go A0 false ?_
      rotate_left 1
      focus
       refine A7 ?_;refine Ag (A5 [8] A6 ⟨A7 ?_,trivial⟩);refine Cu A0 rfl rfl rfl rfl rfl rfl (c:=Bh (r.2.2.nodes.getD r2.2.2.toNat default).outs) rfl (fun v=>go A0 false ?_)
      all_goals
       conv=>whnf
       refine Ag (A5 [13] A6 ⟨A7 ?_,trivial⟩);refine Bj A0 rfl rfl rfl rfl rfl rfl rfl rfl rfl rfl rfl (Bh ((r.2.2.nodes.getD r2.2.2.toNat default).outs++[r4.2.2-1])) (An rfl) C6 Ad (G3 ?_)
     rotate_left 2
     focus
      refine A7 ?_;refine Cu A0 rfl rfl rfl rfl rfl rfl (c:=Bh (r.2.2.nodes.getD r2.2.2.toNat default).outs) rfl (fun v=>go A0 false ?_);conv=>whnf
      refine Ag ?_;refine A5 [1,12] A6 ⟨?_,?_,trivial⟩
      focus
       refine A7 ?_;refine Ag (A5 [12] A6 ⟨A7 ?_,trivial⟩);refine Ag (A5 [13] A6 ⟨A7 ?_,trivial⟩);refine Bj A0 rfl rfl rfl rfl rfl rfl rfl rfl rfl rfl rfl (Bh ((r.2.2.nodes.getD r2.2.2.toNat default).outs++[r4.2.2-1])) (An rfl) C6 Ad (G3 ?_)
      rotate_left 1
      focus
       refine A7 ?_;refine Ag ?_;refine A5 [1,13] A6 ⟨?_,?_,trivial⟩
       focus
        refine A7 ?_;refine Ag (A5 [13] A6 ⟨A7 ?_,trivial⟩);refine Bj A0 rfl rfl rfl rfl rfl rfl rfl rfl rfl rfl rfl (Bh ((r.2.2.nodes.getD r2.2.2.toNat default).outs++[r4.2.2-1])) (An rfl) C6 Ad (G3 ?_)
       rotate_left 1
       focus
        refine A7 ?_;refine Bj A0 rfl rfl rfl rfl rfl rfl rfl rfl rfl rfl rfl (Bh ((r.2.2.nodes.getD r2.2.2.toNat default).outs++[r4.2.2-1])) (An rfl) C6 Ad (A7 ?_);refine Ag ?_;refine A5 [1] A6 ⟨?_,trivial⟩;refine go A0 false ?_
     rotate_left 3
     focus
      refine A7 ?_;refine Ag ?_;refine A5 [1,8] A6 ⟨?_,?_,trivial⟩
      focus
       refine A7 ?_;refine Ag (A5 [8] A6 ⟨A7 ?_,trivial⟩);refine Cu A0 rfl rfl rfl rfl rfl rfl (c:=Bh (r.2.2.nodes.getD r2.2.2.toNat default).outs) rfl (fun v=>go A0 false ?_);conv=>whnf
       refine Ag (A5 [13] A6 ⟨A7 ?_,trivial⟩);refine Bj A0 rfl rfl rfl rfl rfl rfl rfl rfl rfl rfl rfl (Bh ((r.2.2.nodes.getD r2.2.2.toNat default).outs++[r4.2.2-1])) (An rfl) C6 Ad (G3 ?_)
      rotate_left 1
      focus
       refine A7 ?_;refine Cu A0 rfl rfl rfl rfl rfl rfl (c:=Bh (r.2.2.nodes.getD r2.2.2.toNat default).outs) rfl (fun v=>go A0 false ?_);conv=>whnf
       refine Ag ?_;refine A5 [1,13] A6 ⟨?_,?_,trivial⟩
       focus
        refine A7 ?_;refine Ag (A5 [13] A6 ⟨A7 ?_,trivial⟩);refine Bj A0 rfl rfl rfl rfl rfl rfl rfl rfl rfl rfl rfl (Bh ((r.2.2.nodes.getD r2.2.2.toNat default).outs++[r4.2.2-1])) (An rfl) C6 Ad (G3 ?_)
       rotate_left 1
       focus
        refine A7 ?_;refine Bj A0 rfl rfl rfl rfl rfl rfl rfl rfl rfl rfl rfl (Bh ((r.2.2.nodes.getD r2.2.2.toNat default).outs++[r4.2.2-1])) (An rfl) C6 Ad (A7 ?_);refine Ag ?_;refine A5 [1] A6 ⟨?_,trivial⟩;refine go A0 false ?_
    rotate_left 8
    focus
     refine A7 ?_;refine Ag ?_;refine A5 [1,6] A6 ⟨?_,?_,trivial⟩
     focus
      refine A7 ?_;refine Ag (A5 [6] A6 ⟨A7 ?_,trivial⟩);(repeat refine Ap ?_);refine Ag ?_;refine Bt A0 false 7 rfl rfl rfl A6 rfl (A4 Br) ?_;refine A5 [8] A6 ⟨A7 ?_,trivial⟩;refine Cu A0 rfl rfl rfl rfl rfl rfl (c:=Bh (r.2.2.nodes.getD r2.2.2.toNat default).outs) rfl (fun v=>go A0 false ?_);conv=>whnf
      refine Ag (A5 [13] A6 ⟨A7 ?_,trivial⟩);refine Bj A0 rfl rfl rfl rfl rfl rfl rfl rfl rfl rfl rfl (Bh ((r.2.2.nodes.getD r2.2.2.toNat default).outs++[r4.2.2-1])) (An rfl) C6 Ad (G3 ?_)
     rotate_left 1
     focus
      refine A7 ?_;(repeat refine Ap ?_);refine Ag ?_;refine Bt A0 false 7 rfl rfl rfl A6 rfl (A4 Br) ?_;refine A5 [1,8] A6 ⟨?_,?_,trivial⟩
      focus
       refine A7 ?_;refine Ag (A5 [8] A6 ⟨A7 ?_,trivial⟩);refine Cu A0 rfl rfl rfl rfl rfl rfl (c:=Bh (r.2.2.nodes.getD r2.2.2.toNat default).outs) rfl (fun v=>go A0 false ?_);conv=>whnf
       refine Ag (A5 [13] A6 ⟨A7 ?_,trivial⟩);refine Bj A0 rfl rfl rfl rfl rfl rfl rfl rfl rfl rfl rfl (Bh ((r.2.2.nodes.getD r2.2.2.toNat default).outs++[r4.2.2-1])) (An rfl) C6 Ad (G3 ?_)
      rotate_left 1
      focus
       refine A7 ?_;refine Cu A0 rfl rfl rfl rfl rfl rfl (c:=Bh (r.2.2.nodes.getD r2.2.2.toNat default).outs) rfl (fun v=>go A0 false ?_);conv=>whnf
       refine Ag ?_;refine A5 [1,13] A6 ⟨?_,?_,trivial⟩
       focus
        refine A7 ?_;refine Ag (A5 [13] A6 ⟨A7 ?_,trivial⟩);refine Bj A0 rfl rfl rfl rfl rfl rfl rfl rfl rfl rfl rfl (Bh ((r.2.2.nodes.getD r2.2.2.toNat default).outs++[r4.2.2-1])) (An rfl) C6 Ad (G3 ?_)
       rotate_left 1
       focus
        refine A7 ?_;refine Bj A0 rfl rfl rfl rfl rfl rfl rfl rfl rfl rfl rfl (Bh ((r.2.2.nodes.getD r2.2.2.toNat default).outs++[r4.2.2-1])) (An rfl) C6 Ad (A7 ?_);refine Ag ?_;refine A5 [1] A6 ⟨?_,trivial⟩;refine go A0 false ?_
   rotate_left 15
   focus
    refine A7 ?_;refine Ag ?_;refine A5 [1,4] A6 ⟨?_,?_,trivial⟩
    focus
     refine A7 ?_;refine Ag (A5 [4] A6 ⟨A7 ?_,trivial⟩);refine Ag (A5 [6] A6 ⟨A7 ?_,trivial⟩);(repeat refine Ap ?_);refine Ag ?_;refine Bt A0 false 7 rfl rfl rfl A6 rfl (A4 Br) ?_;refine A5 [8] A6 ⟨A7 ?_,trivial⟩;refine Cu A0 rfl rfl rfl rfl rfl rfl (c:=Bh (r.2.2.nodes.getD r2.2.2.toNat default).outs) rfl (fun v=>go A0 false ?_);conv=>whnf
     refine Ag (A5 [13] A6 ⟨A7 ?_,trivial⟩);refine Bj A0 rfl rfl rfl rfl rfl rfl rfl rfl rfl rfl rfl (Bh ((r.2.2.nodes.getD r2.2.2.toNat default).outs++[r4.2.2-1])) (An rfl) C6 Ad (G3 ?_)
    rotate_left 1
    focus
     refine A7 ?_;refine Ag ?_;refine A5 [1,6] A6 ⟨?_,?_,trivial⟩
     focus
      refine A7 ?_;refine Ag (A5 [6] A6 ⟨A7 ?_,trivial⟩);(repeat refine Ap ?_);refine Ag ?_;refine Bt A0 false 7 rfl rfl rfl A6 rfl (A4 Br) ?_;refine A5 [8] A6 ⟨A7 ?_,trivial⟩;refine Cu A0 rfl rfl rfl rfl rfl rfl (c:=Bh (r.2.2.nodes.getD r2.2.2.toNat default).outs) rfl (fun v=>go A0 false ?_);conv=>whnf
      refine Ag (A5 [13] A6 ⟨A7 ?_,trivial⟩);refine Bj A0 rfl rfl rfl rfl rfl rfl rfl rfl rfl rfl rfl (Bh ((r.2.2.nodes.getD r2.2.2.toNat default).outs++[r4.2.2-1])) (An rfl) C6 Ad (G3 ?_)
     rotate_left 1
     focus
      refine A7 ?_;(repeat refine Ap ?_);refine Ag ?_;refine Bt A0 false 7 rfl rfl rfl A6 rfl (A4 Br) ?_;refine A5 [1,8] A6 ⟨?_,?_,trivial⟩
      focus
       refine A7 ?_;refine Ag (A5 [8] A6 ⟨A7 ?_,trivial⟩);refine Cu A0 rfl rfl rfl rfl rfl rfl (c:=Bh (r.2.2.nodes.getD r2.2.2.toNat default).outs) rfl (fun v=>go A0 false ?_);conv=>whnf
       refine Ag (A5 [13] A6 ⟨A7 ?_,trivial⟩);refine Bj A0 rfl rfl rfl rfl rfl rfl rfl rfl rfl rfl rfl (Bh ((r.2.2.nodes.getD r2.2.2.toNat default).outs++[r4.2.2-1])) (An rfl) C6 Ad (G3 ?_)
      rotate_left 1
      focus
       refine A7 ?_;refine Cu A0 rfl rfl rfl rfl rfl rfl (c:=Bh (r.2.2.nodes.getD r2.2.2.toNat default).outs) rfl (fun v=>go A0 false ?_);conv=>whnf
       refine Ag ?_;refine A5 [1,13] A6 ⟨?_,?_,trivial⟩
       focus
        refine A7 ?_;refine Ag (A5 [13] A6 ⟨A7 ?_,trivial⟩);refine Bj A0 rfl rfl rfl rfl rfl rfl rfl rfl rfl rfl rfl (Bh ((r.2.2.nodes.getD r2.2.2.toNat default).outs++[r4.2.2-1])) (An rfl) C6 Ad (G3 ?_)
       rotate_left 1
       focus
        refine A7 ?_;refine Bj A0 rfl rfl rfl rfl rfl rfl rfl rfl rfl rfl rfl (Bh ((r.2.2.nodes.getD r2.2.2.toNat default).outs++[r4.2.2-1])) (An rfl) C6 Ad (A7 ?_);refine Ag ?_;refine A5 [1] A6 ⟨?_,trivial⟩;refine go A0 false ?_
  all_goals
   conv=>whnf
   refine Ag (A5 [14] A6 ⟨A7 ?_,trivial⟩);(repeat refine Ap ?_);refine Ag ?_;refine Bt A0 false 15 rfl rfl rfl A6 rfl (A4 Br) ?_;refine A5 [16] A6 ⟨A7 ?_,trivial⟩;refine Bv (j:=r2.2.2) A0 rfl rfl rfl rfl rfl rfl rfl rfl _ (C0p (j:=r2.2.2.toNat) (xs:=r.2.2.nodes) (e:=Bw.c) (x:=⟨(r.2.2.nodes.getD r2.2.2.toNat default).kind,(r.2.2.nodes.getD r2.2.2.toNat default).a,(r.2.2.nodes.getD r2.2.2.toNat default).b,(r.2.2.nodes.getD r2.2.2.toNat default).outs++[r4.2.2-1]⟩) Ad rfl) (A7 ?_);refine Ag (Gr A6 (A7 ?_))
  all_goals
   have h4:=hr4.2.2.2 B5;have h5:=hr4.2.1;exact C3 A0 (r4.1,r4.2.1,⟨r.2.2.nodes.set r2.2.2.toNat ⟨(r.2.2.nodes.getD r2.2.2.toNat default).kind,(r.2.2.nodes.getD r2.2.2.toNat default).a,(r.2.2.nodes.getD r2.2.2.toNat default).b,(r.2.2.nodes.getD r2.2.2.toNat default).outs++[r4.2.2-1]⟩,r.2.2.workers,r.2.2.cap⟩) ⟨hr4.1,L9 (A7k hm ((B3j (m:=10) ⟨hx.1,hx2⟩ B5 (Et Ad Ad)).m B5)) (by rw [List.length_set];omega) (Et Ad Ad) (Et Ad Ad)⟩ rfl rfl rfl rfl B0
 repeat refine B2 ?_
 refine ⟨fun c4=>?_,fun c4=>?_⟩<;>conv=>whnf
 ·repeat refine B2 ?_
  refine Bk A0 false [6,9] (fun j:JGr=>[]) (fun j=>[⟨0,[.c (.val d.v),.c (vi j.i),.c (vi j.h)]⟩,⟨3,[.own 2,.c (vi r.2.2.workers),.c (vi r.2.2.cap)]⟩,⟨1,[.c (.val (.slice none 0 0)),.c (vi 0),.c (vi 0)]⟩]) (fun j=>[⟨2,Bg j.xs⟩]) (fun j=>(0≤j.i∧j.i≤d.n)∧A2v j.xs∧j.xs.length≤9) (fun j=>9-j.xs.length) (⟨r3.1,r3.2.1,r.2.2.nodes⟩) (⟨hr3.1,hm,Nat.le_trans hl.2 B5⟩) trivial C2 ⟨Dm,trivial⟩ C1 A6 (fun j hj=>?_);conv=>whnf
  obtain ⟨hi2,hm2,hl2⟩:=hj;refine Gs rfl ?_;refine Bt A0 false 0 rfl rfl rfl A6 rfl (A4 Br) ?_;refine Bt A0 false 3 rfl rfl rfl A6 rfl (A4 Br) ?_;refine A5 [1,4] A6 ⟨?_,?_,trivial⟩
  focus
   refine A7 ?_;refine Ag ?_;refine A5 [2,4] A6 ⟨?_,?_,trivial⟩
   focus
    refine A7 ?_;refine Ag (A5 [4] A6 ⟨A7 ?_,trivial⟩);refine Ay (Au d j.i j.h 2 hi2 B5) hH hp rfl B0 rfl rfl (fun r9 hr9=>go A0 false ?_);conv=>whnf
    refine Ag ?_;refine Bt A0 false 5 rfl rfl rfl A6 rfl (A4 Br) ?_
   rotate_left 1
   focus
    refine A7 ?_;refine Ay (Au d j.i j.h 2 hi2 B5) hH hp rfl B0 rfl rfl (fun r9 hr9=>go A0 false ?_);conv=>whnf
    refine Ag ?_;refine Bt A0 false 5 rfl rfl rfl A6 rfl (A4 Br) ?_;refine A5 [2] A6 ⟨A7 ?_,trivial⟩;refine Ag ?_
  rotate_left 2
  focus
   refine A7 ?_;refine Ay (Au d j.i j.h 2 hi2 B5) hH hp rfl B0 rfl rfl (fun r9 hr9=>go A0 false ?_);conv=>whnf
   refine Ag ?_;refine Bt A0 false 5 rfl rfl rfl A6 rfl (A4 Br) ?_;refine A5 [1] A6 ⟨A7 ?_,trivial⟩;refine Ag (A5 [2] A6 ⟨A7 ?_,trivial⟩);refine Ag ?_
  all_goals
   refine Bt A0 false 6 rfl rfl rfl A6 rfl (A4 Br) ?_;refine Gr A6 (A7 ?_)
  all_goals
   have hn9:=hr9.2.2.2 B5;have hn8:=hr9.2.1;(repeat refine Ap ?_);refine Eo (fun hlt=>?_) fun hlt=>?_<;>conv=>whnf
   ·refine Es 4 (Bg [⟨8,0,0,[]⟩]) rfl (Hx rfl A44) ?_
    refine Bj A0 rfl rfl rfl rfl rfl rfl rfl rfl rfl rfl rfl (Bg (j.xs++[⟨8,0,0,[]⟩])) (An (xs:=j.xs) (x:=⟨8,0,0,[]⟩) (e:=Bw.c) rfl) C6 (by simp only [List.length_cons,List.length_nil];omega) (A7 ?_);refine Az [(2,5)] (⟨r9.1,r9.2.1,j.xs++[⟨8,0,0,[]⟩]⟩) (⟨hr9.1,B4g hm2 C5b,by rw [List.length_append];show _+1≤9;omega⟩) (by show 9-(j.xs++[(⟨8,0,0,[]⟩:Bw)]).length<_;rw [List.length_append];show 9-(_+1)<_;omega) trivial ⟨rfl,trivial⟩ C2 A6 C1 A6
   exact C3 A0 (r9.1,r9.2.1,⟨j.xs,r.2.2.workers,r.2.2.cap⟩) ⟨hr9.1,L9 hm2 Ad (Et Ad Ad) (Et Ad Ad)⟩ rfl rfl rfl rfl B0
 repeat refine B2 ?_
 refine ⟨fun c5=>?_,fun c5=>?_⟩<;>conv=>whnf
 ·repeat refine B2 ?_
  refine B9q A0 rfl rfl rfl rfl rfl rfl rfl rfl rfl ⟨hk0,by omega⟩ Ad _ rfl (A7 ?_);refine Jc 4 (Bg (r.2.2.nodes.take r2.2.2.toNat)) rfl (B4q Ad) ?_;exact C3 A0 (r3.1,r3.2.1,⟨r.2.2.nodes.take r2.2.2.toNat,r.2.2.workers,r.2.2.cap⟩) ⟨hr3.1,L9 (B4h _ hm) (by rw [List.length_take];omega) (Et Ad Ad) (Et Ad Ad)⟩ rfl rfl rfl rfl B0
 repeat refine B2 ?_
 exact C3 A0 (r3.1,r3.2.1,r.2.2) ⟨hr3.1,L9 (ns:=r.2.2.nodes) (a:=r.2.2.workers) (b:=r.2.2.cap) hm Ad (Et Ad Ad) (Et Ad Ad)⟩ rfl rfl rfl rfl B0
end Go.Proofs.YtdendlkeiaccpaaGreat
