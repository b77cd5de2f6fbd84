/- Part 30 of the proof that each of the laws FnStalls returns true for every input. No conditions. -/
import Derived.Test.YtonodkjaoalfjaaGreatP21
import Derived.Test.YtonodkjaoalfjaaGreatP22
import Derived.Test.YtonodkjaoalfjaaGreatP24
import Derived.Test.YtonodkjaoalfjaaGreatP19
import Derived.Test.YtonodkjaoalfjaaGreatP29

set_option linter.unusedSimpArgs false
set_option linter.unusedVariables false
set_option maxRecDepth 100000
namespace Go.Proofs.YtonodkjaoalfjaaGreat
open Go.Sx
def C1c (c d:A3):Prop:=d.workers.length=c.workers.length∧d.links.length=c.links.length∧d.tokens.length=c.tokens.length∧d.graph=c.graph
theorem C2b (c:A3):C1c c c:=⟨rfl,rfl,rfl,rfl⟩
theorem C1c.trans {a b c:A3}(h:C1c a b)(g:C1c b c):C1c a c:=⟨g.1.trans h.1,g.2.1.trans h.2.1,g.2.2.1.trans h.2.2.1,g.2.2.2.trans h.2.2.2⟩
theorem C4l (c:A3)(p:Bl):C1c c (Ag c p).1:=by
 unfold Ag
 split
 ·unfold Cr;split<;>simp [C1c,Av]
 split
 ·unfold Cg;split<;>simp [C1c,Av]
 split
 ·unfold C6;(repeat' split)<;>simp [C1c,Av,B6]
 split
 ·unfold Cd;split<;>simp [C1c,Av,B6]
 split
 ·unfold Br;split<;>simp [C1c,B6]
 split
 ·unfold Bo Gn;dsimp only;(repeat' split)<;>simp [C1c,Av,Cp,I0]
 split
 ·unfold D4;(repeat' split)<;>simp [C1c,Av,Ih]
 ·exact C2b c
theorem C1a (c:A3)(l:List Bl):C1c c (Bh c l).1:=by
 have:∀(l:List Bl) (s:A3×List Bool),C1c s.1 (l.foldl Cl s).1:=by
  intro l
  induction l with
  |nil=>intro s;exact C2b _
  |cons p l ih=>intro s;exact (C4l s.1 p).trans (ih (Cl s p))
 exact this l (c,[])
theorem C21 (n:Nat):∀c:A3,C1c c (Di n c).1:=by
 induction n with
 |zero=>intro c;exact C2b c
 |succ n ih=>
  intro c
  rw [Di]
  split
  ·exact C1a c _
  ·exact (C1a c _).trans (ih _)
def C4m (c:A3):Prop:=∃(g:Ad) (ins:List A5) (pk:List Bl) (m:Nat),(A5u g∧Sk g)∧Me ins∧pk.length≤40∧m≤11∧c=(Di m (Bh (Ah g ins).1 pk).1).1
structure C5r (c:A3):Prop where
 w:c.w≤5000
 k:0<c.workers.length
 l:0<c.links.length
 t:c.tokens.length=4
 g:(1≤c.graph.workers∧c.graph.workers≤3)∧c.graph.w≤64
theorem C20 {c:A3}(h:C4m c):C5r c:=by
 obtain ⟨g,ins,pk,m,⟨hgd,hgs⟩,hin,hpk,hm,rfl⟩:=h
 have hN:=B6w hgs hin
 have hw:=B9r (g:=g) (l:=ins)
 have hr:=B47 (c:=(Ah g ins).1) (l:=pk)
 have hf:=A99 m (Bh (Ah g ins).1 pk).1
 have hgw:=hgd.1
 obtain ⟨h1,h2,h3,h4⟩:=(C1a (Ah g ins).1 pk).trans (C21 m (Bh (Ah g ins).1 pk).1)
 have hw1:=hgs.1
 have hn:0<g.workers.toNat:=by omega
 have e1:(Ah g ins).1.workers.length=g.workers.toNat:=by rw [Ul hN];exact A35 _ _ _
 have e2:(Ah g ins).1.links.length=g.workers.toNat * g.workers.toNat:=by rw [Ul hN];exact List.length_replicate
 have e3:(Ah g ins).1.tokens.length=4:=by rw [Ul hN];rfl
 have e4:(Ah g ins).1.graph=g:=by rw [Ul hN]
 refine ⟨by omega,by rw [h1,e1];exact hn,by rw [h2,e2];exact Nat.mul_pos hn hn,h3.trans e3,?_⟩
 rw [h4,e4]
 exact ⟨hw1,hgw⟩
theorem C4r (c:A3):c=(Di 0 c).1:=rfl
set_option maxHeartbeats 4000000 in
theorem C3m (d:I9)(i h:Int)(hi:0≤i∧i≤d.n):Iv Tryz.prog HT 131 d.pins (d.cur i h) [] (fun r:Int×Int×A3=>(0≤r.1∧r.1≤d.n)∧C4m r.2.2) (fun r=>d.cur r.1 r.2.1) (fun r=>[.agg r.2.2.c]):=by
 refine Ol A0 false Tryz.func131 rfl Bu fun B b hH hp=>?_
 conv=>whnf
 refine Fg (A9z d i h hi) hH hp rfl Ca rfl rfl (fun r hr=>go A0 false ?_)
 conv=>whnf
 refine Fg (A90 d r.1 r.2.1 hr.1) hH hp rfl Ca rfl rfl (fun r2 hr2=>go A0 false ?_)
 conv=>whnf
 have hN:=B6w hr.2.2 hr2.2
 have hgw:=hr.2.1.1
 have hil:=hr2.2.1
 have hw:=B9r (g:=r.2.2) (l:=r2.2.2)
 have hgC:(Ah r.2.2 r2.2.2).1.graph=r.2.2:=by rw [Ul hN]
 have hww:=hr.2.2.1
 refine B4 (C0r r.2.2 r2.2.2 Ac Ac) rfl (Al ?_)
 refine A8a rfl ?_
 refine M7 A0 false 1 rfl rfl rfl Aa rfl (Af D0) ?_
 refine Aj [0,2] Aa ⟨?_,?_,trivial⟩
 focus
  refine go A0 false ?_
  conv=>whnf
  refine Ak ?_
  refine Aj [2] Aa ⟨?_,trivial⟩
  refine go A0 false ?_
  conv=>whnf
  refine Fg (B2y d r2.1 r2.2.1 40 Bu hr2.1) hH hp rfl Ca rfl rfl (fun r3 hr3=>go A0 false ?_)
  conv=>whnf
  refine Ak ?_
  refine Aj [3] Aa ⟨?_,trivial⟩
  refine go A0 false ?_
  conv=>whnf
  refine B4 (C1s (Ah r.2.2 r2.2.2).1 r3.2.2 (by have:=hr3.2;omega) (by rw [hgC];show _∧_;omega)) rfl (Al ?_)
  refine Ak ?_
  refine M7 A0 false 4 rfl rfl rfl Aa rfl (Af D0) ?_
  refine Aj [5,6] Aa ⟨?_,?_,trivial⟩
  focus
   refine go A0 false ?_
   conv=>whnf
   refine Ak ?_
   refine Aj [6,7] Aa ⟨?_,?_,trivial⟩
   focus
    refine go A0 false ?_
    conv=>whnf
    refine Ak ?_
    refine Aj [7] Aa ⟨?_,trivial⟩
    refine go A0 false ?_
    conv=>whnf
    refine Ak ?_
    refine Ed Aa (Al ?_)
   rotate_left 1
   focus
    refine go A0 false ?_
    conv=>whnf
    refine Ak ?_
    refine Aj [6] Aa ⟨?_,trivial⟩
    refine go A0 false ?_
    conv=>whnf
    refine Ak ?_
    refine Ed Aa (Al ?_)
  rotate_left 2
  focus
   refine go A0 false ?_
   conv=>whnf
   refine Ak ?_
   refine Aj [5] Aa ⟨?_,trivial⟩
   refine go A0 false ?_
   conv=>whnf
   refine Ak ?_
   refine Aj [7] Aa ⟨?_,trivial⟩
   refine go A0 false ?_
   conv=>whnf
   refine Ak ?_
   refine Ed Aa (Al ?_)
 rotate_left 3
 focus
  refine go A0 false ?_
  conv=>whnf
  refine Fg (B2y d r2.1 r2.2.1 40 Bu hr2.1) hH hp rfl Ca rfl rfl (fun r3 hr3=>go A0 false ?_)
  conv=>whnf
  refine Ak ?_
  refine Aj [0] Aa ⟨?_,trivial⟩
  refine go A0 false ?_
  conv=>whnf
  refine Ak ?_
  refine Aj [3] Aa ⟨?_,trivial⟩
  refine go A0 false ?_
  conv=>whnf
  refine B4 (C1s (Ah r.2.2 r2.2.2).1 r3.2.2 (by have:=hr3.2;omega) (by rw [hgC];show _∧_;omega)) rfl (Al ?_)
  refine Ak ?_
  refine M7 A0 false 4 rfl rfl rfl Aa rfl (Af D0) ?_
  refine Aj [5,6] Aa ⟨?_,?_,trivial⟩
  focus
   refine go A0 false ?_
   conv=>whnf
   refine Ak ?_
   refine Aj [6,7] Aa ⟨?_,?_,trivial⟩
   focus
    refine go A0 false ?_
    conv=>whnf
    refine Ak ?_
    refine Aj [7] Aa ⟨?_,trivial⟩
    refine go A0 false ?_
    conv=>whnf
    refine Ak ?_
    refine Ed Aa (Al ?_)
   rotate_left 1
   focus
    refine go A0 false ?_
    conv=>whnf
    refine Ak ?_
    refine Aj [6] Aa ⟨?_,trivial⟩
    refine go A0 false ?_
    conv=>whnf
    refine Ak ?_
    refine Ed Aa (Al ?_)
  rotate_left 2
  focus
   refine go A0 false ?_
   conv=>whnf
   refine Ak ?_
   refine Aj [5] Aa ⟨?_,trivial⟩
   refine go A0 false ?_
   conv=>whnf
   refine Ak ?_
   refine Aj [7] Aa ⟨?_,trivial⟩
   refine go A0 false ?_
   conv=>whnf
   refine Ak ?_
   refine Ed Aa (Al ?_)
 all_goals
  have hpk:=hr3.2
  have hrw:=B47 (c:=(Ah r.2.2 r2.2.2).1) (l:=r3.2.2)
  have hgX:(Bh (Ah r.2.2 r2.2.2).1 r3.2.2).1.graph=r.2.2:=(C1a _ _).2.2.2.trans hgC
  refine Fg (B54 d r3.1 r3.2.1 4 hr3.1 Bu) hH hp rfl Ca rfl rfl (fun r4 hr4=>go A0 false ?_)
  conv=>whnf
  refine ⟨fun c0=>?_,fun c0=>?_⟩<;>conv=>whnf
  ·refine A8a rfl ?_
   refine M7 A0 false 1 rfl rfl rfl Aa rfl (Af D0) ?_
   refine Aj [0,2] Aa ⟨?_,?_,trivial⟩
   focus
    refine go A0 false ?_
    conv=>whnf
    refine Ak ?_
    refine Aj [2] Aa ⟨?_,trivial⟩
    refine go A0 false ?_
    conv=>whnf
    refine Fg (E5 d r4.1 r4.2.1 12 hr4 Bu) hH hp rfl Ca rfl rfl (fun r5 hr5=>go A0 false ?_)
    conv=>whnf
    refine Ak ?_
    refine Aj [3] Aa ⟨?_,trivial⟩
    refine go A0 false ?_
    conv=>whnf
    refine B4 (C11 (Bh (Ah r.2.2 r2.2.2).1 r3.2.2).1 r5.2.2 Ac (by rw [hgX];show _∧_;omega)) rfl (Al ?_)
    refine Ak ?_
    refine M7 A0 false 4 rfl rfl rfl Aa rfl (Af D0) ?_
    refine Aj [5,6] Aa ⟨?_,?_,trivial⟩
    focus
     refine go A0 false ?_
     conv=>whnf
     refine Ak ?_
     refine Aj [6,7] Aa ⟨?_,?_,trivial⟩
     focus
      refine go A0 false ?_
      conv=>whnf
      refine Ak ?_
      refine Aj [7] Aa ⟨?_,trivial⟩
      refine go A0 false ?_
      conv=>whnf
      refine Ak ?_
      refine Ed Aa (Al ?_)
     rotate_left 1
     focus
      refine go A0 false ?_
      conv=>whnf
      refine Ak ?_
      refine Aj [6] Aa ⟨?_,trivial⟩
      refine go A0 false ?_
      conv=>whnf
      refine Ak ?_
      refine Ed Aa (Al ?_)
    rotate_left 2
    focus
     refine go A0 false ?_
     conv=>whnf
     refine Ak ?_
     refine Aj [5] Aa ⟨?_,trivial⟩
     refine go A0 false ?_
     conv=>whnf
     refine Ak ?_
     refine Aj [7] Aa ⟨?_,trivial⟩
     refine go A0 false ?_
     conv=>whnf
     refine Ak ?_
     refine Ed Aa (Al ?_)
   rotate_left 3
   focus
    refine go A0 false ?_
    conv=>whnf
    refine Fg (E5 d r4.1 r4.2.1 12 hr4 Bu) hH hp rfl Ca rfl rfl (fun r5 hr5=>go A0 false ?_)
    conv=>whnf
    refine Ak ?_
    refine Aj [0] Aa ⟨?_,trivial⟩
    refine go A0 false ?_
    conv=>whnf
    refine Ak ?_
    refine Aj [3] Aa ⟨?_,trivial⟩
    refine go A0 false ?_
    conv=>whnf
    refine B4 (C11 (Bh (Ah r.2.2 r2.2.2).1 r3.2.2).1 r5.2.2 Ac (by rw [hgX];show _∧_;omega)) rfl (Al ?_)
    refine Ak ?_
    refine M7 A0 false 4 rfl rfl rfl Aa rfl (Af D0) ?_
    refine Aj [5,6] Aa ⟨?_,?_,trivial⟩
    focus
     refine go A0 false ?_
     conv=>whnf
     refine Ak ?_
     refine Aj [6,7] Aa ⟨?_,?_,trivial⟩
     focus
      refine go A0 false ?_
      conv=>whnf
      refine Ak ?_
      refine Aj [7] Aa ⟨?_,trivial⟩
      refine go A0 false ?_
      conv=>whnf
      refine Ak ?_
      refine Ed Aa (Al ?_)
     rotate_left 1
     focus
      refine go A0 false ?_
      conv=>whnf
      refine Ak ?_
      refine Aj [6] Aa ⟨?_,trivial⟩
      refine go A0 false ?_
      conv=>whnf
      refine Ak ?_
      refine Ed Aa (Al ?_)
    rotate_left 2
    focus
     refine go A0 false ?_
     conv=>whnf
     refine Ak ?_
     refine Aj [5] Aa ⟨?_,trivial⟩
     refine go A0 false ?_
     conv=>whnf
     refine Ak ?_
     refine Aj [7] Aa ⟨?_,trivial⟩
     refine go A0 false ?_
     conv=>whnf
     refine Ak ?_
     refine Ed Aa (Al ?_)
   all_goals
    have hb:(En r5.2.2 0 3000).toNat≤11:=by have h1:=hr5.2.2.2 Bu;have h2:=hr5.2.1;unfold En;(repeat' split)<;>omega
    exact Kk A0 (r5.1,r5.2.1,(Di (En r5.2.2 0 3000).toNat (Bh (Ah r.2.2 r2.2.2).1 r3.2.2).1).1) ⟨hr5.1,r.2.2,r2.2.2,r3.2.2,_,hr.2,hr2.2,hpk,hb,rfl⟩ rfl rfl rfl rfl Ca
  ·repeat refine Bi ?_
   exact Kk A0 (r4.1,r4.2.1,(Bh (Ah r.2.2 r2.2.2).1 r3.2.2).1) ⟨hr4,r.2.2,r2.2.2,r3.2.2,0,hr.2,hr2.2,hpk,by decide,C4r _⟩ rfl rfl rfl rfl Ca
end Go.Proofs.YtonodkjaoalfjaaGreat
