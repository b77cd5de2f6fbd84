/- Part 30 of the proof that each of the laws FnTold returns true for every input. No conditions. -/
import Derived.Test.YtdendlkeiaccpaaGreatDoorP29
import Derived.Test.YtdendlkeiaccpaaGreatDoorP24
import Derived.Test.YtdendlkeiaccpaaGreatDoorP25
import Derived.Test.YtdendlkeiaccpaaGreatDoorP26
import Derived.Test.YtdendlkeiaccpaaGreatDoorP20

set_option linter.unusedSimpArgs false
set_option linter.unusedVariables false
set_option maxRecDepth 100000
namespace Go.Proofs.YtdendlkeiaccpaaGreatDoor
open Go.Sx
set_option maxHeartbeats 4000000 in
theorem Nq (x:A5)(most:Int)(h:x.w≤6000000)(og:Ee .i64 x.graph.workers):Bo Tryz.prog 24 [.agg x.c,.one (vi most)] [.agg (Dt (Em most 0 3000).toNat x).1.c,.one (vi (Dt (Em most 0 3000).toNat x).2)]:=by
 have hb:=Gm most 0 3000 Aw
 have hal:=Pz x
 obtain ⟨n,hn⟩:∃n:Nat,Em most 0 3000=n:=⟨(Em most 0 3000).toNat,by omega⟩
 rw [hn,Int.toNat_natCast]
 refine Bh A0 false Tryz.func24 rfl Aw fun W=>?_
 conv=>whnf
 have hp:Kc ⟨W,fun _=>False⟩ []:=fun _ h=>by cases h
 have hH:∀w,Ax.rel ⟨W,fun _=>False⟩ w→True:=fun _ _=>trivial
 refine X7 (Y8 x Ab) hp rfl (fun r hr=>go A0 false ?_)
 conv=>whnf
 refine Cq (Zt x) rfl (A8 ?_)
 refine B5 (Ku most 0 3000) rfl (A8 ?_)
 rw [hn]
 refine C0 A0 false [] (fun k:Nat=>[(8,.c (vi (k+1)))]) (fun k=>[⟨2,[.own 3,.c (vi (Mn x k).graph.workers),.c (vi (Mn x k).graph.cap),.own 4,.own 5,.own 6,.own 7,.c (vb (B4 (Mn x k)))]⟩,⟨1,[.c (.val (.slice none 0 0)),.c (vi 0),.c (vi 0),.c (.val (.slice none 0 0)),.c (.val (.slice none 0 0)),.c (.val (.slice none 0 0)),.c (.val (.slice none 0 0))]⟩]) (fun k=>[⟨8,Fg (Rd (Hl x))⟩,⟨3,Bp (Mn x k).graph.nodes⟩,⟨4,Av (Mn x k).workers⟩,⟨5,Cy (Mn x k).links⟩,⟨6,C9 (Mn x k).tokens⟩,⟨7,Cj (Mn x k).news⟩])
  (fun k=>k≤n∧∀i,i<k→(Ck (Mn x i)).2≠0) (fun k=>n-k) 0 ⟨Nat.zero_le _,by first|rfl|assumption|simp⟩ ⟨G9,trivial⟩ Cf ⟨Eu,Eu,Eu,Eu,Eu,Eu,trivial⟩ Cr A7 (fun k hk=>?_)
 obtain ⟨hk,he⟩:=hk
 conv=>whnf
 conv=>whnf
 refine ⟨fun hlt=>?_,fun hlt=>?_⟩<;>conv=>whnf
 ·have hlt:k<n:=by have:=of_decide_eq_true hlt;omega
  have hw:=B4x x k
  have hP:Hl (Mn x k)=Hl x:=B1b (Xk x k)
  have hF1:(Bi (Mn x k) (Rd (Hl x))).1=Mn x (k+1):=by
   show _=(Ck (Mn x k)).1
   unfold Ck
   rw [hP]
  have hF2:cnt (Mn x k) (Rd (Hl x))=(Ck (Mn x k)).2:=by
   unfold Ck cnt
   rw [hP]
  refine Aj (A75 (Mn x k) (Rd (Hl x)) Ab (by rw [Xk];exact og)) hH hp rfl Ay rfl rfl (fun r2 hr2=>go A0 false ?_)
  conv=>whnf
  rw [hF1,hF2]
  refine ⟨fun h0=>have h0:=eq_of_beq h0;?_,fun h0=>have h0:=beq_eq_false_iff_ne.1 h0;?_⟩<;>conv=>whnf
  ·have h0:(Ck (Mn x k)).2=0:=by omega
   repeat refine Bj ?_
   rw [Yz hlt he h0]
   refine B3 A0 rfl rfl ?_
   exact Ay
  have h0:(Ck (Mn x k)).2≠0:=by omega
  (repeat refine An ?_)
  refine B9 [(3,9),(4,10),(5,11),(6,12),(7,13)] (k+1) ⟨by omega,fun i hi=>(Nat.lt_succ_iff_lt_or_eq.1 hi).elim (fun h4=>he i h4) (fun h4=>by subst h4;exact h0)⟩ Ab ⟨rfl,trivial⟩ ⟨rfl,rfl,rfl,rfl,rfl,rfl,trivial⟩ Cf A7 Cr A7
 have hlt:¬ k<n:=by have:=of_decide_eq_false hlt;omega
 obtain rfl:k=n:=by omega
 repeat refine Bj ?_
 rw [Yx he]
 refine B3 A0 rfl rfl ?_
 exact Ay
def O7 (c d:A5):Prop:=d.workers.length=c.workers.length∧d.links.length=c.links.length∧d.tokens.length=c.tokens.length∧d.graph=c.graph
theorem Um (c:A5):O7 c c:=⟨rfl,rfl,rfl,rfl⟩
theorem O7.trans {a b c:A5}(h:O7 a b)(g:O7 b c):O7 a c:=⟨g.1.trans h.1,g.2.1.trans h.2.1,g.2.2.1.trans h.2.2.1,g.2.2.2.trans h.2.2.2⟩
theorem A79 (c:A5)(p:Cz):O7 c (Ar c p).1:=by
 unfold Ar
 split
 ·unfold Eh;split<;>simp [O7,Bb]
 split
 ·unfold Du;split<;>simp [O7,Bb]
 split
 ·unfold Cg;(repeat' split)<;>simp [O7,Bb,Cd]
 split
 ·unfold Dh;split<;>simp [O7,Bb,Cd]
 split
 ·unfold Dr;split<;>simp [O7,Cd]
 split
 ·unfold Cu It;dsimp only;(repeat' split)<;>simp [O7,Bb,Da,Px]
 split
 ·unfold E8;(repeat' split)<;>simp [O7,Bb,Ks]
 exact Um c
theorem O3 (c:A5)(l:List Cz):O7 c (Bi c l).1:=by
 have:∀(l:List Cz) (s:A5×List Bool),O7 s.1 (l.foldl Fw s).1:=by
  intro l
  induction l with
  |nil=>intro s;exact Um _
  |cons p l ih=>intro s;exact (A79 s.1 p).trans (ih (Fw s p))
 exact this l (c,[])
theorem Yy (n:Nat):∀c:A5,O7 c (Dt n c).1:=by
 induction n with
 |zero=>intro c;exact Um c
 |succ n ih=>
  intro c
  rw [Dt]
  split
  ·exact O3 c _
  exact (O3 c _).trans (ih _)
def A21 (c:A5):Prop:=∃(g:Ap) (ins:List Ae) (pk:List Cz) (m:Nat),(A24 g∧Yf g)∧B2h ins∧pk.length≤40∧m≤11∧c=(Dt m (Bi (Cc g ins).1 pk).1).1
structure B46 (c:A5):Prop where
 w:c.w≤5000
 k:0<c.workers.length
 l:0<c.links.length
 t:c.tokens.length=4
 g:(1≤c.graph.workers∧c.graph.workers≤3)∧c.graph.w≤64
theorem Q9 {c:A5}(h:A21 c):B46 c:=by
 obtain ⟨g,ins,pk,m,⟨hgd,hgs⟩,hin,hpk,hm,rfl⟩:=h
 have hN:=Zf hgs hin
 have hw:=B4y (g:=g) (l:=ins)
 have hr:=Pm (c:=(Cc g ins).1) (l:=pk)
 have hf:=Xc m (Bi (Cc g ins).1 pk).1
 have hgw:=hgd.1
 obtain ⟨h1,h2,h3,h4⟩:=(O3 (Cc g ins).1 pk).trans (Yy m (Bi (Cc g ins).1 pk).1)
 have hw1:=hgs.1
 have hn:0<g.workers.toNat:=by omega
 have e1:(Cc g ins).1.workers.length=g.workers.toNat:=by rw [Jl hN];exact Ur _ _ _
 have e2:(Cc g ins).1.links.length=g.workers.toNat * g.workers.toNat:=by rw [Jl hN];exact List.length_replicate
 have e3:(Cc g ins).1.tokens.length=4:=by rw [Jl hN];rfl
 have e4:(Cc g ins).1.graph=g:=by rw [Jl hN]
 refine ⟨by omega,by rw [h1,e1];exact hn,by rw [h2,e2];exact Nat.mul_pos hn hn,h3.trans e3,?_⟩
 rw [h4,e4]
 exact ⟨hw1,hgw⟩
theorem A9q (c:A5):c=(Dt 0 c).1:=rfl
set_option maxHeartbeats 4000000 in
theorem A3d (d:Dx)(i h:Int)(hi:0≤i∧i≤d.n):Cw Tryz.prog HT 42 d.pins (d.cur i h) [] (fun r:Int×Int×A5=>(0≤r.1∧r.1≤d.n)∧A21 r.2.2) (fun r=>d.cur r.1 r.2.1) (fun r=>[.agg r.2.2.c]):=by
 refine Dn A0 false Tryz.func42 rfl Aw fun B b hH hp=>?_
 conv=>whnf
 refine Aj (X8 d i h hi) hH hp rfl Ay rfl rfl (fun r hr=>go A0 false ?_)
 conv=>whnf
 refine Aj (X9 d r.1 r.2.1 hr.1) hH hp rfl Ay rfl rfl (fun r2 hr2=>go A0 false ?_)
 conv=>whnf
 have hN:=Zf hr.2.2 hr2.2
 have hgw:=hr.2.1.1
 have hil:=hr2.2.1
 have hw:=B4y (g:=r.2.2) (l:=r2.2.2)
 have hgC:(Cc r.2.2 r2.2.2).1.graph=r.2.2:=by rw [Jl hN]
 have hww:=hr.2.2.1
 refine Cq (Vm r.2.2 r2.2.2 Ab Ab) rfl (A8 ?_)
 refine Fq rfl ?_
 refine Am A0 false 1 rfl rfl rfl A7 rfl (A4 B2) ?_
 refine A3 [0,2] A7 ⟨?_,?_,trivial⟩
 focus
  refine A8 ?_
  refine A6 (A3 [2] A7 ⟨A8 ?_,trivial⟩)
  refine Aj (A04 d r2.1 r2.2.1 40 Aw hr2.1) hH hp rfl Ay rfl rfl (fun r3 hr3=>go A0 false ?_)
  conv=>whnf
  refine A6 (A3 [3] A7 ⟨A8 ?_,trivial⟩)
  refine Cq (R2 (Cc r.2.2 r2.2.2).1 r3.2.2 (by have:=hr3.2;omega) (by rw [hgC];show _∧_;omega)) rfl (A8 ?_)
  refine A6 ?_
  refine Am A0 false 4 rfl rfl rfl A7 rfl (A4 B2) ?_
  refine A3 [5,6] A7 ⟨?_,?_,trivial⟩
  focus
   refine A8 ?_
   refine A6 ?_
   refine A3 [6,7] A7 ⟨?_,?_,trivial⟩
   focus
    refine A8 ?_
    refine A6 (A3 [7] A7 ⟨A8 ?_,trivial⟩)
    refine A6 (Au A7 (A8 ?_))
   rotate_left 1
   focus
    refine A8 ?_
    refine A6 (A3 [6] A7 ⟨A8 ?_,trivial⟩)
    refine A6 (Au A7 (A8 ?_))
  rotate_left 2
  focus
   refine A8 ?_
   refine A6 (A3 [5] A7 ⟨A8 ?_,trivial⟩)
   refine A6 (A3 [7] A7 ⟨A8 ?_,trivial⟩)
   refine A6 (Au A7 (A8 ?_))
 rotate_left 3
 focus
  refine A8 ?_
  refine Aj (A04 d r2.1 r2.2.1 40 Aw hr2.1) hH hp rfl Ay rfl rfl (fun r3 hr3=>go A0 false ?_)
  conv=>whnf
  refine A6 (A3 [0] A7 ⟨A8 ?_,trivial⟩)
  refine A6 (A3 [3] A7 ⟨A8 ?_,trivial⟩)
  refine Cq (R2 (Cc r.2.2 r2.2.2).1 r3.2.2 (by have:=hr3.2;omega) (by rw [hgC];show _∧_;omega)) rfl (A8 ?_)
  refine A6 ?_
  refine Am A0 false 4 rfl rfl rfl A7 rfl (A4 B2) ?_
  refine A3 [5,6] A7 ⟨?_,?_,trivial⟩
  focus
   refine A8 ?_
   refine A6 ?_
   refine A3 [6,7] A7 ⟨?_,?_,trivial⟩
   focus
    refine A8 ?_
    refine A6 (A3 [7] A7 ⟨A8 ?_,trivial⟩)
    refine A6 (Au A7 (A8 ?_))
   rotate_left 1
   focus
    refine A8 ?_
    refine A6 (A3 [6] A7 ⟨A8 ?_,trivial⟩)
    refine A6 (Au A7 (A8 ?_))
  rotate_left 2
  focus
   refine A8 ?_
   refine A6 (A3 [5] A7 ⟨A8 ?_,trivial⟩)
   refine A6 (A3 [7] A7 ⟨A8 ?_,trivial⟩)
   refine A6 (Au A7 (A8 ?_))
 all_goals
  have hpk:=hr3.2
  have hrw:=Pm (c:=(Cc r.2.2 r2.2.2).1) (l:=r3.2.2)
  have hgX:(Bi (Cc r.2.2 r2.2.2).1 r3.2.2).1.graph=r.2.2:=(O3 _ _).2.2.2.trans hgC
  refine Aj (Q7 d r3.1 r3.2.1 4 hr3.1 Aw) hH hp rfl Ay rfl rfl (fun r4 hr4=>go A0 false ?_)
  conv=>whnf
  refine ⟨fun c0=>?_,fun c0=>?_⟩<;>conv=>whnf
  ·refine Fq rfl ?_
   refine Am A0 false 1 rfl rfl rfl A7 rfl (A4 B2) ?_
   refine A3 [0,2] A7 ⟨?_,?_,trivial⟩
   focus
    refine A8 ?_
    refine A6 (A3 [2] A7 ⟨A8 ?_,trivial⟩)
    refine Aj (Ai d r4.1 r4.2.1 12 hr4 Aw) hH hp rfl Ay rfl rfl (fun r5 hr5=>go A0 false ?_)
    conv=>whnf
    refine A6 (A3 [3] A7 ⟨A8 ?_,trivial⟩)
    refine Cq (Nq (Bi (Cc r.2.2 r2.2.2).1 r3.2.2).1 r5.2.2 Ab (by rw [hgX];show _∧_;omega)) rfl (A8 ?_)
    refine A6 ?_
    refine Am A0 false 4 rfl rfl rfl A7 rfl (A4 B2) ?_
    refine A3 [5,6] A7 ⟨?_,?_,trivial⟩
    focus
     refine A8 ?_
     refine A6 ?_
     refine A3 [6,7] A7 ⟨?_,?_,trivial⟩
     focus
      refine A8 ?_
      refine A6 (A3 [7] A7 ⟨A8 ?_,trivial⟩)
      refine A6 (Au A7 (A8 ?_))
     rotate_left 1
     focus
      refine A8 ?_
      refine A6 (A3 [6] A7 ⟨A8 ?_,trivial⟩)
      refine A6 (Au A7 (A8 ?_))
    rotate_left 2
    focus
     refine A8 ?_
     refine A6 (A3 [5] A7 ⟨A8 ?_,trivial⟩)
     refine A6 (A3 [7] A7 ⟨A8 ?_,trivial⟩)
     refine A6 (Au A7 (A8 ?_))
   rotate_left 3
   focus
    refine A8 ?_
    refine Aj (Ai d r4.1 r4.2.1 12 hr4 Aw) hH hp rfl Ay rfl rfl (fun r5 hr5=>go A0 false ?_)
    conv=>whnf
    refine A6 (A3 [0] A7 ⟨A8 ?_,trivial⟩)
    refine A6 (A3 [3] A7 ⟨A8 ?_,trivial⟩)
    refine Cq (Nq (Bi (Cc r.2.2 r2.2.2).1 r3.2.2).1 r5.2.2 Ab (by rw [hgX];show _∧_;omega)) rfl (A8 ?_)
    refine A6 ?_
    refine Am A0 false 4 rfl rfl rfl A7 rfl (A4 B2) ?_
    refine A3 [5,6] A7 ⟨?_,?_,trivial⟩
    focus
     refine A8 ?_
     refine A6 ?_
     refine A3 [6,7] A7 ⟨?_,?_,trivial⟩
     focus
      refine A8 ?_
      refine A6 (A3 [7] A7 ⟨A8 ?_,trivial⟩)
      refine A6 (Au A7 (A8 ?_))
     rotate_left 1
     focus
      refine A8 ?_
      refine A6 (A3 [6] A7 ⟨A8 ?_,trivial⟩)
      refine A6 (Au A7 (A8 ?_))
    rotate_left 2
    focus
     refine A8 ?_
     refine A6 (A3 [5] A7 ⟨A8 ?_,trivial⟩)
     refine A6 (A3 [7] A7 ⟨A8 ?_,trivial⟩)
     refine A6 (Au A7 (A8 ?_))
   all_goals
    have hb:(Em r5.2.2 0 3000).toNat≤11:=by have h1:=hr5.2.2.2 Aw;have h2:=hr5.2.1;unfold Em;(repeat' split)<;>omega
    exact Bl A0 (r5.1,r5.2.1,(Dt (Em r5.2.2 0 3000).toNat (Bi (Cc r.2.2 r2.2.2).1 r3.2.2).1).1) ⟨hr5.1,r.2.2,r2.2.2,r3.2.2,_,hr.2,hr2.2,hpk,hb,rfl⟩ rfl rfl rfl rfl Ay
  repeat refine Bj ?_
  exact Bl A0 (r4.1,r4.2.1,(Bi (Cc r.2.2 r2.2.2).1 r3.2.2).1) ⟨hr4,r.2.2,r2.2.2,r3.2.2,0,hr.2,hr2.2,hpk,by decide,A9q _⟩ rfl rfl rfl rfl Ay
end Go.Proofs.YtdendlkeiaccpaaGreatDoor
