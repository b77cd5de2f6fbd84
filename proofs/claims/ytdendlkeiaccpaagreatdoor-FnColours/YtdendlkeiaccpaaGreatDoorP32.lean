/- Part 32 of the proof that each of the laws FnColours returns true for every input. No conditions. -/
import Derived.Test.YtdendlkeiaccpaaGreatDoorP31
import Derived.Test.YtdendlkeiaccpaaGreatDoorP26
import Derived.Test.YtdendlkeiaccpaaGreatDoorP27
import Derived.Test.YtdendlkeiaccpaaGreatDoorP28
import Derived.Test.YtdendlkeiaccpaaGreatDoorP22

set_option linter.unusedSimpArgs false
set_option linter.unusedVariables false
set_option maxRecDepth 100000
namespace Go.Proofs.YtdendlkeiaccpaaGreatDoor
open Go.Sx
set_option maxHeartbeats 4000000 in
theorem Kg (x:A3)(most:Int)(h:x.w≤6000000)(og:Eu .i64 x.graph.workers):Be Tryz.prog 24 [.agg x.c,.one (vi most)] [.agg (D7 (Dw most 0 3000).toNat x).1.c,.one (vi (D7 (Dw most 0 3000).toNat x).2)]:=by
 have hb:=H8 most 0 3000 Az
 have hal:=J8 x
 obtain ⟨n,hn⟩:∃n:Nat,Dw most 0 3000=n:=⟨(Dw most 0 3000).toNat,by omega⟩
 rw [hn,Int.toNat_natCast]
 refine B5 A0 false Tryz.func24 rfl Az fun W=>?_
 conv=>whnf
 have hp:Kv ⟨W,fun _=>False⟩ []:=fun _ h=>by cases h
 have hH:∀w,Ba.rel ⟨W,fun _=>False⟩ w→True:=fun _ _=>trivial
 refine Tp (Ti x Ac) hp rfl (fun r hr=>go A0 false ?_)
 conv=>whnf
 refine Cn (A1z x) rfl (A8 ?_)
 refine At (M5 most 0 3000) rfl (A8 ?_)
 rw [hn]
 refine C0 A0 false [] (fun k:Nat=>[(8,.c (vi (k+1)))]) (fun k=>[⟨2,[.own 3,.c (vi (frN x k).graph.workers),.c (vi (frN x k).graph.cap),.own 4,.own 5,.own 6,.own 7,.c (vb (B9 (frN x k)))]⟩,⟨1,[.c (.val (.slice none 0 0)),.c (vi 0),.c (vi 0),.c (.val (.slice none 0 0)),.c (.val (.slice none 0 0)),.c (.val (.slice none 0 0)),.c (.val (.slice none 0 0))]⟩]) (fun k=>[⟨8,Ez (Kl (Gf x))⟩,⟨3,Bn (frN x k).graph.nodes⟩,⟨4,Al (frN x k).workers⟩,⟨5,Cf (frN x k).links⟩,⟨6,Bo (frN x k).tokens⟩,⟨7,C5 (frN x k).news⟩])
  (fun k=>k≤n∧∀i,i<k→(Bt (frN x i)).2≠0) (fun k=>n-k) 0 ⟨Nat.zero_le _,by first|rfl|assumption|simp⟩ ⟨G3,trivial⟩ Cg ⟨Ek,Ek,Ek,Ek,Ek,Ek,trivial⟩ Co A7 (fun k hk=>?_)
 obtain ⟨hk,he⟩:=hk
 conv=>whnf
 conv=>whnf
 refine ⟨fun hlt=>?_,fun hlt=>?_⟩<;>conv=>whnf
 ·have hlt:k<n:=by have:=of_decide_eq_true hlt;omega
  have hw:=B7g x k
  have hP:Gf (frN x k)=Gf x:=B30 (Z6 x k)
  have hF1:(Bg (frN x k) (Kl (Gf x))).1=frN x (k+1):=by
   show _=(Bt (frN x k)).1
   unfold Bt
   rw [hP]
  have hF2:cnt (frN x k) (Kl (Gf x))=(Bt (frN x k)).2:=by
   unfold Bt cnt
   rw [hP]
  refine Ak (B0r (frN x k) (Kl (Gf x)) Ac (by rw [Z6];exact og)) hH hp rfl B1 rfl rfl (fun r2 hr2=>go A0 false ?_)
  conv=>whnf
  rw [hF1,hF2]
  refine ⟨fun h0=>have h0:=eq_of_beq h0;?_,fun h0=>have h0:=beq_eq_false_iff_ne.1 h0;?_⟩<;>conv=>whnf
  ·have h0:(Bt (frN x k)).2=0:=by omega
   repeat refine Bd ?_
   rw [Rs hlt he h0]
   refine Ap A0 rfl rfl ?_
   exact B1
  have h0:(Bt (frN x k)).2≠0:=by omega
  (repeat refine An ?_)
  refine B8 [(3,9),(4,10),(5,11),(6,12),(7,13)] (k+1) ⟨by omega,fun i hi=>(Nat.lt_succ_iff_lt_or_eq.1 hi).elim (fun h4=>he i h4) (fun h4=>by subst h4;exact h0)⟩ Ac ⟨rfl,trivial⟩ ⟨rfl,rfl,rfl,rfl,rfl,rfl,trivial⟩ Cg A7 Co A7
 have hlt:¬ k<n:=by have:=of_decide_eq_false hlt;omega
 obtain rfl:k=n:=by omega
 repeat refine Bd ?_
 rw [Rq he]
 refine Ap A0 rfl rfl ?_
 exact B1
def Oa (c d:A3):Prop:=d.workers.length=c.workers.length∧d.links.length=c.links.length∧d.tokens.length=c.tokens.length∧d.graph=c.graph
theorem S4 (c:A3):Oa c c:=⟨rfl,rfl,rfl,rfl⟩
theorem Oa.trans {a b c:A3}(h:Oa a b)(g:Oa b c):Oa a c:=⟨g.1.trans h.1,g.2.1.trans h.2.1,g.2.2.1.trans h.2.2.1,g.2.2.2.trans h.2.2.2⟩
theorem B0u (c:A3)(p:C7):Oa c (Aj c p).1:=by
 unfold Aj
 split
 ·unfold Df;split<;>simp [Oa,B3]
 split
 ·unfold Cz;split<;>simp [Oa,B3]
 split
 ·unfold C3;(repeat' split)<;>simp [Oa,B3,C2]
 split
 ·unfold Cm;split<;>simp [Oa,B3,C2]
 split
 ·unfold Cy;split<;>simp [Oa,C2]
 split
 ·unfold Bc F2;dsimp only;(repeat' split)<;>simp [Oa,B3,C9,Gk]
 split
 ·unfold D5;(repeat' split)<;>simp [Oa,B3,I8]
 exact S4 c
theorem Jv (c:A3)(l:List C7):Oa c (Bg c l).1:=by
 have:∀(l:List C7) (s:A3×List Bool),Oa s.1 (l.foldl Dy s).1:=by
  intro l
  induction l with
  |nil=>intro s;exact S4 _
  |cons p l ih=>intro s;exact (B0u s.1 p).trans (ih (Dy s p))
 exact this l (c,[])
theorem Rr (n:Nat):∀c:A3,Oa c (D7 n c).1:=by
 induction n with
 |zero=>intro c;exact S4 c
 |succ n ih=>
  intro c
  rw [D7]
  split
  ·exact Jv c _
  exact (Jv c _).trans (ih _)
def Qi (c:A3):Prop:=∃(g:Aq) (ins:List Ae) (pk:List C7) (m:Nat),(A5d g∧A0e g)∧B43 ins∧pk.length≤40∧m≤11∧c=(D7 m (Bg (B4 g ins).1 pk).1).1
structure B7q (c:A3):Prop where
 w:c.w≤5000
 k:0<c.workers.length
 l:0<c.links.length
 t:c.tokens.length=4
 g:(1≤c.graph.workers∧c.graph.workers≤3)∧c.graph.w≤64
theorem Kx {c:A3}(h:Qi c):B7q c:=by
 obtain ⟨g,ins,pk,m,⟨hgd,hgs⟩,hin,hpk,hm,rfl⟩:=h
 have hN:=Uw hgs hin
 have hw:=B7h (g:=g) (l:=ins)
 have hr:=Mc (c:=(B4 g ins).1) (l:=pk)
 have hf:=Pn m (Bg (B4 g ins).1 pk).1
 have hgw:=hgd.1
 obtain ⟨h1,h2,h3,h4⟩:=(Jv (B4 g ins).1 pk).trans (Rr m (Bg (B4 g ins).1 pk).1)
 have hw1:=hgs.1
 have hn:0<g.workers.toNat:=by omega
 have e1:(B4 g ins).1.workers.length=g.workers.toNat:=by rw [Jz hN];exact Wm _ _ _
 have e2:(B4 g ins).1.links.length=g.workers.toNat * g.workers.toNat:=by rw [Jz hN];exact List.length_replicate
 have e3:(B4 g ins).1.tokens.length=4:=by rw [Jz hN];rfl
 have e4:(B4 g ins).1.graph=g:=by rw [Jz hN]
 refine ⟨by omega,by rw [h1,e1];exact hn,by rw [h2,e2];exact Nat.mul_pos hn hn,h3.trans e3,?_⟩
 rw [h4,e4]
 exact ⟨hw1,hgw⟩
theorem B2j (c:A3):c=(D7 0 c).1:=rfl
set_option maxHeartbeats 4000000 in
theorem Qr (d:E4)(i h:Int)(hi:0≤i∧i≤d.n):Dd Tryz.prog HT 42 d.pins (d.cur i h) [] (fun r:Int×Int×A3=>(0≤r.1∧r.1≤d.n)∧Qi r.2.2) (fun r=>d.cur r.1 r.2.1) (fun r=>[.agg r.2.2.c]):=by
 refine Dp A0 false Tryz.func42 rfl Az fun B b hH hp=>?_
 conv=>whnf
 refine Ak (Yw d i h hi) hH hp rfl B1 rfl rfl (fun r hr=>go A0 false ?_)
 conv=>whnf
 refine Ak (Yx d r.1 r.2.1 hr.1) hH hp rfl B1 rfl rfl (fun r2 hr2=>go A0 false ?_)
 conv=>whnf
 have hN:=Uw hr.2.2 hr2.2
 have hgw:=hr.2.1.1
 have hil:=hr2.2.1
 have hw:=B7h (g:=r.2.2) (l:=r2.2.2)
 have hgC:(B4 r.2.2 r2.2.2).1.graph=r.2.2:=by rw [Jz hN]
 have hww:=hr.2.2.1
 refine Cn (Xi r.2.2 r2.2.2 Ac Ac) rfl (A8 ?_)
 refine Fx rfl ?_
 refine Ao A0 false 1 rfl rfl rfl A7 rfl (A5 Bb) ?_
 refine A4 [0,2] A7 ⟨?_,?_,trivial⟩
 focus
  refine A8 ?_
  refine A6 (A4 [2] A7 ⟨A8 ?_,trivial⟩)
  refine Ak (A23 d r2.1 r2.2.1 40 Az hr2.1) hH hp rfl B1 rfl rfl (fun r3 hr3=>go A0 false ?_)
  conv=>whnf
  refine A6 (A4 [3] A7 ⟨A8 ?_,trivial⟩)
  refine Cn (Jh (B4 r.2.2 r2.2.2).1 r3.2.2 (by have:=hr3.2;omega) (by rw [hgC];show _∧_;omega)) rfl (A8 ?_)
  refine A6 ?_
  refine Ao A0 false 4 rfl rfl rfl A7 rfl (A5 Bb) ?_
  refine A4 [5,6] A7 ⟨?_,?_,trivial⟩
  focus
   refine A8 ?_
   refine A6 ?_
   refine A4 [6,7] A7 ⟨?_,?_,trivial⟩
   focus
    refine A8 ?_
    refine A6 (A4 [7] A7 ⟨A8 ?_,trivial⟩)
    refine A6 (B2 A7 (A8 ?_))
   rotate_left 1
   focus
    refine A8 ?_
    refine A6 (A4 [6] A7 ⟨A8 ?_,trivial⟩)
    refine A6 (B2 A7 (A8 ?_))
  rotate_left 2
  focus
   refine A8 ?_
   refine A6 (A4 [5] A7 ⟨A8 ?_,trivial⟩)
   refine A6 (A4 [7] A7 ⟨A8 ?_,trivial⟩)
   refine A6 (B2 A7 (A8 ?_))
 rotate_left 3
 focus
  refine A8 ?_
  refine Ak (A23 d r2.1 r2.2.1 40 Az hr2.1) hH hp rfl B1 rfl rfl (fun r3 hr3=>go A0 false ?_)
  conv=>whnf
  refine A6 (A4 [0] A7 ⟨A8 ?_,trivial⟩)
  refine A6 (A4 [3] A7 ⟨A8 ?_,trivial⟩)
  refine Cn (Jh (B4 r.2.2 r2.2.2).1 r3.2.2 (by have:=hr3.2;omega) (by rw [hgC];show _∧_;omega)) rfl (A8 ?_)
  refine A6 ?_
  refine Ao A0 false 4 rfl rfl rfl A7 rfl (A5 Bb) ?_
  refine A4 [5,6] A7 ⟨?_,?_,trivial⟩
  focus
   refine A8 ?_
   refine A6 ?_
   refine A4 [6,7] A7 ⟨?_,?_,trivial⟩
   focus
    refine A8 ?_
    refine A6 (A4 [7] A7 ⟨A8 ?_,trivial⟩)
    refine A6 (B2 A7 (A8 ?_))
   rotate_left 1
   focus
    refine A8 ?_
    refine A6 (A4 [6] A7 ⟨A8 ?_,trivial⟩)
    refine A6 (B2 A7 (A8 ?_))
  rotate_left 2
  focus
   refine A8 ?_
   refine A6 (A4 [5] A7 ⟨A8 ?_,trivial⟩)
   refine A6 (A4 [7] A7 ⟨A8 ?_,trivial⟩)
   refine A6 (B2 A7 (A8 ?_))
 all_goals
  have hpk:=hr3.2
  have hrw:=Mc (c:=(B4 r.2.2 r2.2.2).1) (l:=r3.2.2)
  have hgX:(Bg (B4 r.2.2 r2.2.2).1 r3.2.2).1.graph=r.2.2:=(Jv _ _).2.2.2.trans hgC
  refine Ak (Lt d r3.1 r3.2.1 4 hr3.1 Az) hH hp rfl B1 rfl rfl (fun r4 hr4=>go A0 false ?_)
  conv=>whnf
  refine ⟨fun c0=>?_,fun c0=>?_⟩<;>conv=>whnf
  ·refine Fx rfl ?_
   refine Ao A0 false 1 rfl rfl rfl A7 rfl (A5 Bb) ?_
   refine A4 [0,2] A7 ⟨?_,?_,trivial⟩
   focus
    refine A8 ?_
    refine A6 (A4 [2] A7 ⟨A8 ?_,trivial⟩)
    refine Ak (Ai d r4.1 r4.2.1 12 hr4 Az) hH hp rfl B1 rfl rfl (fun r5 hr5=>go A0 false ?_)
    conv=>whnf
    refine A6 (A4 [3] A7 ⟨A8 ?_,trivial⟩)
    refine Cn (Kg (Bg (B4 r.2.2 r2.2.2).1 r3.2.2).1 r5.2.2 Ac (by rw [hgX];show _∧_;omega)) rfl (A8 ?_)
    refine A6 ?_
    refine Ao A0 false 4 rfl rfl rfl A7 rfl (A5 Bb) ?_
    refine A4 [5,6] A7 ⟨?_,?_,trivial⟩
    focus
     refine A8 ?_
     refine A6 ?_
     refine A4 [6,7] A7 ⟨?_,?_,trivial⟩
     focus
      refine A8 ?_
      refine A6 (A4 [7] A7 ⟨A8 ?_,trivial⟩)
      refine A6 (B2 A7 (A8 ?_))
     rotate_left 1
     focus
      refine A8 ?_
      refine A6 (A4 [6] A7 ⟨A8 ?_,trivial⟩)
      refine A6 (B2 A7 (A8 ?_))
    rotate_left 2
    focus
     refine A8 ?_
     refine A6 (A4 [5] A7 ⟨A8 ?_,trivial⟩)
     refine A6 (A4 [7] A7 ⟨A8 ?_,trivial⟩)
     refine A6 (B2 A7 (A8 ?_))
   rotate_left 3
   focus
    refine A8 ?_
    refine Ak (Ai d r4.1 r4.2.1 12 hr4 Az) hH hp rfl B1 rfl rfl (fun r5 hr5=>go A0 false ?_)
    conv=>whnf
    refine A6 (A4 [0] A7 ⟨A8 ?_,trivial⟩)
    refine A6 (A4 [3] A7 ⟨A8 ?_,trivial⟩)
    refine Cn (Kg (Bg (B4 r.2.2 r2.2.2).1 r3.2.2).1 r5.2.2 Ac (by rw [hgX];show _∧_;omega)) rfl (A8 ?_)
    refine A6 ?_
    refine Ao A0 false 4 rfl rfl rfl A7 rfl (A5 Bb) ?_
    refine A4 [5,6] A7 ⟨?_,?_,trivial⟩
    focus
     refine A8 ?_
     refine A6 ?_
     refine A4 [6,7] A7 ⟨?_,?_,trivial⟩
     focus
      refine A8 ?_
      refine A6 (A4 [7] A7 ⟨A8 ?_,trivial⟩)
      refine A6 (B2 A7 (A8 ?_))
     rotate_left 1
     focus
      refine A8 ?_
      refine A6 (A4 [6] A7 ⟨A8 ?_,trivial⟩)
      refine A6 (B2 A7 (A8 ?_))
    rotate_left 2
    focus
     refine A8 ?_
     refine A6 (A4 [5] A7 ⟨A8 ?_,trivial⟩)
     refine A6 (A4 [7] A7 ⟨A8 ?_,trivial⟩)
     refine A6 (B2 A7 (A8 ?_))
   all_goals
    have hb:(Dw r5.2.2 0 3000).toNat≤11:=by have h1:=hr5.2.2.2 Az;have h2:=hr5.2.1;unfold Dw;(repeat' split)<;>omega
    exact Bu A0 (r5.1,r5.2.1,(D7 (Dw r5.2.2 0 3000).toNat (Bg (B4 r.2.2 r2.2.2).1 r3.2.2).1).1) ⟨hr5.1,r.2.2,r2.2.2,r3.2.2,_,hr.2,hr2.2,hpk,hb,rfl⟩ rfl rfl rfl rfl B1
  repeat refine Bd ?_
  exact Bu A0 (r4.1,r4.2.1,(Bg (B4 r.2.2 r2.2.2).1 r3.2.2).1) ⟨hr4,r.2.2,r2.2.2,r3.2.2,0,hr.2,hr2.2,hpk,by decide,B2j _⟩ rfl rfl rfl rfl B1
end Go.Proofs.YtdendlkeiaccpaaGreatDoor
