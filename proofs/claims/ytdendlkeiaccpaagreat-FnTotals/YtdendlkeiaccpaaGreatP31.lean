/- Part 31 of the proof that each of the laws FnTotals returns true for every input. No conditions. -/
import Derived.Test.YtdendlkeiaccpaaGreatP30
import Derived.Test.YtdendlkeiaccpaaGreatP25
import Derived.Test.YtdendlkeiaccpaaGreatP26
import Derived.Test.YtdendlkeiaccpaaGreatP27
import Derived.Test.YtdendlkeiaccpaaGreatP20

set_option linter.unusedSimpArgs false
set_option linter.unusedVariables false
set_option maxRecDepth 100000
namespace Go.Proofs.YtdendlkeiaccpaaGreat
open Go.Sx
set_option maxHeartbeats 4000000 in
theorem Sa (x:A6)(most:Int)(h:x.w≤6000000)(og:Et .i64 x.graph.workers):Bi Tryz.prog 85 [.agg x.c,.one (vi most)] [.agg (Dz (Ed most 0 3000).toNat x).1.c,.one (vi (Dz (Ed most 0 3000).toNat x).2)]:=by
 have hb:=G8 most 0 3000 Aw
 have hal:=Tc x
 obtain ⟨n,hn⟩:∃n:Nat,Ed most 0 3000=n:=⟨(Ed most 0 3000).toNat,by omega⟩
 rw [hn,Int.toNat_natCast]
 refine Bd A0 false Tryz.func85 rfl Aw fun W=>?_
 conv=>whnf
 have hp:K8 ⟨W,fun _=>False⟩ []:=fun _ h=>by cases h
 have hH:∀w,B0.rel ⟨W,fun _=>False⟩ w→True:=fun _ _=>trivial
 refine A4e (Xl x Ab) hp rfl (fun r hr=>go A0 false ?_)
 conv=>whnf
 refine Cx (Z3 x) rfl (A8 ?_)
 refine Az (Ku most 0 3000) rfl (A8 ?_)
 rw [hn]
 refine Bv A0 false [] (fun k:Nat=>[(8,.c (vi (k+1)))]) (fun k=>[⟨2,[.own 3,.c (vi (Ml x k).graph.workers),.c (vi (Ml x k).graph.cap),.own 4,.own 5,.own 6,.own 7,.c (vb (B3 (Ml x k)))]⟩,⟨1,[.c (.val (.slice none 0 0)),.c (vi 0),.c (vi 0),.c (.val (.slice none 0 0)),.c (.val (.slice none 0 0)),.c (.val (.slice none 0 0)),.c (.val (.slice none 0 0))]⟩]) (fun k=>[⟨8,F7 (Qv (Hb x))⟩,⟨3,Br (Ml x k).graph.nodes⟩,⟨4,Ar (Ml x k).workers⟩,⟨5,Ct (Ml x k).links⟩,⟨6,C9 (Ml x k).tokens⟩,⟨7,Ch (Ml x k).news⟩])
  (fun k=>k≤n∧∀i,i<k→(Cp (Ml x i)).2≠0) (fun k=>n-k) 0 ⟨Nat.zero_le _,by first|rfl|assumption|simp⟩ ⟨F3,trivial⟩ Cf ⟨F2,F2,F2,F2,F2,F2,trivial⟩ Cj A7 (fun k hk=>?_)
 obtain ⟨hk,he⟩:=hk
 conv=>whnf
 conv=>whnf
 refine ⟨fun hlt=>?_,fun hlt=>?_⟩<;>conv=>whnf
 ·have hlt:k<n:=by have:=of_decide_eq_true hlt;omega
  have hw:=B5h x k
  have hP:Hb (Ml x k)=Hb x:=B0m (X1 x k)
  have hF1:(Bk (Ml x k) (Qv (Hb x))).1=Ml x (k+1):=by
   show _=(Cp (Ml x k)).1
   unfold Cp
   rw [hP]
  have hF2:cnt (Ml x k) (Qv (Hb x))=(Cp (Ml x k)).2:=by
   unfold Cp cnt
   rw [hP]
  refine Ai (A7g (Ml x k) (Qv (Hb x)) Ab (by rw [X1];exact og)) hH hp rfl At rfl rfl (fun r2 hr2=>go A0 false ?_)
  conv=>whnf
  rw [hF1,hF2]
  refine ⟨fun h0=>have h0:=eq_of_beq h0;?_,fun h0=>have h0:=beq_eq_false_iff_ne.1 h0;?_⟩<;>conv=>whnf
  ·have h0:(Cp (Ml x k)).2=0:=by omega
   repeat refine B7 ?_
   rw [Yb hlt he h0]
   refine B2 A0 rfl rfl ?_
   exact At
  have h0:(Cp (Ml x k)).2≠0:=by omega
  (repeat refine Am ?_)
  refine B6 [(3,9),(4,10),(5,11),(6,12),(7,13)] (k+1) ⟨by omega,fun i hi=>(Nat.lt_succ_iff_lt_or_eq.1 hi).elim (fun h4=>he i h4) (fun h4=>by subst h4;exact h0)⟩ Ab ⟨rfl,trivial⟩ ⟨rfl,rfl,rfl,rfl,rfl,rfl,trivial⟩ Cf A7 Cj A7
 have hlt:¬ k<n:=by have:=of_decide_eq_false hlt;omega
 obtain rfl:k=n:=by omega
 repeat refine B7 ?_
 rw [Y9 he]
 refine B2 A0 rfl rfl ?_
 exact At
def O0 (c d:A6):Prop:=d.workers.length=c.workers.length∧d.links.length=c.links.length∧d.tokens.length=c.tokens.length∧d.graph=c.graph
theorem U7 (c:A6):O0 c c:=⟨rfl,rfl,rfl,rfl⟩
theorem O0.trans {a b c:A6}(h:O0 a b)(g:O0 b c):O0 a c:=⟨g.1.trans h.1,g.2.1.trans h.2.1,g.2.2.1.trans h.2.2.1,g.2.2.2.trans h.2.2.2⟩
theorem A7k (c:A6)(p:D5):O0 c (As c p).1:=by
 unfold As
 split
 ·unfold E5;split<;>simp [O0,Bc]
 split
 ·unfold Dn;split<;>simp [O0,Bc]
 split
 ·unfold Ce;(repeat' split)<;>simp [O0,Bc,Cb]
 split
 ·unfold D9;split<;>simp [O0,Bc,Cb]
 split
 ·unfold Dl;split<;>simp [O0,Cb]
 split
 ·unfold Cq Ip;dsimp only;(repeat' split)<;>simp [O0,Bc,D7,Pl]
 split
 ·unfold Dw;(repeat' split)<;>simp [O0,Bc,Kq]
 exact U7 c
theorem Nw (c:A6)(l:List D5):O0 c (Bk c l).1:=by
 have:∀(l:List D5) (s:A6×List Bool),O0 s.1 (l.foldl Gh s).1:=by
  intro l
  induction l with
  |nil=>intro s;exact U7 _
  |cons p l ih=>intro s;exact (A7k s.1 p).trans (ih (Gh s p))
 exact this l (c,[])
theorem Ya (n:Nat):∀c:A6,O0 c (Dz n c).1:=by
 induction n with
 |zero=>intro c;exact U7 c
 |succ n ih=>
  intro c
  rw [Dz]
  split
  ·exact Nw c _
  exact (Nw c _).trans (ih _)
def A18 (c:A6):Prop:=∃(g:Ao) (ins:List A9) (pk:List D5) (m:Nat),(A2b g∧Xr g)∧B1s ins∧pk.length≤40∧m≤11∧c=(Dz m (Bk (Ca g ins).1 pk).1).1
structure B36 (c:A6):Prop where
 w:c.w≤5000
 k:0<c.workers.length
 l:0<c.links.length
 t:c.tokens.length=4
 g:(1≤c.graph.workers∧c.graph.workers≤3)∧c.graph.w≤64
theorem Pw {c:A6}(h:A18 c):B36 c:=by
 obtain ⟨g,ins,pk,m,⟨hgd,hgs⟩,hin,hpk,hm,rfl⟩:=h
 have hN:=Yo hgs hin
 have hw:=B3y (g:=g) (l:=ins)
 have hr:=V3 (c:=(Ca g ins).1) (l:=pk)
 have hf:=A6f m (Bk (Ca g ins).1 pk).1
 have hgw:=hgd.1
 obtain ⟨h1,h2,h3,h4⟩:=(Nw (Ca g ins).1 pk).trans (Ya m (Bk (Ca g ins).1 pk).1)
 have hw1:=hgs.1
 have hn:0<g.workers.toNat:=by omega
 have e1:(Ca g ins).1.workers.length=g.workers.toNat:=by rw [Jm hN];exact Ud _ _ _
 have e2:(Ca g ins).1.links.length=g.workers.toNat * g.workers.toNat:=by rw [Jm hN];exact List.length_replicate
 have e3:(Ca g ins).1.tokens.length=4:=by rw [Jm hN];rfl
 have e4:(Ca g ins).1.graph=g:=by rw [Jm hN]
 refine ⟨by omega,by rw [h1,e1];exact hn,by rw [h2,e2];exact Nat.mul_pos hn hn,h3.trans e3,?_⟩
 rw [h4,e4]
 exact ⟨hw1,hgw⟩
theorem A82 (c:A6):c=(Dz 0 c).1:=rfl
set_option maxHeartbeats 4000000 in
theorem A2k (d:Dy)(i h:Int)(hi:0≤i∧i≤d.n):Cr Tryz.prog HT 66 d.pins (d.cur i h) [] (fun r:Int×Int×A6=>(0≤r.1∧r.1≤d.n)∧A18 r.2.2) (fun r=>d.cur r.1 r.2.1) (fun r=>[.agg r.2.2.c]):=by
 refine Df A0 false Tryz.func66 rfl Aw fun B b hH hp=>?_
 conv=>whnf
 refine Ai (Wu d i h hi) hH hp rfl At rfl rfl (fun r hr=>go A0 false ?_)
 conv=>whnf
 refine Ai (Wv d r.1 r.2.1 hr.1) hH hp rfl At rfl rfl (fun r2 hr2=>go A0 false ?_)
 conv=>whnf
 have hN:=Yo hr.2.2 hr2.2
 have hgw:=hr.2.1.1
 have hil:=hr2.2.1
 have hw:=B3y (g:=r.2.2) (l:=r2.2.2)
 have hgC:(Ca r.2.2 r2.2.2).1.graph=r.2.2:=by rw [Jm hN]
 have hww:=hr.2.2.1
 refine Cx (Va r.2.2 r2.2.2 Ab Ab) rfl (A8 ?_)
 refine Fk rfl ?_
 refine Aj A0 false 1 rfl rfl rfl A7 rfl (A4 B1) ?_
 refine A3 [0,2] A7 ⟨?_,?_,trivial⟩
 focus
  refine A8 ?_
  refine A5 (A3 [2] A7 ⟨A8 ?_,trivial⟩)
  refine Ai (A0f d r2.1 r2.2.1 40 Aw hr2.1) hH hp rfl At rfl rfl (fun r3 hr3=>go A0 false ?_)
  conv=>whnf
  refine A5 (A3 [3] A7 ⟨A8 ?_,trivial⟩)
  refine Cx (Qk (Ca r.2.2 r2.2.2).1 r3.2.2 (by have:=hr3.2;omega) (by rw [hgC];show _∧_;omega)) rfl (A8 ?_)
  refine A5 ?_
  refine Aj A0 false 4 rfl rfl rfl A7 rfl (A4 B1) ?_
  refine A3 [5,6] A7 ⟨?_,?_,trivial⟩
  focus
   refine A8 ?_
   refine A5 ?_
   refine A3 [6,7] A7 ⟨?_,?_,trivial⟩
   focus
    refine A8 ?_
    refine A5 (A3 [7] A7 ⟨A8 ?_,trivial⟩)
    refine A5 (Aq A7 (A8 ?_))
   rotate_left 1
   focus
    refine A8 ?_
    refine A5 (A3 [6] A7 ⟨A8 ?_,trivial⟩)
    refine A5 (Aq A7 (A8 ?_))
  rotate_left 2
  focus
   refine A8 ?_
   refine A5 (A3 [5] A7 ⟨A8 ?_,trivial⟩)
   refine A5 (A3 [7] A7 ⟨A8 ?_,trivial⟩)
   refine A5 (Aq A7 (A8 ?_))
 rotate_left 3
 focus
  refine A8 ?_
  refine Ai (A0f d r2.1 r2.2.1 40 Aw hr2.1) hH hp rfl At rfl rfl (fun r3 hr3=>go A0 false ?_)
  conv=>whnf
  refine A5 (A3 [0] A7 ⟨A8 ?_,trivial⟩)
  refine A5 (A3 [3] A7 ⟨A8 ?_,trivial⟩)
  refine Cx (Qk (Ca r.2.2 r2.2.2).1 r3.2.2 (by have:=hr3.2;omega) (by rw [hgC];show _∧_;omega)) rfl (A8 ?_)
  refine A5 ?_
  refine Aj A0 false 4 rfl rfl rfl A7 rfl (A4 B1) ?_
  refine A3 [5,6] A7 ⟨?_,?_,trivial⟩
  focus
   refine A8 ?_
   refine A5 ?_
   refine A3 [6,7] A7 ⟨?_,?_,trivial⟩
   focus
    refine A8 ?_
    refine A5 (A3 [7] A7 ⟨A8 ?_,trivial⟩)
    refine A5 (Aq A7 (A8 ?_))
   rotate_left 1
   focus
    refine A8 ?_
    refine A5 (A3 [6] A7 ⟨A8 ?_,trivial⟩)
    refine A5 (Aq A7 (A8 ?_))
  rotate_left 2
  focus
   refine A8 ?_
   refine A5 (A3 [5] A7 ⟨A8 ?_,trivial⟩)
   refine A5 (A3 [7] A7 ⟨A8 ?_,trivial⟩)
   refine A5 (Aq A7 (A8 ?_))
 all_goals
  have hpk:=hr3.2
  have hrw:=V3 (c:=(Ca r.2.2 r2.2.2).1) (l:=r3.2.2)
  have hgX:(Bk (Ca r.2.2 r2.2.2).1 r3.2.2).1.graph=r.2.2:=(Nw _ _).2.2.2.trans hgC
  refine Ai (Pu d r3.1 r3.2.1 4 hr3.1 Aw) hH hp rfl At rfl rfl (fun r4 hr4=>go A0 false ?_)
  conv=>whnf
  refine ⟨fun c0=>?_,fun c0=>?_⟩<;>conv=>whnf
  ·refine Fk rfl ?_
   refine Aj A0 false 1 rfl rfl rfl A7 rfl (A4 B1) ?_
   refine A3 [0,2] A7 ⟨?_,?_,trivial⟩
   focus
    refine A8 ?_
    refine A5 (A3 [2] A7 ⟨A8 ?_,trivial⟩)
    refine Ai (Ah d r4.1 r4.2.1 12 hr4 Aw) hH hp rfl At rfl rfl (fun r5 hr5=>go A0 false ?_)
    conv=>whnf
    refine A5 (A3 [3] A7 ⟨A8 ?_,trivial⟩)
    refine Cx (Sa (Bk (Ca r.2.2 r2.2.2).1 r3.2.2).1 r5.2.2 Ab (by rw [hgX];show _∧_;omega)) rfl (A8 ?_)
    refine A5 ?_
    refine Aj A0 false 4 rfl rfl rfl A7 rfl (A4 B1) ?_
    refine A3 [5,6] A7 ⟨?_,?_,trivial⟩
    focus
     refine A8 ?_
     refine A5 ?_
     refine A3 [6,7] A7 ⟨?_,?_,trivial⟩
     focus
      refine A8 ?_
      refine A5 (A3 [7] A7 ⟨A8 ?_,trivial⟩)
      refine A5 (Aq A7 (A8 ?_))
     rotate_left 1
     focus
      refine A8 ?_
      refine A5 (A3 [6] A7 ⟨A8 ?_,trivial⟩)
      refine A5 (Aq A7 (A8 ?_))
    rotate_left 2
    focus
     refine A8 ?_
     refine A5 (A3 [5] A7 ⟨A8 ?_,trivial⟩)
     refine A5 (A3 [7] A7 ⟨A8 ?_,trivial⟩)
     refine A5 (Aq A7 (A8 ?_))
   rotate_left 3
   focus
    refine A8 ?_
    refine Ai (Ah d r4.1 r4.2.1 12 hr4 Aw) hH hp rfl At rfl rfl (fun r5 hr5=>go A0 false ?_)
    conv=>whnf
    refine A5 (A3 [0] A7 ⟨A8 ?_,trivial⟩)
    refine A5 (A3 [3] A7 ⟨A8 ?_,trivial⟩)
    refine Cx (Sa (Bk (Ca r.2.2 r2.2.2).1 r3.2.2).1 r5.2.2 Ab (by rw [hgX];show _∧_;omega)) rfl (A8 ?_)
    refine A5 ?_
    refine Aj A0 false 4 rfl rfl rfl A7 rfl (A4 B1) ?_
    refine A3 [5,6] A7 ⟨?_,?_,trivial⟩
    focus
     refine A8 ?_
     refine A5 ?_
     refine A3 [6,7] A7 ⟨?_,?_,trivial⟩
     focus
      refine A8 ?_
      refine A5 (A3 [7] A7 ⟨A8 ?_,trivial⟩)
      refine A5 (Aq A7 (A8 ?_))
     rotate_left 1
     focus
      refine A8 ?_
      refine A5 (A3 [6] A7 ⟨A8 ?_,trivial⟩)
      refine A5 (Aq A7 (A8 ?_))
    rotate_left 2
    focus
     refine A8 ?_
     refine A5 (A3 [5] A7 ⟨A8 ?_,trivial⟩)
     refine A5 (A3 [7] A7 ⟨A8 ?_,trivial⟩)
     refine A5 (Aq A7 (A8 ?_))
   all_goals
    have hb:(Ed r5.2.2 0 3000).toNat≤11:=by have h1:=hr5.2.2.2 Aw;have h2:=hr5.2.1;unfold Ed;(repeat' split)<;>omega
    exact Bm A0 (r5.1,r5.2.1,(Dz (Ed r5.2.2 0 3000).toNat (Bk (Ca r.2.2 r2.2.2).1 r3.2.2).1).1) ⟨hr5.1,r.2.2,r2.2.2,r3.2.2,_,hr.2,hr2.2,hpk,hb,rfl⟩ rfl rfl rfl rfl At
  repeat refine B7 ?_
  exact Bm A0 (r4.1,r4.2.1,(Bk (Ca r.2.2 r2.2.2).1 r3.2.2).1) ⟨hr4,r.2.2,r2.2.2,r3.2.2,0,hr.2,hr2.2,hpk,by decide,A82 _⟩ rfl rfl rfl rfl At
end Go.Proofs.YtdendlkeiaccpaaGreat
