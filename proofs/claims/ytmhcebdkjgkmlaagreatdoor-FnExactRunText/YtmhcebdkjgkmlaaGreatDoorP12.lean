/- Part 12 of the proof that each of the laws FnExactWhoIsDone, FnExactResultText, FnExactRunText returns true for every input. No conditions. -/
import Derived.Test.YtmhcebdkjgkmlaaGreatDoorP11

set_option linter.unusedSimpArgs false
set_option linter.unusedVariables false
set_option maxRecDepth 100000
namespace Go.Proofs.YtmhcebdkjgkmlaaGreatDoor
open Go.Sx
variable {l : ByteArray}
theorem A1s (h:A55 l):Nk l 1=true∧(Dr l 1).length=2:=by
 obtain ⟨h1,h2,_,h4,h5⟩:=h
 have hok:Nk l 1=true:=by
  rw [Nk,h1,Dg (by omega:1≤(A5 l).length),Qf];generalize A5 l=p at h2 h4 h5
  match p,h2 with
  | [a,b,c],_=>
   simp only [X2,A0s,X0,List.all_nil,A3t];rw [show U7 b=true from h4,show U7 c=true from h5]
   rfl
 refine ⟨hok,?_⟩;rw [(Km hok).1,Hj,h2]
theorem B15 (h:Nk l 1=true)(hn:(Dr l 1).length=2):Gc l=true∧(A5 l).length=3∧U7 ((A5 l).getD 1 default)=true∧U7 ((A5 l).getD 2 default)=true∧Dr l 1=[Sd ((A5 l).getD 1 default),Sd ((A5 l).getD 2 default)]:=by
 have hi:=(Km h).1;rw [hi] at hn ⊢;rw [Nk,Ce,Ce] at h;obtain ⟨⟨h1,h2⟩,h3⟩:=h;rw [Hj] at hn;have hl:(A5 l).length=3:=by have:=Bj h2;omega
 rw [Qf] at h3;rw [Gh];refine ⟨h1,hl,?_⟩;generalize A5 l=p at hl h3
 match p,hl with
 | [a,b,c],_=>
  simp only [X2,A0s,X0,List.all_nil,A3t,Ce] at h3;exact ⟨h3.1,h3.2,rfl⟩
theorem X8 {t:St}{r:Db×Bool}(c:t.1=true)(hst:I8 t l=Mn t.2 l∧Nm t l=(true,Vc t.2 l))(h:B8i t.2 l r)(hr:r.2=true):I8 t l=true∧Nm t l=(t.1,r.1):=by
 have h1:Mn t.2 l=true:=by rw [←h.1];exact hr
 exact ⟨hst.1.trans h1,by rw [hst.2,c,h.2 h1]⟩
theorem Xg {t:St}(hst:I8 t l=decide (A55 l)∧Nm t l=(true,⟨⟨t.2.az.ak,Sd ((A5 l).getD 1 default),Sd ((A5 l).getD 2 default)⟩,t.2.au,t.2.aa,t.2.bq⟩))(h:A55 l)(hn:Dr l 1=[Sd ((A5 l).getD 1 default),Sd ((A5 l).getD 2 default)]):I8 t l=true∧Nm t l=(true,⟨⟨t.2.az.ak,(Dr l 1).getD 0 default,(Dr l 1).getD 1 default⟩,t.2.au,t.2.aa,t.2.bq⟩):=
 ⟨hst.1.trans (Dg h),by rw [hst.2,hn];rfl⟩
set_option maxHeartbeats 2000000 in
theorem A7p (x:ByteArray)(hx:x.size≤1048576):Dy Tryz.prog Vb 31 [.one (vs x)] [.agg (B6 x).1.c,.one (vi (B6 x).2)]:=by
 refine Ga A0 false Tryz.func31 rfl Cw fun W hW=>?_;conv=>whnf
 refine Eh (fun h0=>?_) fun h0=>?_
 ·have h0:12000<x.size:=by omega
  refine An A0 rfl rfl ?_;rw [We h0];exact Mm
 have h0:¬ 12000<x.size:=by omega
 have hlen:=A6u x;refine B8 ?_;refine Dt (D15 x hx) B3 hW rfl (Aj ?_);have hH:∀w,Fa.rel ⟨W,fun _=>False⟩ w→Vb w:=fun w hr=>B3 W w (Pg hr) hW;have hp:Py ⟨W,fun _=>False⟩ []:=fun _ h=>by cases h
 refine Xy 1 0 4 (fun i=>D5.c (([]:List D5).getD i default)) rfl rfl ?_;refine Xy 1 3 5 (fun i=>Aa.c (([]:List Aa).getD i default)) rfl rfl ?_;refine Xy 1 4 3 (fun i=>Ea.c (([]:List Ea).getD i default)) rfl rfl ?_;refine zlW [] (fun j:JS=>[(23,.c (vi j.k)),(5,.c (vb j.t.1))]) (fun j=>[⟨1,[.own 2,.c (vi j.t.2.az.aq),.c (vi j.t.2.az.cap),.own 3,.own 4,.c (vi j.t.2.bq)]⟩,⟨0,[.c (.val (.slice none 0 0)),.c (vi 0),.c (vi 0),.c (.val (.slice none 0 0)),.c (.val (.slice none 0 0)),.c (vi 0)]⟩]) (fun j=>[⟨2,Ax j.t.2.az.ak⟩,⟨3,A9 j.t.2.au⟩,⟨4,E9 j.t.2.aa⟩]) (fun j=>j.k≤(Bk x).length∧Rz (Bk x) j.k∧j.t=Ot (Bk x) j.k) (fun j=>(Bk x).length-j.k) (⟨0,st0⟩) (⟨Fk _,fun j hj=>absurd hj (Kt _),rfl⟩) fun j hj=>?_;obtain ⟨hk,hg,ht⟩:=hj;refine Eh (fun hk2=>?_) fun hk2=>?_
 ·have hk2:j.k<(Bk x).length:=by omega
  have hl:=A7z h0 hk2;have hp0:=G3 ((Bk x).getD j.k default);have hp1:=B19 ((Bk x).getD j.k default);have hsc:A0u j.t.2:=by rw [ht];exact B2l j.k hk hg
  refine B8 ?_;refine Dt (Vy ((Bk x).getD j.k default) hl) B3 hW rfl (Aj ?_);refine Cc (fun a=>?_) fun a=>?_
  ·refine Ar ?_
   refine L8 (fun b=>?_) fun b=>?_
   ·refine Ar ?_
    have hb:Le ((Bk x).getD j.k default):=⟨a,.inl A7⟩;have hgn:=K2 hg (by rw [←ht];exact ((Kq hb)).1);refine B8 ?_;refine Ci [] (⟨j.k+1,j.t⟩) (⟨by show j.k+1≤_;omega,hgn,by show j.t=Ot _ (j.k+1);rw [J5 hk2,←ht];exact ((Kq hb)).2.symm⟩) (by show (Bk x).length-(j.k+1)<_;omega) ⟨rfl,rfl,trivial⟩ ⟨rfl,rfl,rfl,trivial⟩
   refine Ar ?_;have hx0:=hp1 _ (Am (d:=default) (show 0<(A5 ((Bk x).getD j.k default)).length by omega))
   refine B8 ?_;refine ⟨by exact ⟨A0r _,Int.natCast_pos.2 hx0⟩,?_⟩
   conv=>whnf
   refine Ar ?_;refine L8 (fun b2=>?_) fun b2=>?_
   ·refine Ar ?_
    have b2:C1 (Io ((Bk x).getD j.k default)) 0=35:=UInt8.toNat_inj.1 (Int.ofNat.inj b2);have hb:Le ((Bk x).getD j.k default):=⟨a,.inr b2⟩;have hgn:=K2 hg (by rw [←ht];exact ((Kq hb)).1);refine B8 ?_;refine Ci [] (⟨j.k+1,j.t⟩) (⟨by show j.k+1≤_;omega,hgn,by show j.t=Ot _ (j.k+1);rw [J5 hk2,←ht];exact ((Kq hb)).2.symm⟩) (by show (Bk x).length-(j.k+1)<_;omega) ⟨rfl,rfl,trivial⟩ ⟨rfl,rfl,rfl,trivial⟩
   have hb:¬ Le ((Bk x).getD j.k default):=fun c=>c.2.elim (fun c=>b A7) (fun c=>b2 (by show ((C1 (Io ((Bk x).getD j.k default)) 0).toNat:Int)=_;rw [c];rfl))
   refine Ar ?_;refine Cc (fun c=>?_) fun c=>?_
   ·have hst:=A9g hb c
    refine Ar ?_;refine B5i [.agg [.own 2,.c (vi j.t.2.az.aq),.c (vi j.t.2.az.cap),.own 3,.own 4,.c (vi j.t.2.bq)]] (C1k j.t.2 ((Bk x).getD j.k default) hsc hl) hH hp Mm rfl rfl (fun r hr=>go A0 false ?_);conv=>whnf
    refine Cc (fun d=>?_) fun d=>?_
    ·have d:r.2=false:=by simpa using d
     refine Ar ?_;refine An A0 rfl rfl ?_;rw [Do h0 hk2 hg (by rw [←ht,hst.1,←hr.1];exact d)];exact Mm
    have d:r.2=true:=by simpa using d
    refine Ar ?_;have hgn:=K2 hg (by rw [←ht];exact ((X8 c hst hr d)).1);refine B8 ?_;refine Ci [(2,5),(3,6),(4,7)] (⟨j.k+1,(j.t.1,r.1)⟩) (⟨by show j.k+1≤_;omega,hgn,by show (j.t.1,r.1)=Ot _ (j.k+1);rw [J5 hk2,←ht];exact ((X8 c hst hr d)).2.symm⟩) (by show (Bk x).length-(j.k+1)<_;omega) ⟨rfl,rfl,trivial⟩ ⟨rfl,rfl,rfl,trivial⟩
   have c:j.t.1=false:=by simpa using c
   have hst:=A3c hb c;refine Ar ?_;refine Dt (Pl ((Bk x).getD j.k default) 1 hl Cw) B3 hW rfl (Aj ?_);refine Cc (fun d0=>?_) fun d0=>?_
   ·have d0:Nk ((Bk x).getD j.k default) 1=false:=by simpa using d0
    refine Ar ?_;refine An A0 rfl rfl ?_;rw [Do h0 hk2 hg (by rw [←ht,hst.1];exact Cb fun h=>by have:=(A1s h).1;rw [d0] at this;cases this)];exact Mm
   have d0:Nk ((Bk x).getD j.k default) 1=true:=by simpa using d0
   have hpr:=T1 d0;refine Ar ?_;refine zne (fun d=>?_) fun d=>?_
   ·have d:(Dr ((Bk x).getD j.k default) 1).length≠2:=by omega
    refine Ar ?_;refine An A0 rfl rfl ?_;rw [Do h0 hk2 hg (by rw [←ht,hst.1];exact Cb fun h=>d (A1s h).2)];exact Mm
   have d:(Dr ((Bk x).getD j.k default) 1).length=2:=by omega
   obtain ⟨p1,p2,p3,p4,p5⟩:=B15 d0 d;have hpl:(S8 ((Bk x).getD j.k default) 1).length=3:=by rw [hpr];exact p2
   refine Ar ?_;refine Cc (fun g=>?_) fun g=>?_
   ·have g:Io ((Bk x).getD j.k default)≠(⟨#[103,114,97,112,104]⟩:ByteArray):=fun e=>by
     rw [hpr,show (A5 ((Bk x).getD j.k default)).getD (Int.toNat 0) default=(⟨#[103,114,97,112,104]⟩:ByteArray) from e,Ex] at g
     cases g
    refine Ar ?_;refine An A0 rfl rfl ?_;rw [Do h0 hk2 hg (by rw [←ht,hst.1];exact Cb fun h=>g h.2.2.1)];exact Mm
   have g:Io ((Bk x).getD j.k default)=(⟨#[103,114,97,112,104]⟩:ByteArray):=by
    have:=A5p g
    rw [hpr] at this;exact this
   refine Ar ?_;refine Ux rfl (Jy 0 rfl (Jy 3 rfl (Um 1 4 ?_ ?_)))
   focus
    refine B8 ?_;refine Az (Um 2 4 ?_ ?_)
    focus
     refine Az (Jy 6 rfl (Jy 7 rfl (Um 4 8 ?_ ?_)))
     focus
      refine B8 ?_;refine Az (Um 5 8 ?_ ?_)
      focus
       refine Az ?_;refine Ay [8] Ah ⟨?_,trivial⟩
      rotate_left 1
      focus
       refine Az ?_;refine Ay [5] Ah ⟨?_,trivial⟩
     rotate_left 2
     focus
      refine Az (Qo 4 ?_);refine B8 ?_;refine Az ?_;refine Ay [5] Ah ⟨?_,trivial⟩
    rotate_left 3
    focus
     refine B8 ?_;refine Az (Um 2 5 ?_ ?_)
     focus
      refine Az (Jy 6 rfl (Jy 7 rfl (Um 5 8 ?_ ?_)))
      focus
       refine Az ?_;refine Ay [8] Ah ⟨?_,trivial⟩
      rotate_left 1
      focus
       refine Az ?_;refine Ay [5] Ah ⟨?_,trivial⟩
     rotate_left 2
     focus
      refine Az (Qo 2 ?_);refine Az (Jy 6 rfl (Jy 7 rfl ?_));refine Ay [8] Ah ⟨?_,trivial⟩
   rotate_left 6
   focus
    refine B8 ?_;refine Az (Um 1 5 ?_ ?_)
    focus
     refine B8 ?_;refine Az (Um 2 5 ?_ ?_)
     focus
      refine Az (Jy 6 rfl (Jy 7 rfl (Um 5 8 ?_ ?_)))
      focus
       refine Az ?_;refine Ay [8] Ah ⟨?_,trivial⟩
      rotate_left 1
      focus
       refine Az ?_;refine Ay [5] Ah ⟨?_,trivial⟩
     rotate_left 2
     focus
      refine Az (Qo 2 ?_);refine Az (Jy 6 rfl (Jy 7 rfl ?_));refine Ay [8] Ah ⟨?_,trivial⟩
    rotate_left 3
    focus
     refine Az (Qo 1 ?_);refine B8 ?_;refine Az (Qo 2 ?_);refine Az (Jy 6 rfl (Jy 7 rfl ?_));refine Ay [8] Ah ⟨?_,trivial⟩
   all_goals
    refine Aj ?_;refine Az (Jy 9 rfl (Jy 10 rfl (Qo 11 ?_)));refine Az (Uw Ah (Aj ?_))
   all_goals
    have hgn:=K2 hg (by rw [←ht];exact ((Xg hst ⟨p1,p2,g,p3,p4⟩ p5)).1);refine B8 ?_;refine Ci [] (⟨j.k+1,(true,⟨⟨j.t.2.az.ak,(Dr ((Bk x).getD j.k default) 1).getD 0 default,(Dr ((Bk x).getD j.k default) 1).getD 1 default⟩,j.t.2.au,j.t.2.aa,j.t.2.bq⟩)⟩) (⟨by show j.k+1≤_;omega,hgn,by show (true,⟨⟨j.t.2.az.ak,(Dr ((Bk x).getD j.k default) 1).getD 0 default,(Dr ((Bk x).getD j.k default) 1).getD 1 default⟩,j.t.2.au,j.t.2.aa,j.t.2.bq⟩)=Ot _ (j.k+1);rw [J5 hk2,←ht];exact ((Xg hst ⟨p1,p2,g,p3,p4⟩ p5)).2.symm⟩) (by show (Bk x).length-(j.k+1)<_;omega) ⟨rfl,rfl,trivial⟩ ⟨rfl,rfl,rfl,trivial⟩
  have a:Gc ((Bk x).getD j.k default)=false:=by simpa using a
  have hb:¬ Le ((Bk x).getD j.k default):=fun c=>by have:=c.1;rw [a] at this;cases this
  refine Ar ?_;refine Cc (fun c=>?_) fun c=>?_
  ·have hst:=A9g hb c
   refine Ar ?_;refine B5i [.agg [.own 2,.c (vi j.t.2.az.aq),.c (vi j.t.2.az.cap),.own 3,.own 4,.c (vi j.t.2.bq)]] (C1k j.t.2 ((Bk x).getD j.k default) hsc hl) hH hp Mm rfl rfl (fun r hr=>go A0 false ?_);conv=>whnf
   refine Cc (fun d=>?_) fun d=>?_
   ·have d:r.2=false:=by simpa using d
    refine Ar ?_;refine An A0 rfl rfl ?_;rw [Do h0 hk2 hg (by rw [←ht,hst.1,←hr.1];exact d)];exact Mm
   have d:r.2=true:=by simpa using d
   refine Ar ?_;have hgn:=K2 hg (by rw [←ht];exact ((X8 c hst hr d)).1);refine B8 ?_;refine Ci [(2,5),(3,6),(4,7)] (⟨j.k+1,(j.t.1,r.1)⟩) (⟨by show j.k+1≤_;omega,hgn,by show (j.t.1,r.1)=Ot _ (j.k+1);rw [J5 hk2,←ht];exact ((X8 c hst hr d)).2.symm⟩) (by show (Bk x).length-(j.k+1)<_;omega) ⟨rfl,rfl,trivial⟩ ⟨rfl,rfl,rfl,trivial⟩
  have c:j.t.1=false:=by simpa using c
  have hst:=A3c hb c;refine Ar ?_;refine Dt (Pl ((Bk x).getD j.k default) 1 hl Cw) B3 hW rfl (Aj ?_);refine Cc (fun d0=>?_) fun d0=>?_
  ·have d0:Nk ((Bk x).getD j.k default) 1=false:=by simpa using d0
   refine Ar ?_;refine An A0 rfl rfl ?_;rw [Do h0 hk2 hg (by rw [←ht,hst.1];exact Cb fun h=>by have:=(A1s h).1;rw [d0] at this;cases this)];exact Mm
  have d0:Nk ((Bk x).getD j.k default) 1=true:=by simpa using d0
  have hpr:=T1 d0;refine Ar ?_;refine zne (fun d=>?_) fun d=>?_
  ·have d:(Dr ((Bk x).getD j.k default) 1).length≠2:=by omega
   refine Ar ?_;refine An A0 rfl rfl ?_;rw [Do h0 hk2 hg (by rw [←ht,hst.1];exact Cb fun h=>d (A1s h).2)];exact Mm
  have d:(Dr ((Bk x).getD j.k default) 1).length=2:=by omega
  obtain ⟨p1,p2,p3,p4,p5⟩:=B15 d0 d;have hpl:(S8 ((Bk x).getD j.k default) 1).length=3:=by rw [hpr];exact p2
  refine Ar ?_;refine Cc (fun g=>?_) fun g=>?_
  ·have g:Io ((Bk x).getD j.k default)≠(⟨#[103,114,97,112,104]⟩:ByteArray):=fun e=>by
    rw [hpr,show (A5 ((Bk x).getD j.k default)).getD (Int.toNat 0) default=(⟨#[103,114,97,112,104]⟩:ByteArray) from e,Ex] at g
    cases g
   refine Ar ?_;refine An A0 rfl rfl ?_;rw [Do h0 hk2 hg (by rw [←ht,hst.1];exact Cb fun h=>g h.2.2.1)];exact Mm
  have g:Io ((Bk x).getD j.k default)=(⟨#[103,114,97,112,104]⟩:ByteArray):=by
   have:=A5p g
   rw [hpr] at this;exact this
  refine Ar ?_;refine Ux rfl (Jy 0 rfl (Jy 3 rfl (Um 1 4 ?_ ?_)))
  focus
   refine B8 ?_;refine Az (Um 2 4 ?_ ?_)
   focus
    refine Az (Jy 6 rfl (Jy 7 rfl (Um 4 8 ?_ ?_)))
    focus
     refine B8 ?_;refine Az (Um 5 8 ?_ ?_)
     focus
      refine Az ?_;refine Ay [8] Ah ⟨?_,trivial⟩
     rotate_left 1
     focus
      refine Az ?_;refine Ay [5] Ah ⟨?_,trivial⟩
    rotate_left 2
    focus
     refine Az (Qo 4 ?_);refine B8 ?_;refine Az ?_;refine Ay [5] Ah ⟨?_,trivial⟩
   rotate_left 3
   focus
    refine B8 ?_;refine Az (Um 2 5 ?_ ?_)
    focus
     refine Az (Jy 6 rfl (Jy 7 rfl (Um 5 8 ?_ ?_)))
     focus
      refine Az ?_;refine Ay [8] Ah ⟨?_,trivial⟩
     rotate_left 1
     focus
      refine Az ?_;refine Ay [5] Ah ⟨?_,trivial⟩
    rotate_left 2
    focus
     refine Az (Qo 2 ?_);refine Az (Jy 6 rfl (Jy 7 rfl ?_));refine Ay [8] Ah ⟨?_,trivial⟩
  rotate_left 6
  focus
   refine B8 ?_;refine Az (Um 1 5 ?_ ?_)
   focus
    refine B8 ?_;refine Az (Um 2 5 ?_ ?_)
    focus
     refine Az (Jy 6 rfl (Jy 7 rfl (Um 5 8 ?_ ?_)))
     focus
      refine Az ?_;refine Ay [8] Ah ⟨?_,trivial⟩
     rotate_left 1
     focus
      refine Az ?_;refine Ay [5] Ah ⟨?_,trivial⟩
    rotate_left 2
    focus
     refine Az (Qo 2 ?_);refine Az (Jy 6 rfl (Jy 7 rfl ?_));refine Ay [8] Ah ⟨?_,trivial⟩
   rotate_left 3
   focus
    refine Az (Qo 1 ?_);refine B8 ?_;refine Az (Qo 2 ?_);refine Az (Jy 6 rfl (Jy 7 rfl ?_));refine Ay [8] Ah ⟨?_,trivial⟩
  all_goals
   refine Aj ?_;refine Az (Jy 9 rfl (Jy 10 rfl (Qo 11 ?_)));refine Az (Uw Ah (Aj ?_))
  all_goals
   have hgn:=K2 hg (by rw [←ht];exact ((Xg hst ⟨p1,p2,g,p3,p4⟩ p5)).1);refine B8 ?_;refine Ci [] (⟨j.k+1,(true,⟨⟨j.t.2.az.ak,(Dr ((Bk x).getD j.k default) 1).getD 0 default,(Dr ((Bk x).getD j.k default) 1).getD 1 default⟩,j.t.2.au,j.t.2.aa,j.t.2.bq⟩)⟩) (⟨by show j.k+1≤_;omega,hgn,by show (true,⟨⟨j.t.2.az.ak,(Dr ((Bk x).getD j.k default) 1).getD 0 default,(Dr ((Bk x).getD j.k default) 1).getD 1 default⟩,j.t.2.au,j.t.2.aa,j.t.2.bq⟩)=Ot _ (j.k+1);rw [J5 hk2,←ht];exact ((Xg hst ⟨p1,p2,g,p3,p4⟩ p5)).2.symm⟩) (by show (Bk x).length-(j.k+1)<_;omega) ⟨rfl,rfl,trivial⟩ ⟨rfl,rfl,rfl,trivial⟩
 have e:j.k=(Bk x).length:=by omega
 refine Cc (fun a=>?_) fun a=>?_
 ·have a:j.t.1=false:=by simpa using a
  refine Ar ?_;refine An A0 rfl rfl ?_;rw [Oa h0 e hg (fun c=>by have:=c.1;rw [←ht,a] at this;cases this)];exact Mm
 have a:j.t.1=true:=by simpa using a
 have hgw:=(show A0u j.t.2 by rw [ht];exact B2l j.k hk hg).w.1
 refine Ar ?_;refine As (Kj j.t.2.az A7) rfl (Hd ?_);refine Cc (fun b=>?_) fun b=>?_
 ·have b:F5 j.t.2.az=false:=by simpa using b
  refine Ar ?_;refine An A0 rfl rfl ?_;rw [Oa h0 e hg (fun c=>by have:=c.2;rw [←ht,b] at this;cases this)];exact Mm
 have b:F5 j.t.2.az=true:=by simpa using b
 refine Ar ?_;have hr:=Wf h0 e hg (by rw [←ht];exact ⟨a,b⟩);rw [←ht] at hr;refine An A0 rfl rfl ?_;rw [hr];exact Mm
theorem A9c (x:A3)(e:Int)(h:x.w≤16777216):Dj 246 [.agg x.c,.one (vi e)] [.one (vb (Qj x e))]:=by
 have hl:=A3.workers_le h;refine E3 Tryz.func246 fun W=>?_;refine Eh (fun h0=>?_) fun h0=>?_
 ·have hw:=Go.Sx.A3.worker_le h (show 0<x.aq.length by omega)
  repeat' (first|(refine I1 ?_;conv=>whnf)|(refine I2 ?_;conv=>whnf)|(refine ⟨fun h=>?_,fun h=>?_⟩<;>conv=>whnf)|(refine H8 ?_;conv=>whnf)|fail)
  refine F0 (Zt (x.aq.getD 0 default) e A7) ?_
  repeat' (first|(refine I1 ?_;conv=>whnf)|(refine I2 ?_;conv=>whnf)|(refine ⟨fun h=>?_,fun h=>?_⟩<;>conv=>whnf)|(refine H8 ?_;conv=>whnf)|fail)
  exact An A0 rfl rfl ⟨A6 vb (by rw [Qj,Ak A7]),trivial⟩
 repeat' (first|(refine I1 ?_;conv=>whnf)|(refine I2 ?_;conv=>whnf)|(refine ⟨fun h=>?_,fun h=>?_⟩<;>conv=>whnf)|(refine H8 ?_;conv=>whnf)|fail)
 exact An A0 rfl rfl ⟨A6 vb (by rw [Qj,Ab A7]),trivial⟩
def A4 (c:A3) (e:Int):G9:=c.ap.getD e.toNat default
def A8 (c:A3) (j:Int):Ae:=c.aq.getD j.toNat default
def Fy (c:A3) (e:Int) (t:G9):A3:=⟨c.az,c.aq,c.ay,c.ap.set e.toNat t,c.ac⟩
def Bc (c:A3) (j:Int) (w:Ae):A3:=⟨c.az,c.aq.set j.toNat w,c.ay,c.ap,c.ac⟩
def K8 (w:Ae) (e:Int):Ae:=⟨w.ar,w.ae,w.au,w.cells,w.ah,w.al.set e.toNat false,w.an,w.ai⟩
def Ju (w:Ae) (d:Gv):Ae:=⟨w.ar,w.ae,w.au,w.cells,w.ah,w.al,w.an,w.ai++[d]⟩
def Qc (e:Int) (b:Bool) (k:Nat):List D8:=(List.range k).map fun (i:Nat)=>(⟨(i:Int)+1,e,b⟩:D8)
def A5n (c:A3) (l:List D8):A3:=⟨c.az,c.aq,c.ay,c.ap,c.ac++l⟩
def Kr (c:A3) (e:Int) (t:G9) (w:Ae):A3:=
 if t.al=false∧w.al.getD e.toNat default=false∧t.sum+w.ah.getD e.toNat default=0 then
  A5n (Bc c 0 (Ju w ⟨e,t.ao||w.an.getD e.toNat default⟩)) (Qc e (t.ao||w.an.getD e.toNat default) (c.aq.length-1))
 else c
def Y0 (c:A3) (e:Int):Prop:=Av c∧(0≤e∧e≤3)∧Kl (A8 c 0) e=false∧L4 (A8 c (A4 c e).aj) e=true
instance (c:A3) (e:Int):Decidable (Y0 c e):=by unfold Y0;infer_instance
def Ct (c:A3) (e:Int):A3×Bool:=
 if Y0 c e then
  let t:=A4 c e
  let w:=A8 c t.aj
  if t.bz=false then (Bc (Fy c e ⟨true,(c.aq.length:Int)-1,0,false,w.an.getD e.toNat default⟩) t.aj (K8 w e),true)
  else if t.aj>0 then
   if Jh (t.sum+w.ah.getD e.toNat default) then
    (Bc (Fy c e ⟨t.bz,t.aj-1,t.sum+w.ah.getD e.toNat default,t.al||w.al.getD e.toNat default,t.ao||w.an.getD e.toNat default⟩) t.aj (K8 w e),true)
   else (c,false)
  else (Kr (Fy c e ⟨false,t.aj,t.sum,t.al,t.ao⟩) e t w,true)
 else (c,false)
variable {c : A3} {e : Int}
theorem B2q (h:Y0 c e)(hg:(A4 c e).bz=false):Ct c e=(Bc (Fy c e ⟨true,(c.aq.length:Int)-1,0,false,(A8 c (A4 c e).aj).an.getD e.toNat default⟩) (A4 c e).aj (K8 (A8 c (A4 c e).aj) e),true):=by
 rw [Ct,Ak h];simp only [hg,Lt]
theorem C2m (h:Y0 c e)(hg:(A4 c e).bz=true)(ha:(A4 c e).aj>0)(hs:¬ Jh ((A4 c e).sum+(A8 c (A4 c e).aj).ah.getD e.toNat default)):Ct c e=(c,false):=by
 rw [Ct,Ak h];simp only [hg,A9w,Rw,Ak ha,Ab hs]
theorem Ov (h:Y0 c e)(hg:(A4 c e).bz=true)(ha:(A4 c e).aj>0)(hs:Jh ((A4 c e).sum+(A8 c (A4 c e).aj).ah.getD e.toNat default)):
  Ct c e=(Bc (Fy c e ⟨true,(A4 c e).aj-1,(A4 c e).sum+(A8 c (A4 c e).aj).ah.getD e.toNat default,(A4 c e).al||(A8 c (A4 c e).aj).al.getD e.toNat default,(A4 c e).ao||(A8 c (A4 c e).aj).an.getD e.toNat default⟩) (A4 c e).aj (K8 (A8 c (A4 c e).aj) e),true):=by
 rw [Ct,Ak h];simp only [hg,A9w,Rw,Ak ha,Ak hs]
theorem Uk (h:¬ Y0 c e):Ct c e=(c,false):=by rw [Ct,Ab h]
theorem Cn {α:Type} [Inhabited α] {es:Nat}{e:α→List Ag}{l:List α}{j:Nat}{r:List Ag}(h:r=e (l.getD j default)):Ly (.sl l.length es (Hb (fun i=>e (l.getD i default)) j r)) (Mr es e l):=by
 refine ⟨rfl,rfl,fun i _=>?_⟩;unfold Hb
 split
 ·rename_i e;subst e;rw [h];exact Ja.rfl' _
 exact Ja.rfl' _
theorem Hp {α:Type} [Inhabited α] {es:Nat}{e:α→List Ag}{l:List α}{j:Nat}{r:List Ag}{x:α}(hj:j<l.length)(h:r=e x):Ly (.sl l.length es (Hb (fun i=>e (l.getD i default)) j r)) (Mr es e (l.set j x)):=by
 refine ⟨by rw [Jz],rfl,fun i _=>?_⟩;unfold Hb
 split
 ·rename_i q
  subst q
  show Ja r (e ((l.set i x).getD i default))
  rw [h,Sx.getD_set_self _ _ _ _ hj];exact Ja.rfl' _
 rename_i q
 show Ja (e (l.getD i default)) (e ((l.set j x).getD i default))
 rw [Sx.getD_set_ne _ _ _ _ _ q];exact Ja.rfl' _
abbrev rcb (x:A3) (b:Bool):List Ag:=[Ax x.az.ak,vi x.az.aq,vi x.az.cap,Af x.aq,B7 x.ay,Au x.ap,Bd x.ac,vb b]
abbrev rc (x:A3):List Ag:=rcb x (At x)
theorem Od (h:Y0 c e)(hg:(A4 c e).bz=true)(ha:¬ (A4 c e).aj>0):Ct c e=(Kr (Fy c e ⟨false,(A4 c e).aj,(A4 c e).sum,(A4 c e).al,(A4 c e).ao⟩) e (A4 c e) (A8 c (A4 c e).aj),true):=by
 rw [Ct,Ak h];simp only [hg,A9w,Rw,Ab ha]
theorem A2z (e:Int)(b:Bool)(k:Nat):(Qc e b k).length=k:=by rw [Qc,J8,Rt]
theorem Zi (e:Int)(b:Bool)(k:Nat):Qc e b (k+1)=Qc e b k++[⟨(k:Int)+1,e,b⟩]:=by
 rw [Qc,Sj,Qs];rfl
set_option maxHeartbeats 4000000 in
theorem B7z (x:A3)(e:Int)(cap ok:Bool)(h:x.w≤16000000)(h0:0<x.aq.length):
  MtR (fun _=>True) 248 [] (rcb x ok) [.one (vi e),.one (vb cap)] (fun _:Unit=>True) (fun _=>rcb (A5n (Bc x 0 (Ju (x.aq.getD 0 default) ⟨e,cap⟩)) (Qc e cap (x.aq.length-1))) ok) (fun _=>[]):=by
 have hw:=A3.worker_le h h0;have hnl:=A3.news_le h;have hwl:=A3.workers_le h;have hdl:(x.aq.getD 0 default).ai.length≤16000000:=by simp only [Ae.w] at hw;omega
 refine zeP Tryz.func248 fun B b hH hp=>?_;refine Zh 0 3 2 rfl rfl (fun v2=>?_);refine A8a 0 3 rfl rfl (fun ho_v2=>?_);refine Iy rfl (Dw 0 rfl (Dw 1 rfl (Dw 2 rfl (Dw 3 rfl (Dw 5 rfl (Dw 6 rfl (Dw 7 rfl (Dw 8 rfl (Dw 13 rfl (Dw 14 rfl ?_))))))))));refine Of 9 ?_;refine Lq (s':=?_) 10 rfl Ah ?_ ?_;rotate_left;refine Aj ?_;refine H7 16 2 rfl (Er ?_);exact C0
 refine Dw 11 rfl ?_;refine Wc (α:=Value) (s':=?_) 12 rfl Ah ?_ ?_;rotate_left;refine Aj ?_;refine M5 A0 rfl (jn:=0) rfl rfl (fun v=>go A0 false ?_);conv=>whnf
 exact A34 v
 intro v;refine Of 15 ?_;refine Nl [16,17,18,19,20] [⟨4,11,.rd v2⟩] Ah ?_;refine Ms rfl Dq ?_;refine L9 (s':=?_) rfl Dq ?_ ?_;rotate_left;refine Aj ?_;refine B9 A0 rfl (Hu ((x.aq.getD 0 default).ai++[⟨e,cap⟩])) (Ao rfl) Hy A7 (Aj ?_);exact C0
 refine L9 (s':=?_) rfl Dq ?_ ?_;rotate_left;refine Aj ?_;refine H7 11 2 rfl (Er ?_);exact C0
 refine Ms rfl Dq ?_;refine L9 (s':=?_) rfl Dq ?_ ?_;rotate_left;refine Aj ?_;refine Bt (j:=0) A0 rfl (Af (x.aq.set 0 (Ju (x.aq.getD 0 default) ⟨e,cap⟩))) (Hk h0 rfl) (Aj ?_);exact C0
 refine Ln A0 Ah Dq (GW.out (Iv ?_));conv=>whnf
 refine Ze 0 3 2 rfl rfl rfl ?_;refine Fv [7,8,9,10,11,12,13,14,15,16,17,18,19,20,21,22,23,24,25,26] (fun k:Nat=>[(6,.c (vi (k+1)))]) (fun k=>[⟨0,[.own 1,.c (vi x.az.aq),.c (vi x.az.cap),.own 2,.own 3,.own 4,.own 5,.c (vb ok)]⟩]) (fun k=>[⟨1,Ax x.az.ak⟩,⟨2,Af (x.aq.set 0 (Ju (x.aq.getD 0 default) ⟨e,cap⟩))⟩,⟨3,B7 x.ay⟩,⟨4,Au x.ap⟩,⟨5,Bd (x.ac++Qc e cap k)⟩]) (fun k=>k≤(x.aq.length-1)) (fun k=>(x.aq.length-1)-k) fun k hk=>?_;refine Eh (fun hg=>?_) fun hg=>?_
 ·rw [Jz] at hg
  refine B9 A0 rfl (Bd (x.ac++Qc e cap k++[⟨k+1,e,cap⟩])) (Ao rfl) Hy (by rw [D7,A2z];omega) (Er ?_);refine Ci [(0,0),(1,1),(2,2),(3,3),(4,4),(5,10)] (k+1) A7 A7 ⟨by rw [Int.natCast_add];rfl,trivial⟩ ⟨rfl,rfl,rfl,rfl,by show (_:Ag)=_;rw [Zi,←Cv],trivial⟩
 rw [Jz] at hg;refine Ar ?_;obtain rfl:k=x.aq.length-1:=by omega
 exact D1n (C0b A0 () trivial rfl rfl rfl rfl Mm)
theorem D0u (c:A3)(e:Int)(t:G9):(Fy c e t).w=c.w:=by simp only [A3.w,Fy,Jz]
set_option maxHeartbeats 4000000 in
theorem C4s (x:A3)(e:Int)(h:x.w≤16000000):MtR (fun _=>True) 189 [] (rc x) [.one (vi e)] (fun _:Unit=>True) (fun _=>rcb (Ct x e).1 (At x)) (fun _=>[.one (vb (Ct x e).2)]):=by
 refine zeP Tryz.func189 fun B b hH hp=>?_;refine Cc (fun hC=>?_) fun hC=>?_
 ·refine Ar ?_
  rw [Uk (fun p=>by rw [show At x=true from Dg p.1] at hC;exact absurd hC Cw)]
  exact K4 () trivial
 have hC:Av x:=Bj (show At x=true by simpa using hC)
 have hl0:1≤x.aq.length:=by have:=hC.1.2.1;have:=hC.1.1.2.1;omega
 have htl:x.ap.length=4:=hC.1.2.2.2;have hwl4:x.aq.length≤4:=by have:=hC.1.2.1;have:=hC.1.1.2.1;omega
 refine Ar ?_;refine As (H3 e 0 3) rfl (Hd ?_);refine Cc (fun hE=>?_) fun hE=>?_
 ·refine Ar ?_
  rw [Uk (fun p=>by have:=p.2.1;clear hC p;simp only [Ey] at *;omega)];exact K4 () trivial
 have hE:0≤e∧e≤3:=by clear hC;simp only [Ey] at *;omega
 refine Ar ?_;refine As (A9c x e A7) rfl (Hd ?_);refine Cc (fun hD=>?_) fun hD=>?_
 ·rw [Uk (fun p=>by have hd:Kl (x.aq.getD 0 default) e=false:=p.2.2.1;rw [Qj,Ak A7,hd] at hD;cases hD)]
  exact K4 () trivial
 have hD:Kl (A8 x 0) e=false:=by rw [Qj,Ak A7] at hD;exact hD
 have hTP:=hC.2.2.2.1 _ (Am (d:=default) (show e.toNat<x.ap.length by omega))
 have hat:0≤(x.ap.getD e.toNat default).aj∧(x.ap.getD e.toNat default).aj<x.aq.length:=by
  have:=hC.1.2.1
  have:=hTP.1
  omega
 have hj:(x.ap.getD e.toNat default).aj.toNat<x.aq.length:=by omega
 have hWP:=hC.2.1 _ (Am (d:=default) hj);refine B8 ?_;refine A4p A0 rfl hj rfl (fun u=>go A0 false ?_);conv=>whnf
 refine As (B0p (x.aq.getD (x.ap.getD e.toNat default).aj.toNat default) e (by have:=A3.worker_le h hj;omega)) rfl ?_
 cases hP:L4 (x.aq.getD (x.ap.getD e.toNat default).aj.toNat default) e
 ·refine Ro 2 ((x.ap.getD e.toNat default).aj.toNat) [(0,7),(1,8),(2,9),(3,10),(4,11),(5,12),(6,13),(7,14)] (Af x.aq) hj rfl rfl S0 rfl (Cn rfl) (Iv ?_)
  conv=>whnf
  refine Ar ?_;rw [Uk (fun p=>by have q:=p.2.2.2;rw [show A8 x (A4 x e).aj=x.aq.getD (x.ap.getD e.toNat default).aj.toNat default from rfl,hP] at q;cases q)]
  exact K4 () trivial
 have hT:Y0 x e:=⟨hC,hE,hD,hP⟩;obtain ⟨hL1,hL2,hL3⟩:=hWP.2.1;have hs1:=hTP.2.2;have htk:e.toNat<x.ap.length:=by omega
 have hbl:e.toNat<(A8 x (A4 x e).aj).al.length:=by
  show e.toNat<(x.aq.getD (x.ap.getD e.toNat default).aj.toNat default).al.length
  omega
 have hs2:Jh ((x.aq.getD (x.ap.getD e.toNat default).aj.toNat default).ah.getD e.toNat default):=hWP.2.2.2.1 _ (Am A7);simp only [Jh] at hs2;refine Hd ?_
 first|(refine Al 8 rfl [0,1,2,3,4,5,6,7,8] Ah (Aj ?_))|(refine Al 14 rfl [0,1,2,3,4,5,6,7,8,9,10,11,12,13,14,15,16,17,18,19,20] Ah (Aj ?_))|(refine Al 19 rfl [0,1,2,3,4,5,6,7,8,9,10,11,12,13,14,15,16,17,18,19,20,21,22,23,24,25,26,27,28,29] Ah (Aj ?_))|(refine Al 10 rfl [0,1,2,3,4,5,6,7,8] Ah (Aj ?_))
 refine ⟨by (show _∧_;omega),?_⟩
 conv=>whnf
 refine ⟨by (show _∧_;omega),?_⟩
 conv=>whnf
 refine Cc (fun hg=>?_) fun hg=>?_
 ·have hg:(A4 x e).bz=false:=by simpa [A4] using hg
  have hA:(A4 x e).aj=0:=hTP.2.1 hg
  first|(refine Al 8 rfl [0,1,2,3,4,5,6,7,8] Ah (Aj ?_))|(refine Al 14 rfl [0,1,2,3,4,5,6,7,8,9,10,11,12,13,14,15,16,17,18,19,20] Ah (Aj ?_))|(refine Al 19 rfl [0,1,2,3,4,5,6,7,8,9,10,11,12,13,14,15,16,17,18,19,20,21,22,23,24,25,26,27,28,29] Ah (Aj ?_))|(refine Al 10 rfl [0,1,2,3,4,5,6,7,8] Ah (Aj ?_))
  refine B8 ?_;refine Bt (j:=e) A0 rfl (Au (x.ap.set e.toNat ⟨true,(x.aq.length:Int)-1,0,false,(A8 x (A4 x e).aj).an.getD e.toNat default⟩)) (Dd htk rfl) ?_;refine Ro 2 ((x.ap.getD e.toNat default).aj.toNat) [(0,7),(1,8),(2,9),(3,10),(4,11),(5,12),(6,13),(7,14)] (Af x.aq) hj rfl rfl S0 rfl (Cn rfl) (Iv ?_);conv=>whnf
  refine ⟨by exact ⟨A0r 0,by show (0:Int)<(x.aq.length:Int);omega⟩,?_⟩
  conv=>whnf
  refine M5 A0 rfl (jn:=(x.ap.getD e.toNat default).aj.toNat) (by rw [show (x.ap.getD e.toNat default).aj=0 from hA]) rfl (fun v=>go A0 false ?_)
  conv=>whnf
  refine B8 ?_;refine Bt (j:=e) A0 rfl (D9 ((A8 x (A4 x e).aj).al.set e.toNat false)) (Dd hbl rfl) (Aj ?_);rw [B2q hT hg];refine G7 Tryz.prog 2 ((x.ap.getD e.toNat default).aj.toNat) [(5,16)] (Af (x.aq.set (x.ap.getD e.toNat default).aj.toNat (K8 (A8 x (A4 x e).aj) e))) hj rfl S0 rfl (Hp hj rfl) ?_;exact K4 () trivial
 have hg:(A4 x e).bz=true:=by simpa [A4] using hg
 refine Cc (fun hA=>?_) fun hA=>?_
 ·have hA:(A4 x e).aj>0:=Bj hA
  refine As (H3 ((x.ap.getD e.toNat default).sum+(x.aq.getD (x.ap.getD e.toNat default).aj.toNat default).ah.getD e.toNat default) (-1000000) 1000000) rfl (Hd ?_);refine Cc (fun hS=>?_) fun hS=>?_
  ·rw [C2m hT hg hA (fun p=>by simp only [Jh,A4,A8] at p;simp only [Ey] at *;omega)]
   refine G7 Tryz.prog 2 ((x.ap.getD e.toNat default).aj.toNat) [(0,7),(1,8),(2,9),(3,10),(4,11),(5,12),(6,13),(7,14)] (Af x.aq) hj rfl S0 rfl (Cn rfl) ?_;exact K4 () trivial
  have hS:Jh ((A4 x e).sum+(A8 x (A4 x e).aj).ah.getD e.toNat default):=by simp only [Jh,A4,A8];simp only [Ey] at *;omega
  first|(refine Al 8 rfl [0,1,2,3,4,5,6,7,8] Ah (Aj ?_))|(refine Al 14 rfl [0,1,2,3,4,5,6,7,8,9,10,11,12,13,14,15,16,17,18,19,20] Ah (Aj ?_))|(refine Al 19 rfl [0,1,2,3,4,5,6,7,8,9,10,11,12,13,14,15,16,17,18,19,20,21,22,23,24,25,26,27,28,29] Ah (Aj ?_))|(refine Al 10 rfl [0,1,2,3,4,5,6,7,8] Ah (Aj ?_))
  refine B8 ?_;refine Cc (fun hb=>?_) fun hb=>?_
  ·have hb:(A4 x e).al=true:=hb
   refine Ar ?_;refine Cc (fun hc=>?_) fun hc=>?_
   ·have hc:(A4 x e).ao=true:=hc
    refine Ar ?_;refine Bt (j:=e) A0 rfl (Au (x.ap.set e.toNat ⟨true,(A4 x e).aj-1,(A4 x e).sum+(A8 x (A4 x e).aj).ah.getD e.toNat default,(A4 x e).al||(A8 x (A4 x e).aj).al.getD e.toNat default,(A4 x e).ao||(A8 x (A4 x e).aj).an.getD e.toNat default⟩)) (Dd htk (by rw [hb,hc];rfl)) ?_;refine Ro 2 ((x.ap.getD e.toNat default).aj.toNat) [(0,7),(1,8),(2,9),(3,10),(4,11),(5,12),(6,13),(7,14)] (Af x.aq) hj rfl rfl S0 rfl (Cn rfl) (Iv ?_);conv=>whnf
    refine B8 ?_;refine M5 A0 rfl (jn:=(x.ap.getD e.toNat default).aj.toNat) rfl rfl (fun v=>go A0 false ?_);conv=>whnf
    refine B8 ?_;refine Bt (j:=e) A0 rfl (D9 ((A8 x (A4 x e).aj).al.set e.toNat false)) (Dd hbl rfl) (Aj ?_);rw [Ov hT hg hA hS];refine G7 Tryz.prog 2 ((x.ap.getD e.toNat default).aj.toNat) [(5,16)] (Af (x.aq.set (x.ap.getD e.toNat default).aj.toNat (K8 (A8 x (A4 x e).aj) e))) hj rfl S0 rfl (Hp hj rfl) ?_;exact K4 () trivial
   have hc:(A4 x e).ao=false:=hc;refine Ar ?_;refine Bt (j:=e) A0 rfl (Au (x.ap.set e.toNat ⟨true,(A4 x e).aj-1,(A4 x e).sum+(A8 x (A4 x e).aj).ah.getD e.toNat default,(A4 x e).al||(A8 x (A4 x e).aj).al.getD e.toNat default,(A4 x e).ao||(A8 x (A4 x e).aj).an.getD e.toNat default⟩)) (Dd htk (by rw [hb,hc];rfl)) ?_;refine Ro 2 ((x.ap.getD e.toNat default).aj.toNat) [(0,7),(1,8),(2,9),(3,10),(4,11),(5,12),(6,13),(7,14)] (Af x.aq) hj rfl rfl S0 rfl (Cn rfl) (Iv ?_);conv=>whnf
   refine B8 ?_;refine M5 A0 rfl (jn:=(x.ap.getD e.toNat default).aj.toNat) rfl rfl (fun v=>go A0 false ?_);conv=>whnf
   refine B8 ?_;refine Bt (j:=e) A0 rfl (D9 ((A8 x (A4 x e).aj).al.set e.toNat false)) (Dd hbl rfl) (Aj ?_);rw [Ov hT hg hA hS];refine G7 Tryz.prog 2 ((x.ap.getD e.toNat default).aj.toNat) [(5,16)] (Af (x.aq.set (x.ap.getD e.toNat default).aj.toNat (K8 (A8 x (A4 x e).aj) e))) hj rfl S0 rfl (Hp hj rfl) ?_;exact K4 () trivial
  have hb:(A4 x e).al=false:=hb;refine Ar ?_;refine Cc (fun hc=>?_) fun hc=>?_
  ·have hc:(A4 x e).ao=true:=hc
   refine Ar ?_;refine Bt (j:=e) A0 rfl (Au (x.ap.set e.toNat ⟨true,(A4 x e).aj-1,(A4 x e).sum+(A8 x (A4 x e).aj).ah.getD e.toNat default,(A4 x e).al||(A8 x (A4 x e).aj).al.getD e.toNat default,(A4 x e).ao||(A8 x (A4 x e).aj).an.getD e.toNat default⟩)) (Dd htk (by rw [hb,hc];rfl)) ?_;refine Ro 2 ((x.ap.getD e.toNat default).aj.toNat) [(0,7),(1,8),(2,9),(3,10),(4,11),(5,12),(6,13),(7,14)] (Af x.aq) hj rfl rfl S0 rfl (Cn rfl) (Iv ?_);conv=>whnf
   refine B8 ?_;refine M5 A0 rfl (jn:=(x.ap.getD e.toNat default).aj.toNat) rfl rfl (fun v=>go A0 false ?_);conv=>whnf
   refine B8 ?_;refine Bt (j:=e) A0 rfl (D9 ((A8 x (A4 x e).aj).al.set e.toNat false)) (Dd hbl rfl) (Aj ?_);rw [Ov hT hg hA hS];refine G7 Tryz.prog 2 ((x.ap.getD e.toNat default).aj.toNat) [(5,16)] (Af (x.aq.set (x.ap.getD e.toNat default).aj.toNat (K8 (A8 x (A4 x e).aj) e))) hj rfl S0 rfl (Hp hj rfl) ?_;exact K4 () trivial
  have hc:(A4 x e).ao=false:=hc;refine Ar ?_;refine Bt (j:=e) A0 rfl (Au (x.ap.set e.toNat ⟨true,(A4 x e).aj-1,(A4 x e).sum+(A8 x (A4 x e).aj).ah.getD e.toNat default,(A4 x e).al||(A8 x (A4 x e).aj).al.getD e.toNat default,(A4 x e).ao||(A8 x (A4 x e).aj).an.getD e.toNat default⟩)) (Dd htk (by rw [hb,hc];rfl)) ?_;refine Ro 2 ((x.ap.getD e.toNat default).aj.toNat) [(0,7),(1,8),(2,9),(3,10),(4,11),(5,12),(6,13),(7,14)] (Af x.aq) hj rfl rfl S0 rfl (Cn rfl) (Iv ?_);conv=>whnf
  refine B8 ?_;refine M5 A0 rfl (jn:=(x.ap.getD e.toNat default).aj.toNat) rfl rfl (fun v=>go A0 false ?_);conv=>whnf
  refine B8 ?_;refine Bt (j:=e) A0 rfl (D9 ((A8 x (A4 x e).aj).al.set e.toNat false)) (Dd hbl rfl) (Aj ?_);rw [Ov hT hg hA hS];refine G7 Tryz.prog 2 ((x.ap.getD e.toNat default).aj.toNat) [(5,16)] (Af (x.aq.set (x.ap.getD e.toNat default).aj.toNat (K8 (A8 x (A4 x e).aj) e))) hj rfl S0 rfl (Hp hj rfl) ?_;exact K4 () trivial
 have hA:¬ (A4 x e).aj>0:=Cr hA
 have hz:(x.ap.getD e.toNat default).aj=0:=by
  have:¬ (x.ap.getD e.toNat default).aj>0:=hA
  omega
 have hsw:(Fy x e ⟨false,(A4 x e).aj,(A4 x e).sum,(A4 x e).al,(A4 x e).ao⟩).w≤16000000:=by rw [D0u];exact h
 first|(refine Al 8 rfl [0,1,2,3,4,5,6,7,8] Ah (Aj ?_))|(refine Al 14 rfl [0,1,2,3,4,5,6,7,8,9,10,11,12,13,14,15,16,17,18,19,20] Ah (Aj ?_))|(refine Al 19 rfl [0,1,2,3,4,5,6,7,8,9,10,11,12,13,14,15,16,17,18,19,20,21,22,23,24,25,26,27,28,29] Ah (Aj ?_))|(refine Al 10 rfl [0,1,2,3,4,5,6,7,8] Ah (Aj ?_))
 refine B8 ?_;refine Bt (j:=e) A0 rfl (Au (x.ap.set e.toNat ⟨false,(A4 x e).aj,(A4 x e).sum,(A4 x e).al,(A4 x e).ao⟩)) (Dd htk rfl) ?_;refine Aj ?_;refine Cc (fun hb=>?_) fun hb=>?_
 ·have hb:(A4 x e).al=false:=by simpa [A4] using hb
  refine Ar ?_;refine Cc (fun hw=>?_) fun hw=>?_
  ·have hw:(A8 x (A4 x e).aj).al.getD e.toNat default=false:=by simpa [A4,A8] using hw
   refine Ar ?_;refine Cc (fun hs=>?_) fun hs=>?_
   ·have hs:(A4 x e).sum+(A8 x (A4 x e).aj).ah.getD e.toNat default=0:=eq_of_beq hs
    have hyes:=And.intro hb (And.intro hw hs);refine Ar ?_
    have hw0:A8 x (A4 x e).aj=x.aq.getD 0 default:=by
     show x.aq.getD (x.ap.getD e.toNat default).aj.toNat default=_
     rw [hz];rfl
    refine Cc (fun hc=>?_) fun hc=>?_
    ·have hc:(A4 x e).ao=true:=hc
     have hcap:((A4 x e).ao||(A8 x (A4 x e).aj).an.getD e.toNat default)=true:=by rw [hc];rfl
     refine Ar ?_;refine C0f 2 ((x.ap.getD e.toNat default).aj.toNat) [(0,7),(1,8),(2,9),(3,10),(4,11),(5,12),(6,13),(7,14)] (Af x.aq) hj rfl rfl S0 rfl (Cn rfl) ?_;refine zcP (B7z (Fy x e ⟨false,(A4 x e).aj,(A4 x e).sum,(A4 x e).al,(A4 x e).ao⟩) e true (At x) hsw hl0) hH hp fun r hr=>?_;rw [Od hT hg hA,Kr,Ak hyes,hcap,show Ju (A8 x (A4 x e).aj)=Ju (x.aq.getD 0 default) by rw [hw0]]
     exact K4 () trivial
    have hc:(A4 x e).ao=false:=hc;have hcap:((A4 x e).ao||(A8 x (A4 x e).aj).an.getD e.toNat default)=(A8 x (A4 x e).aj).an.getD e.toNat default:=by rw [hc];rfl
    refine Ar ?_;refine C0f 2 ((x.ap.getD e.toNat default).aj.toNat) [(0,7),(1,8),(2,9),(3,10),(4,11),(5,12),(6,13),(7,14)] (Af x.aq) hj rfl rfl S0 rfl (Cn rfl) ?_;refine zcP (B7z (Fy x e ⟨false,(A4 x e).aj,(A4 x e).sum,(A4 x e).al,(A4 x e).ao⟩) e ((A8 x (A4 x e).aj).an.getD e.toNat default) (At x) hsw hl0) hH hp fun r hr=>?_;rw [Od hT hg hA,Kr,Ak hyes,hcap,show Ju (A8 x (A4 x e).aj)=Ju (x.aq.getD 0 default) by rw [hw0]]
    exact K4 () trivial
   have hs:(A4 x e).sum+(A8 x (A4 x e).aj).ah.getD e.toNat default≠0:=Tg.1 hs;have hno:¬ ((A4 x e).al=false∧(A8 x (A4 x e).aj).al.getD e.toNat default=false∧(A4 x e).sum+(A8 x (A4 x e).aj).ah.getD e.toNat default=0):=fun p=>hs p.2.2
   refine Ar ?_;rw [Od hT hg hA,Kr,Ab hno];refine G7 Tryz.prog 2 ((x.ap.getD e.toNat default).aj.toNat) [(0,7),(1,8),(2,9),(3,10),(4,11),(5,12),(6,13),(7,14)] (Af x.aq) hj rfl S0 rfl (Cn rfl) ?_;exact K4 () trivial
  have hw:(A8 x (A4 x e).aj).al.getD e.toNat default=true:=by simpa [A4,A8] using hw
  have hno:¬ ((A4 x e).al=false∧(A8 x (A4 x e).aj).al.getD e.toNat default=false∧(A4 x e).sum+(A8 x (A4 x e).aj).ah.getD e.toNat default=0):=fun p=>by rw [hw] at p;exact absurd p.2.1 Cw
  refine Ar ?_;rw [Od hT hg hA,Kr,Ab hno];refine G7 Tryz.prog 2 ((x.ap.getD e.toNat default).aj.toNat) [(0,7),(1,8),(2,9),(3,10),(4,11),(5,12),(6,13),(7,14)] (Af x.aq) hj rfl S0 rfl (Cn rfl) ?_;exact K4 () trivial
 have hb:(A4 x e).al=true:=by simpa [A4] using hb
 have hno:¬ ((A4 x e).al=false∧(A8 x (A4 x e).aj).al.getD e.toNat default=false∧(A4 x e).sum+(A8 x (A4 x e).aj).ah.getD e.toNat default=0):=fun p=>by rw [hb] at p;exact absurd p.1 Cw
 refine Ar ?_;rw [Od hT hg hA,Kr,Ab hno];refine G7 Tryz.prog 2 ((x.ap.getD e.toNat default).aj.toNat) [(0,7),(1,8),(2,9),(3,10),(4,11),(5,12),(6,13),(7,14)] (Af x.aq) hj rfl S0 rfl (Cn rfl) ?_;exact K4 () trivial
theorem B2k (x:A3)(h:x.w≤16000000):B8l Tryz.prog 96 [] [.agg x.c] (fun _:Unit=>True) (fun _=>rc x):=by
 refine D1p A0 false Tryz.func96 rfl Cw fun W hp=>?_;conv=>whnf
 first|(refine Al 1 rfl [0,2,1,3,4,5,6] Ah (Aj ?_))
 refine Gg (A5e x A7) ?_;refine F0 (B0m x A7) ?_;exact D3p A0 () trivial rfl rfl rfl (by repeat' (first|exact trivial|exact rfl|exact .inr ⟨rfl,rfl,_,_,rfl⟩|refine ⟨?_,?_⟩))
def B3t {α:Type} (l:List α) (k:Nat) (x:α):List α:=l.take k++x::l.drop k
theorem Mz (l:List Ad)(n:Nat):F7 n fun i=>Ad.c (l.getD i default):=by
 intro i hi c hc;simp only [Ad.c,Ca,Rs,T7] at hc
 rcases hc with rfl|rfl|rfl|rfl<;>exact ⟨_,rfl⟩
variable {k : Nat}
theorem B7l {α:Type} [Inhabited α] (e:α→List Ag)(l:List α)(hk:k≤l.length):Ha k (fun i=>e (l.getD i default))=Iu e (l.take k):=by
 rw [←Ws,Eo,Nat.min_eq_left hk];unfold Ha;simp only [List.flatMap_def]
 congr 1
 apply List.map_congr_left
 intro i hi;have hi:=Ft.1 hi;rw [show (l.take k).getD i default=l.getD i default by simp [List.getD,X6,hi]]
theorem D14 {α:Type} [Inhabited α] (e:α→List Ag)(l:List α)(hk:k≤l.length)(pre C9:List AV):pre++Iu e l++C9=pre++Ha k (fun i=>e (l.getD i default))++(Iu e (l.drop k)++C9):=by
 rw [B7l e l hk,Cv,Cv,←Cv (Iu e (l.take k)),←Jq,Pe]
def V0 (l:List Ad) (k:Nat):List Ad:=l.take k++List.replicate (l.length+1-k) default
variable {l : List Ad}
theorem Ib (hk:k≤l.length):(V0 l k).length=l.length+1:=by
 rw [V0,D7,Eo,X7];omega
theorem C6p {i:Nat}(hk:k≤l.length)(hi:i<k):(V0 l k).getD i default=l.getD i default:=by
 unfold V0;simp only [List.getD];rw [F2 (by rw [Eo];omega),X6,Ak hi]
theorem C6o {i:Nat}(hk:k≤l.length)(hi:k≤i):(V0 l k).getD i default=default:=by
 unfold V0;simp only [List.getD];rw [F1 (by rw [Eo];omega),List.getElem?_replicate]
 split<;>rfl
theorem B51 (hk:k<l.length)(pre C9:List AV):pre++Iu Ad.c (V0 l k)++C9=(pre++Iu Ad.c (l.take k))++Iu Ad.c [(default:Ad)]++(Iu Ad.c (List.replicate (l.length-k) (default:Ad))++C9):=by
 rw [V0,show l.length+1-k=(l.length-k)+1 by omega,List.replicate_succ,show (default:Ad)::List.replicate (l.length-k) default=[default]++List.replicate (l.length-k) default from rfl,Jq,Jq]
 simp only [Cv]
theorem Sw {x:Ad}(hk:k≤l.length):(B3t l k x).length=l.length+1:=by
 rw [B3t,D7,Gi,Eo,G4];omega
theorem A3e (l:List Ad):(Iu Ad.c l).length=l.length * 4:=B4w (es:=4) (fun _=>rfl) l
theorem B6f (l:List Ad)(k:Nat)(x:Ad)(pre C9:List AV):pre++Iu Ad.c (B3t l k x)++C9=(pre++Iu Ad.c (l.take k)++Iu Ad.c [x])++Iu Ad.c (l.drop k)++C9:=by
 rw [B3t,show x::l.drop k=[x]++l.drop k from rfl,Jq,Jq]
 simp only [Cv]
set_option maxHeartbeats 4000000 in
theorem A7l (l:List Ad)(k:Nat)(x:Ad)(hk:k≤l.length)(hl:l.length≤16777216):Vh Tryz.prog (fun _=>True) 263 [] [.one (Ai l),.one (vi k),.one (Ai [x])] [] (fun _:Unit=>True) (fun _=>[.one (Ai (B3t l k x))]):=by
 refine B26 A0 false Tryz.func263 rfl Cw fun B hH hp=>?_;conv=>whnf
 refine C78 A0 rfl rfl rfl rfl rfl rfl rfl (l:=(k:Int)) rfl ⟨by omega,by show (k:Int)≤(l.length:Int);omega⟩ (Hd ?_)
 refine Cc (fun he=>?_) fun he=>?_
 ·have he:(k:Int)=l.length:=eq_of_beq he
  obtain rfl:k=l.length:=by omega
  rw [show B3t l l.length x=l++[x] by unfold B3t;rw [Hx,List.drop_length]]
  refine B9 A0 rfl (Ai (l++[x])) (Ao rfl) Hy (by show l.length+1≤_;omega) (Aj ?_)
  exact Zo A0 () trivial rfl rfl Mm
 have he:(k:Int)≠l.length:=Tg.1 he;have hkl:k<l.length:=by omega
 refine ⟨by (have:(([x].length:Nat):Int)=1:=rfl;rw [this];show _∧_;omega),?_⟩
 conv=>whnf
 refine A51 0 4 Ad.c l rfl A7 (Mz l _) (fun b off cap pre C9 p1 p2 p3 p4=>?_);refine Qb 0 0 rfl rfl ?_;refine Qb 29 0 rfl rfl ?_;refine D3i A0 rfl rfl rfl rfl rfl (Go.Sx.Hd A0 false ?_);conv=>whnf
 refine Cc (fun hc=>?_) fun hc=>?_
 ·have hc:cap<l.length+1:=by
   have:=Bj hc
   have e1:(([x].length:Nat):Int)=1:=rfl;omega
  have hcl:cap=l.length:=by omega
  refine Li A0 rfl ⟨by omega,by omega,by omega,fun h=>by (try cases h),by omega⟩ (off * 4) k cap Bi Bi Bi (Go.Sx.Hd A0 false ?_);conv=>whnf
  refine ⟨by (have e1:(([x].length:Nat):Int)=1:=rfl;rw [e1];show _∧_;omega),?_⟩
  conv=>whnf
  refine ⟨by (have e1:(([x].length:Nat):Int)=1:=rfl;rw [e1];show _∧_;omega),?_⟩
  conv=>whnf
  rw [show ((l.length:Int)+(([x].length:Nat):Int))-(k:Int)=((l.length+1-k:Nat):Int) by have e1:(([x].length:Nat):Int)=1:=rfl;omega]
  refine D3h (kb:=2) (k:=l.length+1-k) (row:=fun i=>Ad.c (l.getD i default)) A0 rfl rfl rfl rfl rfl rfl rfl rfl rfl rfl rfl rfl pre (Iu Ad.c (l.drop k)++C9) (by exact D14 Ad.c l hk pre C9) (by exact p1) rfl Cw (by exact fun _ _=>rfl) (by exact Mz l _) A7 A7 A7 rfl (fun i=>Ad.c ((V0 l k).getD i default)) (fun i hi=>by rw [C6p hk hi]) (fun i hi _=>by rw [C6o hk hi];rfl) (Go.Sx.Hd A0 false ?_);conv=>whnf
  rw [show (Ag.sl (k+(l.length+1-k)) 4 fun i=>Ad.c ((V0 l k).getD i default))=Mr 4 Ad.c (V0 l k) by unfold Mr;rw [Ib hk];congr 1;omega]
  refine A51 3 4 Ad.c (V0 l k) rfl (by rw [Ib hk];omega) (Mz _ _) (fun b2 off2 cap2 pre2 post2 q1 q2 q3 q4=>?_);rw [Ib hk] at q2 q4;refine Qb 9 3 rfl rfl ?_;refine Qb 41 3 rfl rfl ?_;refine Li A0 rfl ⟨by omega,by rw [Ib hk];omega,by rw [Ib hk];omega,fun _=>by rw [Ib hk];omega,by omega⟩ (off2 * 4+k * 4) (l.length+1-k) (cap2-k) Bi (by rw [Ib hk];simp) Bi (Go.Sx.Hd A0 false ?_);conv=>whnf
  refine C51 (kb:=4) A0 rfl rfl rfl rfl rfl rfl rfl rfl rfl rfl (by exact Mz [x] _) (by exact Nat.one_pos) rfl (by show 1≤_;omega) (pre2++Iu Ad.c (l.take k)) (Iu Ad.c [(default:Ad)]) (Iu Ad.c (List.replicate (l.length-k) (default:Ad))++post2) (by exact B51 hkl pre2 post2) (by rw [D7,A3e,Eo,q1];omega) (by rfl) (Go.Sx.Hd A0 false ?_)
  conv=>whnf
  have t1:(l.take k).length=k:=by rw [Eo];omega
  have t2:(l.drop k).length=l.length-k:=G4;have e1:(([x].length:Nat):Int)=1:=rfl;rw [show Ha [x].length (fun i=>Ad.c ([x].getD i default))=Iu Ad.c [x] from Ws Ad.c [x]]
  refine Iy rfl (Dw 0 rfl (Dw 1 rfl (Dw 2 rfl (Dw 3 rfl (Dw 5 rfl (Dw 6 rfl ?_))))));refine Lq (s':=?_) 4 rfl Ah ?_ ?_;rotate_left;refine Go.Sx.Hd A0 false ?_;conv=>whnf
  refine Li A0 rfl ⟨by omega,by rw [Ib hk];omega,by rw [Ib hk];omega,fun _=>by rw [Ib hk];omega,by omega⟩ (off2 * 4+(k+1) * 4) (l.length-k) (cap2-(k+1)) (by rw [e1];rfl) (by rw [Ib hk,e1];omega) (by rw [e1];rfl) (Go.Sx.Hd A0 false ?_);conv=>whnf
  exact C0
  refine Lq (s':=?_) 7 rfl Ah ?_ ?_;rotate_left;refine Go.Sx.Hd A0 false ?_;conv=>whnf
  refine Li A0 rfl ⟨by omega,by omega,by omega,fun _=>by omega,by omega⟩ (off * 4+k * 4) (l.length-k) (cap-k) Bi Bi Bi (Go.Sx.Hd A0 false ?_);conv=>whnf
  exact C0
  refine Nl [8] [] Ah ?_;refine L9 (s':=?_) rfl Dq ?_ ?_;rotate_left;refine Go.Sx.Hd A0 false ?_;conv=>whnf
  refine C52 (kb:=4) (kb2:=2) A0 rfl rfl rfl rfl rfl rfl rfl rfl rfl rfl rfl (pre2++Iu Ad.c (l.take k)++Iu Ad.c [x]) (Iu Ad.c (List.replicate (l.length-k) (default:Ad))) post2 (pre++Iu Ad.c (l.take k)) (Iu Ad.c (l.drop k)) C9 (by simp only [Cv]) (by rw [D7,D7,A3e,A3e,t1,q1];simp;omega) (by rw [A3e,A3e,t2,X7]) (by rw [←Pe k l,Jq,Pe];simp only [Cv]) (by rw [D7,A3e,t1,p1]) (by rw [A3e,t2,show Nat.min (l.length-k) (l.length-k)=_ from Nat.min_self _]) (by exact C8n Ad.c _) (Go.Sx.Hd A0 false ?_)
  conv=>whnf
  exact C0
  refine Ln A0 Ah Dq (GW.out (Go.Sx.Hd A0 false ?_));conv=>whnf
  refine B66 Tryz.prog 6 4 off2 4 Ad.c (B3t l k x) pre2 post2 rfl (by exact (B6f l k x pre2 post2).symm) (by exact q1) (fun _=>rfl) (Mz _ _) (by exact q3) (by exact ⟨by rw [Sw hk];exact q2,by rw [Sw hk];exact q4⟩) rfl rfl rfl (by rw [Ib hk,Sw hk]) ?_;exact Zo A0 () trivial rfl rfl Mm
 have hc:l.length+1≤cap:=by
  have:=Cr hc
  have e1:(([x].length:Nat):Int)=1:=rfl;omega
 have t1:(l.take k).length=k:=by rw [Eo];omega
 have t2:(l.drop k).length=l.length-k:=G4;have e1:(([x].length:Nat):Int)=1:=rfl;have hp4:4≤C9.length:=by have q:=Kd 4 (show 1≤cap-l.length from by omega);omega
 refine ⟨by (rw [e1];show _∧_;omega),?_⟩
 conv=>whnf
 refine Li A0 rfl (by refine ⟨by omega,by omega,by omega,?_,by omega⟩;intro h;exact absurd h Bi) (off * 4) (l.length+1) cap Bi (by rw [e1];rfl) Bi (Go.Sx.Hd A0 false ?_);conv=>whnf
 refine ⟨by (rw [e1];show _∧_;omega),?_⟩
 conv=>whnf
 refine Li A0 rfl ⟨by omega,by omega,by omega,fun _=>by omega,by omega⟩ (off * 4+(k+1) * 4) (l.length-k) (cap-(k+1)) (by rw [e1];rfl) (by rw [e1];omega) (by rw [e1];rfl) (D3l 0 A0 false ?_);conv=>whnf
 refine C4c (kb:=2) A0 rfl rfl rfl rfl rfl rfl rfl rfl rfl rfl rfl rfl (by exact Nat.one_pos) rfl rfl rfl (by rw [D7,D7];omega) (Go.Sx.Hd A0 false ?_);conv=>whnf
 refine Ar ?_
 have k1:l.take (k+1)=l.take k++[l.getD k default]:=by
  rw [A3u hkl]
  simp [List.getD,hkl]
 have c1:pre++Iu Ad.c l++C9=(pre++Iu Ad.c (l.take (k+1)))++(Iu Ad.c (l.drop (k+1))++C9.take 4)++C9.drop 4:=by
  conv=>lhs;rw [←Pe (k+1) l,Jq,←Pe 4 C9]
  simp only [Cv]
 have c2:pre++Iu Ad.c l++C9=(pre++Iu Ad.c (l.take k))++Iu Ad.c (l.drop k)++C9:=by
  conv=>lhs;rw [←Pe k l,Jq]
  simp only [Cv]
 have c3:(pre++Iu Ad.c (l.take (k+1)))++Iu Ad.c (l.drop k)++C9.drop 4=(pre++Iu Ad.c (l.take k))++Iu Ad.c [l.getD k default]++(Iu Ad.c (l.drop k)++C9.drop 4):=by
  rw [k1,Jq];simp only [Cv]
 have t3:(l.take (k+1)).length=k+1:=by rw [Eo];omega
 have t4:(l.drop (k+1)).length=l.length-(k+1):=G4;have t5:(C9.take 4).length=4:=by rw [Eo];omega
 refine Iy rfl (Dw 0 rfl (Dw 1 rfl (Dw 2 rfl (Dw 3 rfl (Dw 5 rfl (Dw 6 rfl ?_))))));refine Lq (s':=?_) 4 rfl Ah ?_ ?_;rotate_left;refine Go.Sx.Hd A0 false ?_;conv=>whnf
 refine Li A0 rfl ⟨by omega,by omega,by omega,fun _=>by omega,by omega⟩ (off * 4+(k+1) * 4) (l.length-k) (cap-(k+1)) (by rw [e1];rfl) (by rw [e1];omega) (by rw [e1];rfl) (Go.Sx.Hd A0 false ?_);conv=>whnf
 exact C0
 refine Lq (s':=?_) 7 rfl Ah ?_ ?_;rotate_left;refine Go.Sx.Hd A0 false ?_;conv=>whnf
 refine Li A0 rfl ⟨by omega,by omega,by omega,fun _=>by omega,by omega⟩ (off * 4+k * 4) (l.length+1-k) (cap-k) Bi Bi Bi (Go.Sx.Hd A0 false ?_);conv=>whnf
 exact C0
 refine Nl [8] [] Ah ?_;refine L9 (s':=?_) rfl Dq ?_ ?_;rotate_left;refine Go.Sx.Hd A0 false ?_;conv=>whnf
 refine C52 (kb:=2) (kb2:=2) A0 rfl rfl rfl rfl rfl rfl rfl rfl rfl rfl rfl (pre++Iu Ad.c (l.take (k+1))) (Iu Ad.c (l.drop (k+1))++C9.take 4) (C9.drop 4) (pre++Iu Ad.c (l.take k)) (Iu Ad.c (l.drop k)) C9 (by exact c1) (by rw [D7,A3e,t3,p1]) (by rw [D7,A3e,A3e,t2,t4,t5];omega) (by exact c2) (by rw [D7,A3e,t1,p1]) (by rw [A3e,t2,show Nat.min (l.length+1-k) (l.length-k)=l.length-k from Nat.min_eq_right A7]) (by exact C8n Ad.c _) (Go.Sx.Hd A0 false ?_)
 conv=>whnf
 exact C0
 refine Ln A0 Ah Dq (GW.out (Go.Sx.Hd A0 false ?_));conv=>whnf
 rw [c3];refine Li A0 rfl ⟨by omega,by omega,by omega,fun _=>by omega,by omega⟩ (off * 4+k * 4) (l.length+1-k) (cap-k) Bi Bi Bi (Go.Sx.Hd A0 false ?_);conv=>whnf
 refine C51 (kb:=2) A0 rfl rfl rfl rfl rfl rfl rfl rfl rfl rfl (by exact Mz [x] _) (by exact Nat.one_pos) rfl (by show 1≤_;omega) (pre++Iu Ad.c (l.take k)) (Iu Ad.c [l.getD k default]) (Iu Ad.c (l.drop k)++C9.drop 4) rfl (by rw [D7,A3e,t1,p1]) (by rfl) (Go.Sx.Hd A0 false ?_)
 conv=>whnf
 rw [show Ha [x].length (fun i=>Ad.c ([x].getD i default))=Iu Ad.c [x] from Ws Ad.c [x]]
 refine B66 Tryz.prog 6 2 off 4 Ad.c (B3t l k x) pre (C9.drop 4) rfl (by rw [B6f];simp only [Cv]) (by exact p1) (fun _=>rfl) (Mz _ _) (by exact p3) (by exact ⟨by rw [Sw hk];exact hc,by rw [Sw hk,G4];omega⟩) rfl rfl rfl (by rw [Sw hk]) ?_;exact Zo A0 () trivial rfl rfl Mm
def O6 (l:List Ad) (x:Ad):Bool:=l.any fun y=>decide (y=x)
def N4 (l:List Ad) (x:Ad):Nat:=Hq (fun y=>!decide (Mw y x<0)) l
def Dc (l:List Ad) (x:Ad):List Ad:=if O6 l x=true then l else l.take (N4 l x)++x::l.drop (N4 l x)
def A2w (op e k:Int) (s:Int×Bool) (x:Ad):Int×Bool:=if (x.op=op∧x.ab=e∧x.key=k)∧(s.2=false∨x.val<s.1) then (x.val,true) else s
def Kz (l:List Ad) (op e k:Int):Int×Bool:=l.foldl (A2w op e k) (0,false)
def B5 (a b:Ad):Bool:=decide (a.op=b.op∧a.ab=b.ab∧a.key=b.key)
def A79 (l:List Ad) (x:Ad):Prop:=(Kz l x.op x.ab x.key).2=true∧(Kz l x.op x.ab x.key).1≤x.val
instance (l:List Ad) (x:Ad):Decidable (A79 l x):=by unfold A79;infer_instance
def Kg (l:List Ad) (x:Ad):List Ad×Bool:=if A79 l x then (l,false) else (Dc (l.filter fun y=>!B5 x y) x,true)
def Cs (k:Int) (l:List Ad) (x:Ad):List Ad×Bool:=
 if k=5∨k=8 then Kg l x else if k=6 then (if O6 l x=true then (l,false) else (Dc l x,true)) else (l,true)
end Go.Proofs.YtmhcebdkjgkmlaaGreatDoor
