/- Part 42 of the proof that each of the laws FnScriptsBack returns true for every input. No conditions. -/
import Derived.Test.YtmhcebdkjgkmlaaGreatDoorR35

set_option linter.unusedSimpArgs false
set_option linter.unusedVariables false
set_option maxRecDepth 100000
namespace Go.Proofs.YtmhcebdkjgkmlaaGreatDoor
open Go.Sx
variable {l : ByteArray}
theorem A0n (h:A2k l):Nn l 1=true∧(Du l 1).length=2:=by
 obtain ⟨h1,h2,_,h4,h5⟩:=h
 have hok:Nn l 1=true:=by
  rw [Nn,h1,D7 (by omega:1≤(A4 l).length),Ql];generalize A4 l=p at h2 h4 h5
  match p,h2 with
  | [a,b,c],_=>
   simp only [Wi,Zd,Wg,List.all_nil,A2h];rw [show Ty b=true from h4,show Ty c=true from h5]
   rfl
 refine ⟨hok,?_⟩;rw [(Kt hok).1,Hs,h2]
theorem B0m (h:Nn l 1=true)(hn:(Du l 1).length=2):Gk l=true∧(A4 l).length=3∧Ty ((A4 l).getD 1 default)=true∧Ty ((A4 l).getD 2 default)=true∧Du l 1=[Pw ((A4 l).getD 1 default),Pw ((A4 l).getD 2 default)]:=by
 have hi:=(Kt h).1;rw [hi] at hn ⊢;rw [Nn,Cj,Cj] at h;obtain ⟨⟨h1,h2⟩,h3⟩:=h;rw [Hs] at hn;have hl:(A4 l).length=3:=by have:=Bp h2;omega
 rw [Ql] at h3;rw [Gg];refine ⟨h1,hl,?_⟩;generalize A4 l=p at hl h3
 match p,hl with
 | [a,b,c],_=>
  simp only [Wi,Zd,Wg,List.all_nil,A2h,Cj] at h3;exact ⟨h3.1,h3.2,rfl⟩
theorem Ws {t:St}{r:B5×Bool}(c:t.1=true)(hst:Fp t l=Ji t.2 l∧J9 t l=(true,Ns t.2 l))(h:B6m t.2 l r)(hr:r.2=true):Fp t l=true∧J9 t l=(t.1,r.1):=by
 have h1:Ji t.2 l=true:=by rw [←h.1];exact hr
 exact ⟨hst.1.trans h1,by rw [hst.2,c,h.2 h1]⟩
theorem X0 {t:St}(hst:Fp t l=decide (A2k l)∧J9 t l=(true,⟨⟨t.2.az.ay,Pw ((A4 l).getD 1 default),Pw ((A4 l).getD 2 default)⟩,t.2.ap,t.2.an,t.2.aa⟩))(h:A2k l)(hn:Du l 1=[Pw ((A4 l).getD 1 default),Pw ((A4 l).getD 2 default)]):Fp t l=true∧J9 t l=(true,⟨⟨t.2.az.ay,(Du l 1).getD 0 default,(Du l 1).getD 1 default⟩,t.2.ap,t.2.an,t.2.aa⟩):=
 ⟨hst.1.trans (D7 h),by rw [hst.2,hn];rfl⟩
set_option maxHeartbeats 2000000 in
theorem Qd (x:ByteArray)(hx:x.size≤1048576):Ex Tryz.prog Tab 31 [.one (vs x)] [.agg (Ct x).1.c,.one (vi (Ct x).2)]:=by
 refine Kq A0 false Tryz.func31 rfl Bk fun W hW=>?_;conv=>whnf
 refine E3 (fun h0=>?_) fun h0=>?_
 ·have h0:12000<x.size:=by omega
  refine Af A0 rfl rfl ?_;rw [Vx h0];exact I1
 have h0:¬ 12000<x.size:=by omega
 have hlen:=A41 x;refine B6 ?_;refine F4 (D1n x hx) C6 hW rfl (Ag ?_);have hH:∀w,Er.rel ⟨W,fun _=>False⟩ w→Tab w:=fun w hr=>C6 W w (Mw hr) hW;have hp:Ln ⟨W,fun _=>False⟩ []:=fun _ h=>by cases h
 refine Xh 1 0 4 (fun i=>Ba.c (([]:List Ba).getD i default)) rfl rfl ?_;refine Xh 1 3 5 (fun i=>A9.c (([]:List A9).getD i default)) rfl rfl ?_;refine Xh 1 4 3 (fun i=>Cs.c (([]:List Cs).getD i default)) rfl rfl ?_;refine zlW [] (fun j:JS=>[(23,.c (vi j.k)),(5,.c (vb j.t.1))]) (fun j=>[⟨1,[.own 2,.c (vi j.t.2.az.aq),.c (vi j.t.2.az.cap),.own 3,.own 4,.c (vi j.t.2.aa)]⟩,⟨0,[.c (.val (.slice none 0 0)),.c (vi 0),.c (vi 0),.c (.val (.slice none 0 0)),.c (.val (.slice none 0 0)),.c (vi 0)]⟩]) (fun j=>[⟨2,Ay j.t.2.az.ay⟩,⟨3,Aa j.t.2.ap⟩,⟨4,Ch j.t.2.an⟩]) (fun j=>j.k≤(Bh x).length∧Rz (Bh x) j.k∧j.t=Nl (Bh x) j.k) (fun j=>(Bh x).length-j.k) (⟨0,st0⟩) (⟨Ff _,fun j hj=>absurd hj (Le _),rfl⟩) fun j hj=>?_;obtain ⟨hk,hg,ht⟩:=hj;refine E3 (fun hk2=>?_) fun hk2=>?_
 ·have hk2:j.k<(Bh x).length:=by omega
  have hl:=A56 h0 hk2;have hp0:=G9 ((Bh x).getD j.k default);have hp1:=B0p ((Bh x).getD j.k default);have hsc:Zf j.t.2:=by rw [ht];exact B03 j.k hk hg
  refine B6 ?_;refine F4 (Vk ((Bh x).getD j.k default) hl) C6 hW rfl (Ag ?_);refine C2 (fun a=>?_) fun a=>?_
  ·refine Ar ?_
   refine Mf (fun b=>?_) fun b=>?_
   ·refine Ar ?_
    have hb:Gb ((Bh x).getD j.k default):=⟨a,.inl A7⟩;have hgn:=K6 hg (by rw [←ht];exact ((Kz hb)).1);refine B6 ?_;refine Co [] (⟨j.k+1,j.t⟩) (⟨by show j.k+1≤_;omega,hgn,by show j.t=Nl _ (j.k+1);rw [J8 hk2,←ht];exact ((Kz hb)).2.symm⟩) (by show (Bh x).length-(j.k+1)<_;omega) ⟨rfl,rfl,trivial⟩ ⟨rfl,rfl,rfl,trivial⟩
   refine Ar ?_;have hx0:=hp1 _ (Am (d:=default) (show 0<(A4 ((Bh x).getD j.k default)).length by omega))
   refine B6 ?_;refine ⟨by exact ⟨T8 _,Int.natCast_pos.2 hx0⟩,?_⟩
   conv=>whnf
   refine Ar ?_;refine Mf (fun b2=>?_) fun b2=>?_
   ·refine Ar ?_
    have b2:C3 (H2 ((Bh x).getD j.k default)) 0=35:=UInt8.toNat_inj.1 (Int.ofNat.inj b2);have hb:Gb ((Bh x).getD j.k default):=⟨a,.inr b2⟩;have hgn:=K6 hg (by rw [←ht];exact ((Kz hb)).1);refine B6 ?_;refine Co [] (⟨j.k+1,j.t⟩) (⟨by show j.k+1≤_;omega,hgn,by show j.t=Nl _ (j.k+1);rw [J8 hk2,←ht];exact ((Kz hb)).2.symm⟩) (by show (Bh x).length-(j.k+1)<_;omega) ⟨rfl,rfl,trivial⟩ ⟨rfl,rfl,rfl,trivial⟩
   have hb:¬ Gb ((Bh x).getD j.k default):=fun c=>c.2.elim (fun c=>b A7) (fun c=>b2 (by show ((C3 (H2 ((Bh x).getD j.k default)) 0).toNat:Int)=_;rw [c];rfl))
   refine Ar ?_;refine C2 (fun c=>?_) fun c=>?_
   ·have hst:=A7r hb c
    refine Ar ?_;refine A4w [.agg [.own 2,.c (vi j.t.2.az.aq),.c (vi j.t.2.az.cap),.own 3,.own 4,.c (vi j.t.2.aa)]] (B9k j.t.2 ((Bh x).getD j.k default) hsc hl) hH hp I1 rfl rfl (fun r hr=>go A0 false ?_);conv=>whnf
    refine C2 (fun d=>?_) fun d=>?_
    ·have d:r.2=false:=by simpa using d
     refine Ar ?_;refine Af A0 rfl rfl ?_;rw [Dr h0 hk2 hg (by rw [←ht,hst.1,←hr.1];exact d)];exact I1
    have d:r.2=true:=by simpa using d
    refine Ar ?_;have hgn:=K6 hg (by rw [←ht];exact ((Ws c hst hr d)).1);refine B6 ?_;refine Co [(2,5),(3,6),(4,7)] (⟨j.k+1,(j.t.1,r.1)⟩) (⟨by show j.k+1≤_;omega,hgn,by show (j.t.1,r.1)=Nl _ (j.k+1);rw [J8 hk2,←ht];exact ((Ws c hst hr d)).2.symm⟩) (by show (Bh x).length-(j.k+1)<_;omega) ⟨rfl,rfl,trivial⟩ ⟨rfl,rfl,rfl,trivial⟩
   have c:j.t.1=false:=by simpa using c
   have hst:=A12 hb c;refine Ar ?_;refine F4 (Pt ((Bh x).getD j.k default) 1 hl Bk) C6 hW rfl (Ag ?_);refine C2 (fun d0=>?_) fun d0=>?_
   ·have d0:Nn ((Bh x).getD j.k default) 1=false:=by simpa using d0
    refine Ar ?_;refine Af A0 rfl rfl ?_;rw [Dr h0 hk2 hg (by rw [←ht,hst.1];exact Cx fun h=>by have:=(A0n h).1;rw [d0] at this;cases this)];exact I1
   have d0:Nn ((Bh x).getD j.k default) 1=true:=by simpa using d0
   have hpr:=Sw d0;refine Ar ?_;refine Xi (fun d=>?_) fun d=>?_
   ·have d:(Du ((Bh x).getD j.k default) 1).length≠2:=by omega
    refine Ar ?_;refine Af A0 rfl rfl ?_;rw [Dr h0 hk2 hg (by rw [←ht,hst.1];exact Cx fun h=>d (A0n h).2)];exact I1
   have d:(Du ((Bh x).getD j.k default) 1).length=2:=by omega
   obtain ⟨p1,p2,p3,p4,p5⟩:=B0m d0 d;have hpl:(S7 ((Bh x).getD j.k default) 1).length=3:=by rw [hpr];exact p2
   refine Ar ?_;refine C2 (fun g=>?_) fun g=>?_
   ·have g:H2 ((Bh x).getD j.k default)≠(⟨#[103,114,97,112,104]⟩:ByteArray):=fun e=>by
     rw [hpr,show (A4 ((Bh x).getD j.k default)).getD (Int.toNat 0) default=(⟨#[103,114,97,112,104]⟩:ByteArray) from e,Fm] at g
     cases g
    refine Ar ?_;refine Af A0 rfl rfl ?_;rw [Dr h0 hk2 hg (by rw [←ht,hst.1];exact Cx fun h=>g h.2.2.1)];exact I1
   have g:H2 ((Bh x).getD j.k default)=(⟨#[103,114,97,112,104]⟩:ByteArray):=by
    have:=B1h g
    rw [hpr] at this;exact this
   refine Ar ?_;refine Oj rfl (I0 0 rfl (I0 3 rfl (R0 1 4 ?_ ?_)))
   focus
    refine B6 ?_;refine Aq (R0 2 4 ?_ ?_)
    focus
     refine Aq (I0 6 rfl (I0 7 rfl (R0 4 8 ?_ ?_)))
     focus
      refine B6 ?_;refine Aq (R0 5 8 ?_ ?_)
      focus
       refine Aq ?_;refine Au [8] Ak ⟨?_,trivial⟩
      rotate_left 1
      focus
       refine Aq ?_;refine Au [5] Ak ⟨?_,trivial⟩
     rotate_left 2
     focus
      refine Aq (Ms 4 ?_);refine B6 ?_;refine Aq ?_;refine Au [5] Ak ⟨?_,trivial⟩
    rotate_left 3
    focus
     refine B6 ?_;refine Aq (R0 2 5 ?_ ?_)
     focus
      refine Aq (I0 6 rfl (I0 7 rfl (R0 5 8 ?_ ?_)))
      focus
       refine Aq ?_;refine Au [8] Ak ⟨?_,trivial⟩
      rotate_left 1
      focus
       refine Aq ?_;refine Au [5] Ak ⟨?_,trivial⟩
     rotate_left 2
     focus
      refine Aq (Ms 2 ?_);refine Aq (I0 6 rfl (I0 7 rfl ?_));refine Au [8] Ak ⟨?_,trivial⟩
   rotate_left 6
   focus
    refine B6 ?_;refine Aq (R0 1 5 ?_ ?_)
    focus
     refine B6 ?_;refine Aq (R0 2 5 ?_ ?_)
     focus
      refine Aq (I0 6 rfl (I0 7 rfl (R0 5 8 ?_ ?_)))
      focus
       refine Aq ?_;refine Au [8] Ak ⟨?_,trivial⟩
      rotate_left 1
      focus
       refine Aq ?_;refine Au [5] Ak ⟨?_,trivial⟩
     rotate_left 2
     focus
      refine Aq (Ms 2 ?_);refine Aq (I0 6 rfl (I0 7 rfl ?_));refine Au [8] Ak ⟨?_,trivial⟩
    rotate_left 3
    focus
     refine Aq (Ms 1 ?_);refine B6 ?_;refine Aq (Ms 2 ?_);refine Aq (I0 6 rfl (I0 7 rfl ?_));refine Au [8] Ak ⟨?_,trivial⟩
   all_goals
    refine Ag ?_;refine Aq (I0 9 rfl (I0 10 rfl (Ms 11 ?_)));refine Aq (Oi Ak (Ag ?_))
   all_goals
    have hgn:=K6 hg (by rw [←ht];exact ((X0 hst ⟨p1,p2,g,p3,p4⟩ p5)).1);refine B6 ?_;refine Co [] (⟨j.k+1,(true,⟨⟨j.t.2.az.ay,(Du ((Bh x).getD j.k default) 1).getD 0 default,(Du ((Bh x).getD j.k default) 1).getD 1 default⟩,j.t.2.ap,j.t.2.an,j.t.2.aa⟩)⟩) (⟨by show j.k+1≤_;omega,hgn,by show (true,⟨⟨j.t.2.az.ay,(Du ((Bh x).getD j.k default) 1).getD 0 default,(Du ((Bh x).getD j.k default) 1).getD 1 default⟩,j.t.2.ap,j.t.2.an,j.t.2.aa⟩)=Nl _ (j.k+1);rw [J8 hk2,←ht];exact ((X0 hst ⟨p1,p2,g,p3,p4⟩ p5)).2.symm⟩) (by show (Bh x).length-(j.k+1)<_;omega) ⟨rfl,rfl,trivial⟩ ⟨rfl,rfl,rfl,trivial⟩
  have a:Gk ((Bh x).getD j.k default)=false:=by simpa using a
  have hb:¬ Gb ((Bh x).getD j.k default):=fun c=>by have:=c.1;rw [a] at this;cases this
  refine Ar ?_;refine C2 (fun c=>?_) fun c=>?_
  ·have hst:=A7r hb c
   refine Ar ?_;refine A4w [.agg [.own 2,.c (vi j.t.2.az.aq),.c (vi j.t.2.az.cap),.own 3,.own 4,.c (vi j.t.2.aa)]] (B9k j.t.2 ((Bh x).getD j.k default) hsc hl) hH hp I1 rfl rfl (fun r hr=>go A0 false ?_);conv=>whnf
   refine C2 (fun d=>?_) fun d=>?_
   ·have d:r.2=false:=by simpa using d
    refine Ar ?_;refine Af A0 rfl rfl ?_;rw [Dr h0 hk2 hg (by rw [←ht,hst.1,←hr.1];exact d)];exact I1
   have d:r.2=true:=by simpa using d
   refine Ar ?_;have hgn:=K6 hg (by rw [←ht];exact ((Ws c hst hr d)).1);refine B6 ?_;refine Co [(2,5),(3,6),(4,7)] (⟨j.k+1,(j.t.1,r.1)⟩) (⟨by show j.k+1≤_;omega,hgn,by show (j.t.1,r.1)=Nl _ (j.k+1);rw [J8 hk2,←ht];exact ((Ws c hst hr d)).2.symm⟩) (by show (Bh x).length-(j.k+1)<_;omega) ⟨rfl,rfl,trivial⟩ ⟨rfl,rfl,rfl,trivial⟩
  have c:j.t.1=false:=by simpa using c
  have hst:=A12 hb c;refine Ar ?_;refine F4 (Pt ((Bh x).getD j.k default) 1 hl Bk) C6 hW rfl (Ag ?_);refine C2 (fun d0=>?_) fun d0=>?_
  ·have d0:Nn ((Bh x).getD j.k default) 1=false:=by simpa using d0
   refine Ar ?_;refine Af A0 rfl rfl ?_;rw [Dr h0 hk2 hg (by rw [←ht,hst.1];exact Cx fun h=>by have:=(A0n h).1;rw [d0] at this;cases this)];exact I1
  have d0:Nn ((Bh x).getD j.k default) 1=true:=by simpa using d0
  have hpr:=Sw d0;refine Ar ?_;refine Xi (fun d=>?_) fun d=>?_
  ·have d:(Du ((Bh x).getD j.k default) 1).length≠2:=by omega
   refine Ar ?_;refine Af A0 rfl rfl ?_;rw [Dr h0 hk2 hg (by rw [←ht,hst.1];exact Cx fun h=>d (A0n h).2)];exact I1
  have d:(Du ((Bh x).getD j.k default) 1).length=2:=by omega
  obtain ⟨p1,p2,p3,p4,p5⟩:=B0m d0 d;have hpl:(S7 ((Bh x).getD j.k default) 1).length=3:=by rw [hpr];exact p2
  refine Ar ?_;refine C2 (fun g=>?_) fun g=>?_
  ·have g:H2 ((Bh x).getD j.k default)≠(⟨#[103,114,97,112,104]⟩:ByteArray):=fun e=>by
    rw [hpr,show (A4 ((Bh x).getD j.k default)).getD (Int.toNat 0) default=(⟨#[103,114,97,112,104]⟩:ByteArray) from e,Fm] at g
    cases g
   refine Ar ?_;refine Af A0 rfl rfl ?_;rw [Dr h0 hk2 hg (by rw [←ht,hst.1];exact Cx fun h=>g h.2.2.1)];exact I1
  have g:H2 ((Bh x).getD j.k default)=(⟨#[103,114,97,112,104]⟩:ByteArray):=by
   have:=B1h g
   rw [hpr] at this;exact this
  refine Ar ?_;refine Oj rfl (I0 0 rfl (I0 3 rfl (R0 1 4 ?_ ?_)))
  focus
   refine B6 ?_;refine Aq (R0 2 4 ?_ ?_)
   focus
    refine Aq (I0 6 rfl (I0 7 rfl (R0 4 8 ?_ ?_)))
    focus
     refine B6 ?_;refine Aq (R0 5 8 ?_ ?_)
     focus
      refine Aq ?_;refine Au [8] Ak ⟨?_,trivial⟩
     rotate_left 1
     focus
      refine Aq ?_;refine Au [5] Ak ⟨?_,trivial⟩
    rotate_left 2
    focus
     refine Aq (Ms 4 ?_);refine B6 ?_;refine Aq ?_;refine Au [5] Ak ⟨?_,trivial⟩
   rotate_left 3
   focus
    refine B6 ?_;refine Aq (R0 2 5 ?_ ?_)
    focus
     refine Aq (I0 6 rfl (I0 7 rfl (R0 5 8 ?_ ?_)))
     focus
      refine Aq ?_;refine Au [8] Ak ⟨?_,trivial⟩
     rotate_left 1
     focus
      refine Aq ?_;refine Au [5] Ak ⟨?_,trivial⟩
    rotate_left 2
    focus
     refine Aq (Ms 2 ?_);refine Aq (I0 6 rfl (I0 7 rfl ?_));refine Au [8] Ak ⟨?_,trivial⟩
  rotate_left 6
  focus
   refine B6 ?_;refine Aq (R0 1 5 ?_ ?_)
   focus
    refine B6 ?_;refine Aq (R0 2 5 ?_ ?_)
    focus
     refine Aq (I0 6 rfl (I0 7 rfl (R0 5 8 ?_ ?_)))
     focus
      refine Aq ?_;refine Au [8] Ak ⟨?_,trivial⟩
     rotate_left 1
     focus
      refine Aq ?_;refine Au [5] Ak ⟨?_,trivial⟩
    rotate_left 2
    focus
     refine Aq (Ms 2 ?_);refine Aq (I0 6 rfl (I0 7 rfl ?_));refine Au [8] Ak ⟨?_,trivial⟩
   rotate_left 3
   focus
    refine Aq (Ms 1 ?_);refine B6 ?_;refine Aq (Ms 2 ?_);refine Aq (I0 6 rfl (I0 7 rfl ?_));refine Au [8] Ak ⟨?_,trivial⟩
  all_goals
   refine Ag ?_;refine Aq (I0 9 rfl (I0 10 rfl (Ms 11 ?_)));refine Aq (Oi Ak (Ag ?_))
  all_goals
   have hgn:=K6 hg (by rw [←ht];exact ((X0 hst ⟨p1,p2,g,p3,p4⟩ p5)).1);refine B6 ?_;refine Co [] (⟨j.k+1,(true,⟨⟨j.t.2.az.ay,(Du ((Bh x).getD j.k default) 1).getD 0 default,(Du ((Bh x).getD j.k default) 1).getD 1 default⟩,j.t.2.ap,j.t.2.an,j.t.2.aa⟩)⟩) (⟨by show j.k+1≤_;omega,hgn,by show (true,⟨⟨j.t.2.az.ay,(Du ((Bh x).getD j.k default) 1).getD 0 default,(Du ((Bh x).getD j.k default) 1).getD 1 default⟩,j.t.2.ap,j.t.2.an,j.t.2.aa⟩)=Nl _ (j.k+1);rw [J8 hk2,←ht];exact ((X0 hst ⟨p1,p2,g,p3,p4⟩ p5)).2.symm⟩) (by show (Bh x).length-(j.k+1)<_;omega) ⟨rfl,rfl,trivial⟩ ⟨rfl,rfl,rfl,trivial⟩
 have e:j.k=(Bh x).length:=by omega
 refine C2 (fun a=>?_) fun a=>?_
 ·have a:j.t.1=false:=by simpa using a
  refine Ar ?_;refine Af A0 rfl rfl ?_;rw [Oc h0 e hg (fun c=>by have:=c.1;rw [←ht,a] at this;cases this)];exact I1
 have a:j.t.1=true:=by simpa using a
 have hgw:=(show Zf j.t.2 by rw [ht];exact B03 j.k hk hg).w.1
 refine Ar ?_;refine Ao (Je j.t.2.az A7) rfl (Ft ?_);refine C2 (fun b=>?_) fun b=>?_
 ·have b:Eh j.t.2.az=false:=by simpa using b
  refine Ar ?_;refine Af A0 rfl rfl ?_;rw [Oc h0 e hg (fun c=>by have:=c.2;rw [←ht,b] at this;cases this)];exact I1
 have b:Eh j.t.2.az=true:=by simpa using b
 refine Ar ?_;have hr:=Qp h0 e hg (by rw [←ht];exact ⟨a,b⟩);rw [←ht] at hr;refine Af A0 rfl rfl ?_;rw [hr];exact I1
end Go.Proofs.YtmhcebdkjgkmlaaGreatDoor
