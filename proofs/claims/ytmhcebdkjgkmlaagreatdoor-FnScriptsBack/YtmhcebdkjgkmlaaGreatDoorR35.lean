/- Part 35 of the proof that each of the laws FnScriptsBack returns true for every input. No conditions. -/
import Derived.Test.YtmhcebdkjgkmlaaGreatDoorR28
import Derived.Test.YtmhcebdkjgkmlaaGreatDoorR29

set_option linter.unusedSimpArgs false
set_option linter.unusedVariables false
set_option maxRecDepth 100000
namespace Go.Proofs.YtmhcebdkjgkmlaaGreatDoor
open Go.Sx
structure JS where
 k:Nat
 t:St
theorem A56 {x:ByteArray}(h:¬ 12000<x.size){k:Nat}(hk:k<(Bh x).length):((Bh x).getD k default).size≤1048576:=by
 have:=C1n x _ (Am (d:=default) hk)
 omega
variable {t : St} {l : ByteArray}
theorem Kz (h:Gb l):Fp t l=true∧J9 t l=t:=⟨by rw [Fp,Ah h],by rw [J9,Ah h]⟩
theorem A7r (h:¬ Gb l)(hb:t.1=true):Fp t l=Ji t.2 l∧J9 t l=(true,Ns t.2 l):=⟨by rw [Fp,Ab h,Ah hb],by rw [J9,Ab h,Ah hb]⟩
theorem A12 (h:¬ Gb l)(hb:t.1=false):Fp t l=decide (A2k l)∧J9 t l=(true,⟨⟨t.2.az.ay,Pw ((A4 l).getD 1 default),Pw ((A4 l).getD 2 default)⟩,t.2.ap,t.2.an,t.2.aa⟩):=
 ⟨by rw [Fp,Ab h,Ab (by rw [hb];decide)],by rw [J9,Ab h,Ab (by rw [hb];decide)]⟩
theorem B8w (h:Gk l=false):Fp t l=false:=by
 have hb:¬ Gb l:=fun c=>by rw [Gb,h] at c;exact absurd c.1 Bk
 rw [Fp,Ab hb]
 split
 ·refine Wh.2 fun c=>?_
  have:=C01 c
  rw [h] at this
  cases this
 exact Cx fun c=>by have:=c.1;rw [h] at this;cases this
variable {r : B5 × Bool}
theorem B6s {s:B5}(h:Uy s l r)(hr:r.2=false):Ji s l=false:=by
 refine Wh.2 fun c=>?_;rw [Uy,Ah c] at h;rw [h] at hr
 cases hr
theorem C00 {s:B5}(h:Uy s l r)(hr:r.2=true):Ji s l=true∧r.1=Ns s l:=by
 by_cases c:Ji s l=true
 ·rw [Uy,Ah c] at h
  exact ⟨c,by rw [h]⟩
 rw [Uy,Ab c] at h;rw [h] at hr
 cases hr
theorem C0z (hst:Fp t l=Ji t.2 l∧J9 t l=(true,Ns t.2 l))(h:Uy t.2 l r)(hr:r.2=true):Fp t l=true∧J9 t l=(true,r.1):=by
 obtain ⟨h1,h2⟩:=C00 h hr;exact ⟨hst.1.trans h1,by rw [hst.2,h2]⟩
theorem A4o (c:t.1=true)(hst:Fp t l=Ji t.2 l∧J9 t l=(true,Ns t.2 l))(h:Uy t.2 l r)(hr:r.2=true):Fp t l=true∧J9 t l=(t.1,r.1):=by
 rw [c];exact C0z hst h hr
theorem B1h {a b:ByteArray}(h:(!(a==b))=false):a=b:=Lq (by simpa using h)
set_option maxHeartbeats 2000000 in
theorem A7m (x:ByteArray)(hx:x.size≤1048576):Df 32 [.one (vs x)] [.agg (Ct x).1.c,.one (vi (Ct x).2)]:=by
 refine Dy Tryz.func32 fun W=>?_;refine E3 (fun h0=>?_) fun h0=>?_
 ·have h0:12000<x.size:=by omega
  refine Af A0 rfl rfl ?_;rw [Vx h0];exact I1
 have h0:¬ 12000<x.size:=by omega
 have hlen:=A41 x;refine B6 ?_;refine Fh (C95 x hx) ?_;have hH:∀w,Er.rel ⟨W,fun _=>False⟩ w→HT w:=fun _ _=>trivial
 have hp:Ln ⟨W,fun _=>False⟩ []:=fun _ h=>by cases h
 refine Xh 1 0 4 (fun i=>Ba.c (([]:List Ba).getD i default)) rfl rfl ?_;refine Xh 1 3 5 (fun i=>A9.c (([]:List A9).getD i default)) rfl rfl ?_;refine Xh 1 4 3 (fun i=>Cs.c (([]:List Cs).getD i default)) rfl rfl ?_;refine zlW [] (fun j:JS=>[(7,.c (vi j.k)),(5,.c (vb j.t.1))]) (fun j=>[⟨1,[.own 2,.c (vi j.t.2.az.aq),.c (vi j.t.2.az.cap),.own 3,.own 4,.c (vi j.t.2.aa)]⟩,⟨0,[.c (.val (.slice none 0 0)),.c (vi 0),.c (vi 0),.c (.val (.slice none 0 0)),.c (.val (.slice none 0 0)),.c (vi 0)]⟩]) (fun j=>[⟨2,Ay j.t.2.az.ay⟩,⟨3,Aa j.t.2.ap⟩,⟨4,Ch j.t.2.an⟩]) (fun j=>j.k≤(Bh x).length∧Rz (Bh x) j.k∧j.t=Nl (Bh x) j.k) (fun j=>(Bh x).length-j.k) (⟨0,st0⟩) (⟨Ff _,fun j hj=>absurd hj (Le _),rfl⟩) fun j hj=>?_;obtain ⟨hk,hg,ht⟩:=hj;refine E3 (fun hk2=>?_) fun hk2=>?_
 ·have hk2:j.k<(Bh x).length:=by omega
  have hl:=A56 h0 hk2;have hp0:=G9 ((Bh x).getD j.k default);have hp1:=B0p ((Bh x).getD j.k default);have hsc:Zf j.t.2:=by rw [ht];exact B03 j.k hk hg
  refine B6 ?_;refine Fh (Rr ((Bh x).getD j.k default) hl) ?_;refine C2 (fun a=>?_) fun a=>?_
  ·have a2:(!Gk ((Bh x).getD j.k default))=false:=by rw [a];rfl
   refine Ar ?_;refine Mf (fun b=>?_) fun b=>?_
   ·refine Ar ?_
    have hb:Gb ((Bh x).getD j.k default):=⟨a,.inl A7⟩;have hgn:=K6 hg (by rw [←ht];exact ((Kz hb)).1);refine B6 ?_;refine Co [] (⟨j.k+1,j.t⟩) (⟨by show j.k+1≤_;omega,hgn,by show j.t=Nl _ (j.k+1);rw [J8 hk2,←ht];exact ((Kz hb)).2.symm⟩) (by show (Bh x).length-(j.k+1)<_;omega) ⟨rfl,rfl,trivial⟩ ⟨rfl,rfl,rfl,trivial⟩
   refine Ar ?_;have hx0:=hp1 _ (Am (d:=default) (show 0<(A4 ((Bh x).getD j.k default)).length by omega))
   refine B6 ?_;refine ⟨by exact ⟨T8 _,Int.natCast_pos.2 hx0⟩,?_⟩
   conv=>whnf
   refine Ar ?_;refine Mf (fun b2=>?_) fun b2=>?_
   ·refine Ar ?_
    have b2:C3 (H2 ((Bh x).getD j.k default)) 0=35:=UInt8.toNat_inj.1 (Int.ofNat.inj b2);have hb:Gb ((Bh x).getD j.k default):=⟨a,.inr b2⟩;have hgn:=K6 hg (by rw [←ht];exact ((Kz hb)).1);refine B6 ?_;refine Co [] (⟨j.k+1,j.t⟩) (⟨by show j.k+1≤_;omega,hgn,by show j.t=Nl _ (j.k+1);rw [J8 hk2,←ht];exact ((Kz hb)).2.symm⟩) (by show (Bh x).length-(j.k+1)<_;omega) ⟨rfl,rfl,trivial⟩ ⟨rfl,rfl,rfl,trivial⟩
   have hb:¬ Gb ((Bh x).getD j.k default):=fun c=>c.2.elim (fun c=>b A7) (fun c=>b2 (by show ((C3 (H2 ((Bh x).getD j.k default)) 0).toNat:Int)=_;rw [c];rfl))
   refine Ar ?_;refine C2 (fun c=>?_) fun c=>?_
   ·have hst:=A7r hb c
    refine Ar ?_;refine Ix (C94 j.t.2 ((Bh x).getD j.k default) hsc hl a) hH hp fun r hr=>?_;refine C2 (fun d=>?_) fun d=>?_
    ·have d:r.2=false:=by simpa using d
     refine Ar ?_;refine Af A0 rfl rfl ?_;rw [Dr h0 hk2 hg (by rw [←ht,hst.1];exact B6s hr d)];exact I1
    have d:r.2=true:=by simpa using d
    refine Ar ?_;have hgn:=K6 hg (by rw [←ht];exact ((A4o c hst hr d)).1);refine B6 ?_;refine Co [(2,5),(3,6),(4,7)] (⟨j.k+1,(j.t.1,r.1)⟩) (⟨by show j.k+1≤_;omega,hgn,by show (j.t.1,r.1)=Nl _ (j.k+1);rw [J8 hk2,←ht];exact ((A4o c hst hr d)).2.symm⟩) (by show (Bh x).length-(j.k+1)<_;omega) ⟨rfl,rfl,trivial⟩ ⟨rfl,rfl,rfl,trivial⟩
   have c:j.t.1=false:=by simpa using c
   have hst:=A12 hb c;refine Ar ?_;refine Xi (fun d=>?_) fun d=>?_
   ·refine Ar ?_
    refine Af A0 rfl rfl ?_;rw [Dr h0 hk2 hg (by rw [←ht,hst.1];exact Cx fun h=>d (by rw [h.2.1];rfl))];exact I1
   have d:(A4 ((Bh x).getD j.k default)).length=3:=by omega
   have hx1:=hp0 _ (Am (d:=default) (show 1<(A4 ((Bh x).getD j.k default)).length by omega))
   have hx2:=hp0 _ (Am (d:=default) (show 2<(A4 ((Bh x).getD j.k default)).length by omega))
   refine Ar ?_;refine C2 (fun g=>?_) fun g=>?_
   ·have g:H2 ((Bh x).getD j.k default)≠(⟨#[103,114,97,112,104]⟩:ByteArray):=fun e=>by
     rw [show (A4 ((Bh x).getD j.k default)).getD (Int.toNat 0) default=(⟨#[103,114,97,112,104]⟩:ByteArray) from e,Fm] at g
     cases g
    refine Ar ?_;refine Af A0 rfl rfl ?_;rw [Dr h0 hk2 hg (by rw [←ht,hst.1];exact Cx fun h=>g h.2.2.1)];exact I1
   have g:H2 ((Bh x).getD j.k default)=(⟨#[103,114,97,112,104]⟩:ByteArray):=B1h g;refine Ar ?_;refine Ao (Ha ((A4 ((Bh x).getD j.k default)).getD 1 default) A7) rfl (F1 ?_);refine Fh (Ha ((A4 ((Bh x).getD j.k default)).getD 2 default) A7) ?_;refine C2 (fun e1=>?_) fun e1=>?_
   ·have e1:Ty ((A4 ((Bh x).getD j.k default)).getD 1 default)=false:=by simpa using e1
    refine Ar ?_;refine Af A0 rfl rfl ?_;rw [Dr h0 hk2 hg (by rw [←ht,hst.1];exact Cx fun h=>by have:=h.2.2.2.1;rw [e1] at this;cases this)];exact I1
   have e1:Ty ((A4 ((Bh x).getD j.k default)).getD 1 default)=true:=by simpa using e1
   refine Ar ?_;refine C2 (fun e2=>?_) fun e2=>?_
   ·have e2:Ty ((A4 ((Bh x).getD j.k default)).getD 2 default)=false:=by simpa using e2
    refine Ar ?_;refine Af A0 rfl rfl ?_;rw [Dr h0 hk2 hg (by rw [←ht,hst.1];exact Cx fun h=>by have:=h.2.2.2.2;rw [e2] at this;cases this)];exact I1
   have e2:Ty ((A4 ((Bh x).getD j.k default)).getD 2 default)=true:=by simpa using e2
   refine Ar ?_;have hgn:=K6 hg (by rw [←ht];exact ((show _∧_ from ⟨hst.1.trans (D7 ⟨a,d,g,e1,e2⟩),hst.2⟩)).1)
   refine B6 ?_;refine Co [] (⟨j.k+1,(true,⟨⟨j.t.2.az.ay,Pw ((A4 ((Bh x).getD j.k default)).getD 1 default),Pw ((A4 ((Bh x).getD j.k default)).getD 2 default)⟩,j.t.2.ap,j.t.2.an,j.t.2.aa⟩)⟩) (⟨by show j.k+1≤_;omega,hgn,by show (true,⟨⟨j.t.2.az.ay,Pw ((A4 ((Bh x).getD j.k default)).getD 1 default),Pw ((A4 ((Bh x).getD j.k default)).getD 2 default)⟩,j.t.2.ap,j.t.2.an,j.t.2.aa⟩)=Nl _ (j.k+1);rw [J8 hk2,←ht];exact ((show _∧_ from ⟨hst.1.trans (D7 ⟨a,d,g,e1,e2⟩),hst.2⟩)).2.symm⟩) (by show (Bh x).length-(j.k+1)<_;omega) ⟨rfl,rfl,trivial⟩ ⟨rfl,rfl,rfl,trivial⟩
  have a:Gk ((Bh x).getD j.k default)=false:=by simpa using a
  have a2:(!Gk ((Bh x).getD j.k default))=true:=by rw [a];rfl
  refine Ar ?_;refine Af A0 rfl rfl ?_;rw [Dr h0 hk2 hg (B8w a)];exact I1
 have e:j.k=(Bh x).length:=by omega
 refine C2 (fun a=>?_) fun a=>?_
 ·have a:j.t.1=false:=by simpa using a
  refine Ar ?_;refine Af A0 rfl rfl ?_;rw [Oc h0 e hg (fun c=>by have:=c.1;rw [←ht,a] at this;cases this)];exact I1
 have a:j.t.1=true:=by simpa using a
 have hgw:=(show Zf j.t.2 by rw [ht];exact B03 j.k hk hg).w.1
 refine Ar ?_;refine Ao (Mn j.t.2.az A7) rfl (Ft ?_);refine C2 (fun b=>?_) fun b=>?_
 ·have b:Eh j.t.2.az=false:=by simpa using b
  refine Ar ?_;refine Af A0 rfl rfl ?_;rw [Oc h0 e hg (fun c=>by have:=c.2;rw [←ht,b] at this;cases this)];exact I1
 have b:Eh j.t.2.az=true:=by simpa using b
 refine Ar ?_;have hr:=Qp h0 e hg (by rw [←ht];exact ⟨a,b⟩);rw [←ht] at hr;refine Af A0 rfl rfl ?_;rw [hr];exact I1
def B6m (s:B5) (l:ByteArray) (r:B5×Bool):Prop:=r.2=Ji s l∧(Ji s l=true→r.1=Ns s l)
variable {s : B5} {l : ByteArray}
theorem C0v (c:Dw l=true):B6m s l (⟨⟨s.az.ay++[G3 l],s.az.aq,s.az.cap⟩,s.ap,s.an,s.aa⟩,decide (((s.az.ay++[G3 l]).length:Int)≤8)):=by
 refine ⟨?_,fun _=>by rw [Ns,Ah c]⟩
 rw [Ji,Ah c,Dn,Jb];exact Um.2 A7
theorem C7x (c:Gp l=true)(cn:Dw l=false):B6m s l (⟨s.az,s.ap++[Kj l],s.an,s.aa⟩,decide (((s.ap++[Kj l]).length:Int)≤20)):=by
 refine ⟨?_,fun _=>by rw [Ns,Ab (by rw [cn];decide),Ah c]⟩;rw [Ji,Ab (by rw [cn];decide),Ah c,Dn,Jb];exact Um.2 A7
theorem C0w (c:Eo l=true)(cn:Dw l=false)(ci:Gp l=false):B6m s l (⟨s.az,s.ap,s.an++[G4 l],s.aa⟩,decide (((s.an++[G4 l]).length:Int)≤200)):=by
 refine ⟨?_,fun _=>by rw [Ns,Ab (by rw [cn];decide),Ab (by rw [ci];decide),Ah c]⟩;rw [Ji,Ab (by rw [cn];decide),Ab (by rw [ci];decide),Ah c,Dn,Jb];exact Um.2 A7
theorem A3x (h:A2j s l)(hf:¬ Q3 l):B6m s l (s,false):=by
 refine ⟨by rw [h.1,Cx hf],fun c=>?_⟩;rw [h.1,Cx hf] at c
 cases c
theorem C3w (h:A2j s l)(hf:Q3 l):B6m s l (⟨s.az,s.ap,s.an,Pw ((A4 l).getD 1 default)⟩,true):=
 ⟨by rw [h.1,D7 hf],fun _=>(h.2 hf).symm⟩
theorem C6c (h:Q3 l):Nn l 1=true:=by
 obtain ⟨h1,h2,_,h4,_⟩:=h;rw [Nn,h1,D7 (by omega:1≤(A4 l).length),Ql];generalize A4 l=p at h2 h4
 match p,h2 with
 | [a,b],_=>
  simp only [Wi,Zd,Wg,List.all_nil,A2h];exact h4
theorem C9e (h:Nn l 1=true)(hn:(Du l 1).length=1):Gk l=true∧(A4 l).length=2∧Ty ((A4 l).getD 1 default)=true∧Du l 1=[Pw ((A4 l).getD 1 default)]:=by
 have hi:=(Kt h).1;rw [hi] at hn ⊢;rw [Nn,Cj,Cj] at h;obtain ⟨⟨h1,h2⟩,h3⟩:=h;rw [Hs] at hn;have hl:(A4 l).length=2:=by have:=Bp h2;omega
 rw [Ql] at h3;rw [Gg];refine ⟨h1,hl,?_⟩;generalize A4 l=p at hl h3
 match p,hl with
 | [a,b],_=>
  simp only [Wi,Zd,Wg,List.all_nil,A2h] at h3;exact ⟨h3,rfl⟩
set_option maxHeartbeats 2000000 in
theorem B9k (s:B5)(l:ByteArray)(hs:Zf s)(hl:l.size≤1048576):P1 Tryz.prog Tab 81 [] [.agg s.c] [.one (vs l)] (B6m s l) (fun r=>[.agg r.1.c,.one (vb r.2)]):=by
 obtain ⟨n1,n2,n3,n4⟩:=hs;refine A1e A0 false Tryz.func81 rfl Bk fun B hH hp=>?_;conv=>whnf
 conv=>whnf
 refine B60 (B10 l hl) hH rfl (Ag ?_);refine C2 (fun c=>?_) fun c=>?_
 ·refine Lg A0 rfl rfl rfl rfl (Ag ?_)
  refine Bg A0 rfl (Ay (s.az.ay++[G3 l])) (An rfl) Ij A7 (Ag ?_);refine Oj rfl (I0 1 rfl (I0 2 rfl (R0 0 3 ?_ ?_)))
  focus
   refine Aq (R0 3 6 ?_ ?_)
   focus
    refine Aq (R0 4 6 ?_ ?_)
    focus
     refine Aq (I0 5 rfl (Ms 6 ?_));refine Aq ?_
    rotate_left 1
    focus
     refine Aq (Ms 4 ?_);refine Aq (I0 5 rfl ?_)
   rotate_left 2
   focus
    refine Aq (Ms 3 ?_);refine Aq (Ms 4 ?_);refine Aq (I0 5 rfl ?_)
  rotate_left 3
  focus
   refine Aq (R0 0 4 ?_ ?_)
   focus
    refine Aq (R0 4 6 ?_ ?_)
    focus
     refine Aq (I0 5 rfl (Ms 6 ?_));refine Aq ?_
    rotate_left 1
    focus
     refine Aq (Ms 4 ?_);refine Aq (I0 5 rfl ?_)
   rotate_left 2
   focus
    refine Aq (I0 5 rfl (Ms 0 ?_));refine Aq (Ms 6 ?_);refine Aq ?_
  all_goals
   refine I0 7 rfl ?_;refine Oi Ak (Ag ?_)
  all_goals exact V0 A0 (⟨⟨s.az.ay++[G3 l],s.az.aq,s.az.cap⟩,s.ap,s.an,s.aa⟩,_) (C0v c) rfl rfl I1
 have c:Dw l=false:=by simpa using c
 refine B60 (A8z l hl) hH rfl (Ag ?_);refine C2 (fun c1=>?_) fun c1=>?_
 ·refine Bg A0 rfl (Aa (s.ap++[Kj l])) (An rfl) Ij A7 (Ag ?_)
  refine Oj rfl (I0 1 rfl (R0 0 2 ?_ ?_))
  focus
   refine Aq (R0 2 5 ?_ ?_)
   focus
    refine Aq (R0 3 5 ?_ ?_)
    focus
     refine Aq (I0 4 rfl (Ms 5 ?_));refine Aq ?_
    rotate_left 1
    focus
     refine Aq (Ms 3 ?_);refine Aq (I0 4 rfl ?_)
   rotate_left 2
   focus
    refine Aq (Ms 2 ?_);refine Aq (Ms 3 ?_);refine Aq (I0 4 rfl ?_)
  rotate_left 3
  focus
   refine Aq (R0 0 3 ?_ ?_)
   focus
    refine Aq (R0 3 5 ?_ ?_)
    focus
     refine Aq (I0 4 rfl (Ms 5 ?_));refine Aq ?_
    rotate_left 1
    focus
     refine Aq (Ms 3 ?_);refine Aq (I0 4 rfl ?_)
   rotate_left 2
   focus
    refine Aq (I0 4 rfl (Ms 0 ?_));refine Aq (Ms 5 ?_);refine Aq ?_
  all_goals
   refine I0 6 rfl ?_;refine Oi Ak (Ag ?_)
  all_goals exact V0 A0 (⟨s.az,s.ap++[Kj l],s.an,s.aa⟩,_) (C7x c1 c) rfl rfl I1
 have c1:Gp l=false:=by simpa using c1
 refine B60 (B11 l hl) hH rfl (Ag ?_);refine C2 (fun c2=>?_) fun c2=>?_
 ·refine Bg A0 rfl (Ch (s.an++[G4 l])) (An rfl) Ij A7 (Ag ?_)
  refine Oj rfl (I0 1 rfl (R0 0 2 ?_ ?_))
  focus
   refine Aq (R0 2 5 ?_ ?_)
   focus
    refine Aq (R0 3 5 ?_ ?_)
    focus
     refine Aq (I0 4 rfl (Ms 5 ?_));refine Aq ?_
    rotate_left 1
    focus
     refine Aq (Ms 3 ?_);refine Aq (I0 4 rfl ?_)
   rotate_left 2
   focus
    refine Aq (Ms 2 ?_);refine Aq (Ms 3 ?_);refine Aq (I0 4 rfl ?_)
  rotate_left 3
  focus
   refine Aq (R0 0 3 ?_ ?_)
   focus
    refine Aq (R0 3 5 ?_ ?_)
    focus
     refine Aq (I0 4 rfl (Ms 5 ?_));refine Aq ?_
    rotate_left 1
    focus
     refine Aq (Ms 3 ?_);refine Aq (I0 4 rfl ?_)
   rotate_left 2
   focus
    refine Aq (I0 4 rfl (Ms 0 ?_));refine Aq (Ms 5 ?_);refine Aq ?_
  all_goals
   refine I0 6 rfl ?_;refine Oi Ak (Ag ?_)
  all_goals exact V0 A0 (⟨s.az,s.ap,s.an++[G4 l],s.aa⟩,_) (C0w c2 c c1) rfl rfl I1
 have c2:Eo l=false:=by simpa using c2
 have hf:=A48 (s:=s) c c1 c2;refine D0y (Pt l 1 hl Bk) hH rfl (Ag ?_);refine C2 (fun g0=>?_) fun g0=>?_
 ·have g0:Nn l 1=false:=by simpa using g0
  refine Ar ?_;exact V0 A0 (s,false) (A3x hf (fun h=>by have:=C6c h;rw [g0] at this;cases this)) rfl rfl I1
 have g0:Nn l 1=true:=by simpa using g0
 have hpr:=Sw g0;have hnr:=(Kt g0).1;refine Ar ?_;refine Xi (fun g1=>?_) fun g1=>?_
 ·have g1:(Du l 1).length≠1:=by omega
  refine Ar ?_;exact V0 A0 (s,false) (A3x hf (fun h=>g1 (by rw [hnr,Hs,h.2.1]))) rfl rfl I1
 have g1:(Du l 1).length=1:=by omega
 obtain ⟨p1,p2,p3,p4⟩:=C9e g0 g1;have hpl:(S7 l 1).length=2:=by rw [hpr];exact p2
 have hn0:(Du l 1).getD 0 default=Pw ((A4 l).getD 1 default):=by rw [p4];rfl
 refine Ar ?_;refine C2 (fun g2=>?_) fun g2=>?_
 ·have g2:H2 l≠(⟨#[102,97,105,114]⟩:ByteArray):=fun e=>by
   rw [hpr,show (A4 l).getD (Int.toNat 0) default=(⟨#[102,97,105,114]⟩:ByteArray) from e,Fm] at g2
   cases g2
  refine Ar ?_;exact V0 A0 (s,false) (A3x hf (fun h=>g2 h.2.2.1)) rfl rfl I1
 have g2:H2 l=(⟨#[102,97,105,114]⟩:ByteArray):=by
  have:=Lq (by simpa using g2:_=true)
  rw [hpr] at this;exact this
 refine Ar ?_;refine E3 (fun g3=>?_) fun g3=>?_
 ·have g3:¬ Q3 l:=fun h=>by
   have h5:=h.2.2.2.2;rw [←hn0] at h5;exact absurd g3 (Int.not_lt.2 h5)
  refine Ar ?_;exact V0 A0 (s,false) (A3x hf g3) rfl rfl I1
 have g3:(Du l 1).getD 0 default≤3000:=Int.not_lt.1 g3;rw [hn0] at g3;refine Ar ?_;exact V0 A0 (⟨s.az,s.ap,s.an,(Du l 1).getD 0 default⟩,true) (by rw [hn0];exact C3w hf ⟨p1,p2,g2,p3,g3⟩) rfl rfl I1
end Go.Proofs.YtmhcebdkjgkmlaaGreatDoor
