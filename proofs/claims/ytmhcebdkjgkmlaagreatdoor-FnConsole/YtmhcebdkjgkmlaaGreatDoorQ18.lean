/- Part 18 of the proof that each of the laws FnConsole returns true for every input. No conditions. -/
import Derived.Test.YtmhcebdkjgkmlaaGreatDoorQ17

set_option linter.unusedSimpArgs false
set_option linter.unusedVariables false
set_option maxRecDepth 100000
namespace Go.Proofs.YtmhcebdkjgkmlaaGreatDoor
open Go.Sx
structure JS where
 k:Nat
 t:St
theorem A7r {x:ByteArray}(h:¬ 12000<x.size){k:Nat}(hk:k<(Bj x).length):((Bj x).getD k default).size≤1048576:=by
 have:=C3c x _ (Al (d:=default) hk)
 omega
variable {t : St} {l : ByteArray}
theorem Ky (h:Lh l):Ia t l=true∧Nv t l=t:=⟨by rw [Ia,Ak h],by rw [Nv,Ak h]⟩
theorem A87 (h:¬ Lh l)(hb:t.1=true):Ia t l=Mt t.2 l∧Nv t l=(true,V8 t.2 l):=⟨by rw [Ia,Ab h,Ak hb],by rw [Nv,Ab h,Ak hb]⟩
theorem A3c (h:¬ Lh l)(hb:t.1=false):Ia t l=decide (A5x l)∧Nv t l=(true,⟨⟨t.2.az.ak,Sj ((A5 l).getD 1 default),Sj ((A5 l).getD 2 default)⟩,t.2.au,t.2.ae,t.2.bq⟩):=
 ⟨by rw [Ia,Ab h,Ab (by rw [hb];decide)],by rw [Nv,Ab h,Ab (by rw [hb];decide)]⟩
theorem C0r (h:Gk l=false):Ia t l=false:=by
 have hb:¬ Lh l:=fun c=>by rw [Lh,h] at c;exact absurd c.1 Bq
 rw [Ia,Ab hb]
 split
 ·refine X0.2 fun c=>?_
  have:=C2t c
  rw [h] at this
  cases this
 exact Cd fun c=>by have:=c.1;rw [h] at this;cases this
variable {r : C7 × Bool}
theorem B8n {s:C7}(h:V6 s l r)(hr:r.2=false):Mt s l=false:=by
 refine X0.2 fun c=>?_;rw [V6,Ak c] at h;rw [h] at hr
 cases hr
theorem C2s {s:C7}(h:V6 s l r)(hr:r.2=true):Mt s l=true∧r.1=V8 s l:=by
 by_cases c:Mt s l=true
 ·rw [V6,Ak c] at h
  exact ⟨c,by rw [h]⟩
 rw [V6,Ab c] at h;rw [h] at hr
 cases hr
theorem C2r (hst:Ia t l=Mt t.2 l∧Nv t l=(true,V8 t.2 l))(h:V6 t.2 l r)(hr:r.2=true):Ia t l=true∧Nv t l=(true,r.1):=by
 obtain ⟨h1,h2⟩:=C2s h hr;exact ⟨hst.1.trans h1,by rw [hst.2,h2]⟩
theorem A58 (c:t.1=true)(hst:Ia t l=Mt t.2 l∧Nv t l=(true,V8 t.2 l))(h:V6 t.2 l r)(hr:r.2=true):Ia t l=true∧Nv t l=(t.1,r.1):=by
 rw [c];exact C2r hst h hr
theorem A5h {a b:ByteArray}(h:(!(a==b))=false):a=b:=Kl (by simpa using h)
set_option maxHeartbeats 2000000 in
theorem A80 (x:ByteArray)(hx:x.size≤1048576):Di 32 [.one (vs x)] [.agg (B9 x).1.c,.one (vi (B9 x).2)]:=by
 refine E7 Tryz.func32 fun W=>?_;refine Dv (fun h0=>?_) fun h0=>?_
 ·have h0:12000<x.size:=by omega
  refine An A0 rfl rfl ?_;rw [Wc h0];exact J0
 have h0:¬ 12000<x.size:=by omega
 have hlen:=A6o x;refine B4 ?_;refine Fp (D09 x hx) ?_;have hH:∀w,Fg.rel ⟨W,fun _=>False⟩ w→HT w:=fun _ _=>trivial
 have hp:N0 ⟨W,fun _=>False⟩ []:=fun _ h=>by cases h
 refine Xz 1 0 4 (fun i=>C3.c (([]:List C3).getD i default)) rfl rfl ?_;refine Xz 1 3 5 (fun i=>Aa.c (([]:List Aa).getD i default)) rfl rfl ?_;refine Xz 1 4 3 (fun i=>Do.c (([]:List Do).getD i default)) rfl rfl ?_;refine zlW [] (fun j:JS=>[(7,.c (vi j.k)),(5,.c (vb j.t.1))]) (fun j=>[⟨1,[.own 2,.c (vi j.t.2.az.aq),.c (vi j.t.2.az.cap),.own 3,.own 4,.c (vi j.t.2.bq)]⟩,⟨0,[.c (.val (.slice none 0 0)),.c (vi 0),.c (vi 0),.c (.val (.slice none 0 0)),.c (.val (.slice none 0 0)),.c (vi 0)]⟩]) (fun j=>[⟨2,At j.t.2.az.ak⟩,⟨3,A9 j.t.2.au⟩,⟨4,D7 j.t.2.ae⟩]) (fun j=>j.k≤(Bj x).length∧S5 (Bj x) j.k∧j.t=P2 (Bj x) j.k) (fun j=>(Bj x).length-j.k) (⟨0,st0⟩) (⟨Fe _,fun j hj=>absurd hj (L4 _),rfl⟩) fun j hj=>?_;obtain ⟨hk,hg,ht⟩:=hj;refine Dv (fun hk2=>?_) fun hk2=>?_
 ·have hk2:j.k<(Bj x).length:=by omega
  have hl:=A7r h0 hk2;have hp0:=G8 ((Bj x).getD j.k default);have hp1:=B18 ((Bj x).getD j.k default);have hsc:A0s j.t.2:=by rw [ht];exact B2k j.k hk hg
  refine B4 ?_;refine Fp (Rv ((Bj x).getD j.k default) hl) ?_;refine C1 (fun a=>?_) fun a=>?_
  ·have a2:(!Gk ((Bj x).getD j.k default))=false:=by rw [a];rfl
   refine As ?_;refine Lf (fun b=>?_) fun b=>?_
   ·refine As ?_
    have hb:Lh ((Bj x).getD j.k default):=⟨a,.inl A7⟩;have hgn:=K4 hg (by rw [←ht];exact ((Ky hb)).1);refine B4 ?_;refine Cc [] (⟨j.k+1,j.t⟩) (⟨by show j.k+1≤_;omega,hgn,by show j.t=P2 _ (j.k+1);rw [Jb hk2,←ht];exact ((Ky hb)).2.symm⟩) (by show (Bj x).length-(j.k+1)<_;omega) ⟨rfl,rfl,trivial⟩ ⟨rfl,rfl,rfl,trivial⟩
   refine As ?_;have hx0:=hp1 _ (Al (d:=default) (show 0<(A5 ((Bj x).getD j.k default)).length by omega))
   refine B4 ?_;refine ⟨by exact ⟨Tj _,Int.natCast_pos.2 hx0⟩,?_⟩
   conv=>whnf
   refine As ?_;refine Lf (fun b2=>?_) fun b2=>?_
   ·refine As ?_
    have b2:C4 (Ir ((Bj x).getD j.k default)) 0=35:=UInt8.toNat_inj.1 (Int.ofNat.inj b2);have hb:Lh ((Bj x).getD j.k default):=⟨a,.inr b2⟩;have hgn:=K4 hg (by rw [←ht];exact ((Ky hb)).1);refine B4 ?_;refine Cc [] (⟨j.k+1,j.t⟩) (⟨by show j.k+1≤_;omega,hgn,by show j.t=P2 _ (j.k+1);rw [Jb hk2,←ht];exact ((Ky hb)).2.symm⟩) (by show (Bj x).length-(j.k+1)<_;omega) ⟨rfl,rfl,trivial⟩ ⟨rfl,rfl,rfl,trivial⟩
   have hb:¬ Lh ((Bj x).getD j.k default):=fun c=>c.2.elim (fun c=>b A7) (fun c=>b2 (by show ((C4 (Ir ((Bj x).getD j.k default)) 0).toNat:Int)=_;rw [c];rfl))
   refine As ?_;refine C1 (fun c=>?_) fun c=>?_
   ·have hst:=A87 hb c
    refine As ?_;refine M4 (D08 j.t.2 ((Bj x).getD j.k default) hsc hl a) hH hp fun r hr=>?_;refine C1 (fun d=>?_) fun d=>?_
    ·have d:r.2=false:=by simpa using d
     refine As ?_;refine An A0 rfl rfl ?_;rw [Dr h0 hk2 hg (by rw [←ht,hst.1];exact B8n hr d)];exact J0
    have d:r.2=true:=by simpa using d
    refine As ?_;have hgn:=K4 hg (by rw [←ht];exact ((A58 c hst hr d)).1);refine B4 ?_;refine Cc [(2,5),(3,6),(4,7)] (⟨j.k+1,(j.t.1,r.1)⟩) (⟨by show j.k+1≤_;omega,hgn,by show (j.t.1,r.1)=P2 _ (j.k+1);rw [Jb hk2,←ht];exact ((A58 c hst hr d)).2.symm⟩) (by show (Bj x).length-(j.k+1)<_;omega) ⟨rfl,rfl,trivial⟩ ⟨rfl,rfl,rfl,trivial⟩
   have c:j.t.1=false:=by simpa using c
   have hst:=A3c hb c;refine As ?_;refine Y0 (fun d=>?_) fun d=>?_
   ·refine As ?_
    refine An A0 rfl rfl ?_;rw [Dr h0 hk2 hg (by rw [←ht,hst.1];exact Cd fun h=>d (by rw [h.2.1];rfl))];exact J0
   have d:(A5 ((Bj x).getD j.k default)).length=3:=by omega
   have hx1:=hp0 _ (Al (d:=default) (show 1<(A5 ((Bj x).getD j.k default)).length by omega))
   have hx2:=hp0 _ (Al (d:=default) (show 2<(A5 ((Bj x).getD j.k default)).length by omega))
   refine As ?_;refine C1 (fun g=>?_) fun g=>?_
   ·have g:Ir ((Bj x).getD j.k default)≠(⟨#[103,114,97,112,104]⟩:ByteArray):=fun e=>by
     rw [show (A5 ((Bj x).getD j.k default)).getD (Int.toNat 0) default=(⟨#[103,114,97,112,104]⟩:ByteArray) from e,Fj] at g
     cases g
    refine As ?_;refine An A0 rfl rfl ?_;rw [Dr h0 hk2 hg (by rw [←ht,hst.1];exact Cd fun h=>g h.2.2.1)];exact J0
   have g:Ir ((Bj x).getD j.k default)=(⟨#[103,114,97,112,104]⟩:ByteArray):=A5h g;refine As ?_;refine Aq (Hh ((A5 ((Bj x).getD j.k default)).getD 1 default) A7) rfl (Em ?_);refine Fp (Hh ((A5 ((Bj x).getD j.k default)).getD 2 default) A7) ?_;refine C1 (fun e1=>?_) fun e1=>?_
   ·have e1:U9 ((A5 ((Bj x).getD j.k default)).getD 1 default)=false:=by simpa using e1
    refine As ?_;refine An A0 rfl rfl ?_;rw [Dr h0 hk2 hg (by rw [←ht,hst.1];exact Cd fun h=>by have:=h.2.2.2.1;rw [e1] at this;cases this)];exact J0
   have e1:U9 ((A5 ((Bj x).getD j.k default)).getD 1 default)=true:=by simpa using e1
   refine As ?_;refine C1 (fun e2=>?_) fun e2=>?_
   ·have e2:U9 ((A5 ((Bj x).getD j.k default)).getD 2 default)=false:=by simpa using e2
    refine As ?_;refine An A0 rfl rfl ?_;rw [Dr h0 hk2 hg (by rw [←ht,hst.1];exact Cd fun h=>by have:=h.2.2.2.2;rw [e2] at this;cases this)];exact J0
   have e2:U9 ((A5 ((Bj x).getD j.k default)).getD 2 default)=true:=by simpa using e2
   refine As ?_;have hgn:=K4 hg (by rw [←ht];exact ((show _∧_ from ⟨hst.1.trans (Dc ⟨a,d,g,e1,e2⟩),hst.2⟩)).1)
   refine B4 ?_;refine Cc [] (⟨j.k+1,(true,⟨⟨j.t.2.az.ak,Sj ((A5 ((Bj x).getD j.k default)).getD 1 default),Sj ((A5 ((Bj x).getD j.k default)).getD 2 default)⟩,j.t.2.au,j.t.2.ae,j.t.2.bq⟩)⟩) (⟨by show j.k+1≤_;omega,hgn,by show (true,⟨⟨j.t.2.az.ak,Sj ((A5 ((Bj x).getD j.k default)).getD 1 default),Sj ((A5 ((Bj x).getD j.k default)).getD 2 default)⟩,j.t.2.au,j.t.2.ae,j.t.2.bq⟩)=P2 _ (j.k+1);rw [Jb hk2,←ht];exact ((show _∧_ from ⟨hst.1.trans (Dc ⟨a,d,g,e1,e2⟩),hst.2⟩)).2.symm⟩) (by show (Bj x).length-(j.k+1)<_;omega) ⟨rfl,rfl,trivial⟩ ⟨rfl,rfl,rfl,trivial⟩
  have a:Gk ((Bj x).getD j.k default)=false:=by simpa using a
  have a2:(!Gk ((Bj x).getD j.k default))=true:=by rw [a];rfl
  refine As ?_;refine An A0 rfl rfl ?_;rw [Dr h0 hk2 hg (C0r a)];exact J0
 have e:j.k=(Bj x).length:=by omega
 refine C1 (fun a=>?_) fun a=>?_
 ·have a:j.t.1=false:=by simpa using a
  refine As ?_;refine An A0 rfl rfl ?_;rw [Oi h0 e hg (fun c=>by have:=c.1;rw [←ht,a] at this;cases this)];exact J0
 have a:j.t.1=true:=by simpa using a
 have hgw:=(show A0s j.t.2 by rw [ht];exact B2k j.k hk hg).w.1
 refine As ?_;refine Aq (Mn j.t.2.az A7) rfl (Gu ?_);refine C1 (fun b=>?_) fun b=>?_
 ·have b:F2 j.t.2.az=false:=by simpa using b
  refine As ?_;refine An A0 rfl rfl ?_;rw [Oi h0 e hg (fun c=>by have:=c.2;rw [←ht,b] at this;cases this)];exact J0
 have b:F2 j.t.2.az=true:=by simpa using b
 refine As ?_;have hr:=Wd h0 e hg (by rw [←ht];exact ⟨a,b⟩);rw [←ht] at hr;refine An A0 rfl rfl ?_;rw [hr];exact J0
variable {l : ByteArray}
theorem A1n (h:A5x l):Nt l 1=true∧(Du l 1).length=2:=by
 obtain ⟨h1,h2,_,h4,h5⟩:=h
 have hok:Nt l 1=true:=by
  rw [Nt,h1,Dc (by omega:1≤(A5 l).length),Ql];generalize A5 l=p at h2 h4 h5
  match p,h2 with
  | [a,b,c],_=>
   simp only [X1,A0q,Wy,List.all_nil,A3o];rw [show U9 b=true from h4,show U9 c=true from h5]
   rfl
 refine ⟨hok,?_⟩;rw [(Ks hok).1,Hs,h2]
theorem B14 (h:Nt l 1=true)(hn:(Du l 1).length=2):Gk l=true∧(A5 l).length=3∧U9 ((A5 l).getD 1 default)=true∧U9 ((A5 l).getD 2 default)=true∧Du l 1=[Sj ((A5 l).getD 1 default),Sj ((A5 l).getD 2 default)]:=by
 have hi:=(Ks h).1;rw [hi] at hn ⊢;rw [Nt,Ci,Ci] at h;obtain ⟨⟨h1,h2⟩,h3⟩:=h;rw [Hs] at hn;have hl:(A5 l).length=3:=by have:=Bn h2;omega
 rw [Ql] at h3;rw [Gp];refine ⟨h1,hl,?_⟩;generalize A5 l=p at hl h3
 match p,hl with
 | [a,b,c],_=>
  simp only [X1,A0q,Wy,List.all_nil,A3o,Ci] at h3;exact ⟨h3.1,h3.2,rfl⟩
theorem X9 {t:St}{r:C7×Bool}(c:t.1=true)(hst:Ia t l=Mt t.2 l∧Nv t l=(true,V8 t.2 l))(h:B8g t.2 l r)(hr:r.2=true):Ia t l=true∧Nv t l=(t.1,r.1):=by
 have h1:Mt t.2 l=true:=by rw [←h.1];exact hr
 exact ⟨hst.1.trans h1,by rw [hst.2,c,h.2 h1]⟩
theorem Xh {t:St}(hst:Ia t l=decide (A5x l)∧Nv t l=(true,⟨⟨t.2.az.ak,Sj ((A5 l).getD 1 default),Sj ((A5 l).getD 2 default)⟩,t.2.au,t.2.ae,t.2.bq⟩))(h:A5x l)(hn:Du l 1=[Sj ((A5 l).getD 1 default),Sj ((A5 l).getD 2 default)]):Ia t l=true∧Nv t l=(true,⟨⟨t.2.az.ak,(Du l 1).getD 0 default,(Du l 1).getD 1 default⟩,t.2.au,t.2.ae,t.2.bq⟩):=
 ⟨hst.1.trans (Dc h),by rw [hst.2,hn];rfl⟩
set_option maxHeartbeats 2000000 in
theorem A7i (x:ByteArray)(hx:x.size≤1048576):E3 Tryz.prog X8 31 [.one (vs x)] [.agg (B9 x).1.c,.one (vi (B9 x).2)]:=by
 refine He A0 false Tryz.func31 rfl Bq fun W hW=>?_;conv=>whnf
 refine Dv (fun h0=>?_) fun h0=>?_
 ·have h0:12000<x.size:=by omega
  refine An A0 rfl rfl ?_;rw [Wc h0];exact J0
 have h0:¬ 12000<x.size:=by omega
 have hlen:=A6o x;refine B4 ?_;refine Dj (D2o x hx) B5 hW rfl (Ah ?_);have hH:∀w,Fg.rel ⟨W,fun _=>False⟩ w→X8 w:=fun w hr=>B5 W w (Po hr) hW;have hp:N0 ⟨W,fun _=>False⟩ []:=fun _ h=>by cases h
 refine Xz 1 0 4 (fun i=>C3.c (([]:List C3).getD i default)) rfl rfl ?_;refine Xz 1 3 5 (fun i=>Aa.c (([]:List Aa).getD i default)) rfl rfl ?_;refine Xz 1 4 3 (fun i=>Do.c (([]:List Do).getD i default)) rfl rfl ?_;refine zlW [] (fun j:JS=>[(23,.c (vi j.k)),(5,.c (vb j.t.1))]) (fun j=>[⟨1,[.own 2,.c (vi j.t.2.az.aq),.c (vi j.t.2.az.cap),.own 3,.own 4,.c (vi j.t.2.bq)]⟩,⟨0,[.c (.val (.slice none 0 0)),.c (vi 0),.c (vi 0),.c (.val (.slice none 0 0)),.c (.val (.slice none 0 0)),.c (vi 0)]⟩]) (fun j=>[⟨2,At j.t.2.az.ak⟩,⟨3,A9 j.t.2.au⟩,⟨4,D7 j.t.2.ae⟩]) (fun j=>j.k≤(Bj x).length∧S5 (Bj x) j.k∧j.t=P2 (Bj x) j.k) (fun j=>(Bj x).length-j.k) (⟨0,st0⟩) (⟨Fe _,fun j hj=>absurd hj (L4 _),rfl⟩) fun j hj=>?_;obtain ⟨hk,hg,ht⟩:=hj;refine Dv (fun hk2=>?_) fun hk2=>?_
 ·have hk2:j.k<(Bj x).length:=by omega
  have hl:=A7r h0 hk2;have hp0:=G8 ((Bj x).getD j.k default);have hp1:=B18 ((Bj x).getD j.k default);have hsc:A0s j.t.2:=by rw [ht];exact B2k j.k hk hg
  refine B4 ?_;refine Dj (Vv ((Bj x).getD j.k default) hl) B5 hW rfl (Ah ?_);refine C1 (fun a=>?_) fun a=>?_
  ·refine As ?_
   refine Lf (fun b=>?_) fun b=>?_
   ·refine As ?_
    have hb:Lh ((Bj x).getD j.k default):=⟨a,.inl A7⟩;have hgn:=K4 hg (by rw [←ht];exact ((Ky hb)).1);refine B4 ?_;refine Cc [] (⟨j.k+1,j.t⟩) (⟨by show j.k+1≤_;omega,hgn,by show j.t=P2 _ (j.k+1);rw [Jb hk2,←ht];exact ((Ky hb)).2.symm⟩) (by show (Bj x).length-(j.k+1)<_;omega) ⟨rfl,rfl,trivial⟩ ⟨rfl,rfl,rfl,trivial⟩
   refine As ?_;have hx0:=hp1 _ (Al (d:=default) (show 0<(A5 ((Bj x).getD j.k default)).length by omega))
   refine B4 ?_;refine ⟨by exact ⟨Tj _,Int.natCast_pos.2 hx0⟩,?_⟩
   conv=>whnf
   refine As ?_;refine Lf (fun b2=>?_) fun b2=>?_
   ·refine As ?_
    have b2:C4 (Ir ((Bj x).getD j.k default)) 0=35:=UInt8.toNat_inj.1 (Int.ofNat.inj b2);have hb:Lh ((Bj x).getD j.k default):=⟨a,.inr b2⟩;have hgn:=K4 hg (by rw [←ht];exact ((Ky hb)).1);refine B4 ?_;refine Cc [] (⟨j.k+1,j.t⟩) (⟨by show j.k+1≤_;omega,hgn,by show j.t=P2 _ (j.k+1);rw [Jb hk2,←ht];exact ((Ky hb)).2.symm⟩) (by show (Bj x).length-(j.k+1)<_;omega) ⟨rfl,rfl,trivial⟩ ⟨rfl,rfl,rfl,trivial⟩
   have hb:¬ Lh ((Bj x).getD j.k default):=fun c=>c.2.elim (fun c=>b A7) (fun c=>b2 (by show ((C4 (Ir ((Bj x).getD j.k default)) 0).toNat:Int)=_;rw [c];rfl))
   refine As ?_;refine C1 (fun c=>?_) fun c=>?_
   ·have hst:=A87 hb c
    refine As ?_;refine A6g [.agg [.own 2,.c (vi j.t.2.az.aq),.c (vi j.t.2.az.cap),.own 3,.own 4,.c (vi j.t.2.bq)]] (C1e j.t.2 ((Bj x).getD j.k default) hsc hl) hH hp J0 rfl rfl (fun r hr=>go A0 false ?_);conv=>whnf
    refine C1 (fun d=>?_) fun d=>?_
    ·have d:r.2=false:=by simpa using d
     refine As ?_;refine An A0 rfl rfl ?_;rw [Dr h0 hk2 hg (by rw [←ht,hst.1,←hr.1];exact d)];exact J0
    have d:r.2=true:=by simpa using d
    refine As ?_;have hgn:=K4 hg (by rw [←ht];exact ((X9 c hst hr d)).1);refine B4 ?_;refine Cc [(2,5),(3,6),(4,7)] (⟨j.k+1,(j.t.1,r.1)⟩) (⟨by show j.k+1≤_;omega,hgn,by show (j.t.1,r.1)=P2 _ (j.k+1);rw [Jb hk2,←ht];exact ((X9 c hst hr d)).2.symm⟩) (by show (Bj x).length-(j.k+1)<_;omega) ⟨rfl,rfl,trivial⟩ ⟨rfl,rfl,rfl,trivial⟩
   have c:j.t.1=false:=by simpa using c
   have hst:=A3c hb c;refine As ?_;refine Dj (Pu ((Bj x).getD j.k default) 1 hl Bq) B5 hW rfl (Ah ?_);refine C1 (fun d0=>?_) fun d0=>?_
   ·have d0:Nt ((Bj x).getD j.k default) 1=false:=by simpa using d0
    refine As ?_;refine An A0 rfl rfl ?_;rw [Dr h0 hk2 hg (by rw [←ht,hst.1];exact Cd fun h=>by have:=(A1n h).1;rw [d0] at this;cases this)];exact J0
   have d0:Nt ((Bj x).getD j.k default) 1=true:=by simpa using d0
   have hpr:=T4 d0;refine As ?_;refine Y0 (fun d=>?_) fun d=>?_
   ·have d:(Du ((Bj x).getD j.k default) 1).length≠2:=by omega
    refine As ?_;refine An A0 rfl rfl ?_;rw [Dr h0 hk2 hg (by rw [←ht,hst.1];exact Cd fun h=>d (A1n h).2)];exact J0
   have d:(Du ((Bj x).getD j.k default) 1).length=2:=by omega
   obtain ⟨p1,p2,p3,p4,p5⟩:=B14 d0 d;have hpl:(Se ((Bj x).getD j.k default) 1).length=3:=by rw [hpr];exact p2
   refine As ?_;refine C1 (fun g=>?_) fun g=>?_
   ·have g:Ir ((Bj x).getD j.k default)≠(⟨#[103,114,97,112,104]⟩:ByteArray):=fun e=>by
     rw [hpr,show (A5 ((Bj x).getD j.k default)).getD (Int.toNat 0) default=(⟨#[103,114,97,112,104]⟩:ByteArray) from e,Fj] at g
     cases g
    refine As ?_;refine An A0 rfl rfl ?_;rw [Dr h0 hk2 hg (by rw [←ht,hst.1];exact Cd fun h=>g h.2.2.1)];exact J0
   have g:Ir ((Bj x).getD j.k default)=(⟨#[103,114,97,112,104]⟩:ByteArray):=by
    have:=A5h g
    rw [hpr] at this;exact this
   refine As ?_;refine Rc rfl (Ib 0 rfl (Ib 3 rfl (T8 1 4 ?_ ?_)))
   focus
    refine B4 ?_;refine Av (T8 2 4 ?_ ?_)
    focus
     refine Av (Ib 6 rfl (Ib 7 rfl (T8 4 8 ?_ ?_)))
     focus
      refine B4 ?_;refine Av (T8 5 8 ?_ ?_)
      focus
       refine Av ?_;refine Az [8] Am ⟨?_,trivial⟩
      rotate_left 1
      focus
       refine Av ?_;refine Az [5] Am ⟨?_,trivial⟩
     rotate_left 2
     focus
      refine Av (P4 4 ?_);refine B4 ?_;refine Av ?_;refine Az [5] Am ⟨?_,trivial⟩
    rotate_left 3
    focus
     refine B4 ?_;refine Av (T8 2 5 ?_ ?_)
     focus
      refine Av (Ib 6 rfl (Ib 7 rfl (T8 5 8 ?_ ?_)))
      focus
       refine Av ?_;refine Az [8] Am ⟨?_,trivial⟩
      rotate_left 1
      focus
       refine Av ?_;refine Az [5] Am ⟨?_,trivial⟩
     rotate_left 2
     focus
      refine Av (P4 2 ?_);refine Av (Ib 6 rfl (Ib 7 rfl ?_));refine Az [8] Am ⟨?_,trivial⟩
   rotate_left 6
   focus
    refine B4 ?_;refine Av (T8 1 5 ?_ ?_)
    focus
     refine B4 ?_;refine Av (T8 2 5 ?_ ?_)
     focus
      refine Av (Ib 6 rfl (Ib 7 rfl (T8 5 8 ?_ ?_)))
      focus
       refine Av ?_;refine Az [8] Am ⟨?_,trivial⟩
      rotate_left 1
      focus
       refine Av ?_;refine Az [5] Am ⟨?_,trivial⟩
     rotate_left 2
     focus
      refine Av (P4 2 ?_);refine Av (Ib 6 rfl (Ib 7 rfl ?_));refine Az [8] Am ⟨?_,trivial⟩
    rotate_left 3
    focus
     refine Av (P4 1 ?_);refine B4 ?_;refine Av (P4 2 ?_);refine Av (Ib 6 rfl (Ib 7 rfl ?_));refine Az [8] Am ⟨?_,trivial⟩
   all_goals
    refine Ah ?_;refine Av (Ib 9 rfl (Ib 10 rfl (P4 11 ?_)));refine Av (Rb Am (Ah ?_))
   all_goals
    have hgn:=K4 hg (by rw [←ht];exact ((Xh hst ⟨p1,p2,g,p3,p4⟩ p5)).1);refine B4 ?_;refine Cc [] (⟨j.k+1,(true,⟨⟨j.t.2.az.ak,(Du ((Bj x).getD j.k default) 1).getD 0 default,(Du ((Bj x).getD j.k default) 1).getD 1 default⟩,j.t.2.au,j.t.2.ae,j.t.2.bq⟩)⟩) (⟨by show j.k+1≤_;omega,hgn,by show (true,⟨⟨j.t.2.az.ak,(Du ((Bj x).getD j.k default) 1).getD 0 default,(Du ((Bj x).getD j.k default) 1).getD 1 default⟩,j.t.2.au,j.t.2.ae,j.t.2.bq⟩)=P2 _ (j.k+1);rw [Jb hk2,←ht];exact ((Xh hst ⟨p1,p2,g,p3,p4⟩ p5)).2.symm⟩) (by show (Bj x).length-(j.k+1)<_;omega) ⟨rfl,rfl,trivial⟩ ⟨rfl,rfl,rfl,trivial⟩
  have a:Gk ((Bj x).getD j.k default)=false:=by simpa using a
  have hb:¬ Lh ((Bj x).getD j.k default):=fun c=>by have:=c.1;rw [a] at this;cases this
  refine As ?_;refine C1 (fun c=>?_) fun c=>?_
  ·have hst:=A87 hb c
   refine As ?_;refine A6g [.agg [.own 2,.c (vi j.t.2.az.aq),.c (vi j.t.2.az.cap),.own 3,.own 4,.c (vi j.t.2.bq)]] (C1e j.t.2 ((Bj x).getD j.k default) hsc hl) hH hp J0 rfl rfl (fun r hr=>go A0 false ?_);conv=>whnf
   refine C1 (fun d=>?_) fun d=>?_
   ·have d:r.2=false:=by simpa using d
    refine As ?_;refine An A0 rfl rfl ?_;rw [Dr h0 hk2 hg (by rw [←ht,hst.1,←hr.1];exact d)];exact J0
   have d:r.2=true:=by simpa using d
   refine As ?_;have hgn:=K4 hg (by rw [←ht];exact ((X9 c hst hr d)).1);refine B4 ?_;refine Cc [(2,5),(3,6),(4,7)] (⟨j.k+1,(j.t.1,r.1)⟩) (⟨by show j.k+1≤_;omega,hgn,by show (j.t.1,r.1)=P2 _ (j.k+1);rw [Jb hk2,←ht];exact ((X9 c hst hr d)).2.symm⟩) (by show (Bj x).length-(j.k+1)<_;omega) ⟨rfl,rfl,trivial⟩ ⟨rfl,rfl,rfl,trivial⟩
  have c:j.t.1=false:=by simpa using c
  have hst:=A3c hb c;refine As ?_;refine Dj (Pu ((Bj x).getD j.k default) 1 hl Bq) B5 hW rfl (Ah ?_);refine C1 (fun d0=>?_) fun d0=>?_
  ·have d0:Nt ((Bj x).getD j.k default) 1=false:=by simpa using d0
   refine As ?_;refine An A0 rfl rfl ?_;rw [Dr h0 hk2 hg (by rw [←ht,hst.1];exact Cd fun h=>by have:=(A1n h).1;rw [d0] at this;cases this)];exact J0
  have d0:Nt ((Bj x).getD j.k default) 1=true:=by simpa using d0
  have hpr:=T4 d0;refine As ?_;refine Y0 (fun d=>?_) fun d=>?_
  ·have d:(Du ((Bj x).getD j.k default) 1).length≠2:=by omega
   refine As ?_;refine An A0 rfl rfl ?_;rw [Dr h0 hk2 hg (by rw [←ht,hst.1];exact Cd fun h=>d (A1n h).2)];exact J0
  have d:(Du ((Bj x).getD j.k default) 1).length=2:=by omega
  obtain ⟨p1,p2,p3,p4,p5⟩:=B14 d0 d;have hpl:(Se ((Bj x).getD j.k default) 1).length=3:=by rw [hpr];exact p2
  refine As ?_;refine C1 (fun g=>?_) fun g=>?_
  ·have g:Ir ((Bj x).getD j.k default)≠(⟨#[103,114,97,112,104]⟩:ByteArray):=fun e=>by
    rw [hpr,show (A5 ((Bj x).getD j.k default)).getD (Int.toNat 0) default=(⟨#[103,114,97,112,104]⟩:ByteArray) from e,Fj] at g
    cases g
   refine As ?_;refine An A0 rfl rfl ?_;rw [Dr h0 hk2 hg (by rw [←ht,hst.1];exact Cd fun h=>g h.2.2.1)];exact J0
  have g:Ir ((Bj x).getD j.k default)=(⟨#[103,114,97,112,104]⟩:ByteArray):=by
   have:=A5h g
   rw [hpr] at this;exact this
  refine As ?_;refine Rc rfl (Ib 0 rfl (Ib 3 rfl (T8 1 4 ?_ ?_)))
  focus
   refine B4 ?_;refine Av (T8 2 4 ?_ ?_)
   focus
    refine Av (Ib 6 rfl (Ib 7 rfl (T8 4 8 ?_ ?_)))
    focus
     refine B4 ?_;refine Av (T8 5 8 ?_ ?_)
     focus
      refine Av ?_;refine Az [8] Am ⟨?_,trivial⟩
     rotate_left 1
     focus
      refine Av ?_;refine Az [5] Am ⟨?_,trivial⟩
    rotate_left 2
    focus
     refine Av (P4 4 ?_);refine B4 ?_;refine Av ?_;refine Az [5] Am ⟨?_,trivial⟩
   rotate_left 3
   focus
    refine B4 ?_;refine Av (T8 2 5 ?_ ?_)
    focus
     refine Av (Ib 6 rfl (Ib 7 rfl (T8 5 8 ?_ ?_)))
     focus
      refine Av ?_;refine Az [8] Am ⟨?_,trivial⟩
     rotate_left 1
     focus
      refine Av ?_;refine Az [5] Am ⟨?_,trivial⟩
    rotate_left 2
    focus
     refine Av (P4 2 ?_);refine Av (Ib 6 rfl (Ib 7 rfl ?_));refine Az [8] Am ⟨?_,trivial⟩
  rotate_left 6
  focus
   refine B4 ?_;refine Av (T8 1 5 ?_ ?_)
   focus
    refine B4 ?_;refine Av (T8 2 5 ?_ ?_)
    focus
     refine Av (Ib 6 rfl (Ib 7 rfl (T8 5 8 ?_ ?_)))
     focus
      refine Av ?_;refine Az [8] Am ⟨?_,trivial⟩
     rotate_left 1
     focus
      refine Av ?_;refine Az [5] Am ⟨?_,trivial⟩
    rotate_left 2
    focus
     refine Av (P4 2 ?_);refine Av (Ib 6 rfl (Ib 7 rfl ?_));refine Az [8] Am ⟨?_,trivial⟩
   rotate_left 3
   focus
    refine Av (P4 1 ?_);refine B4 ?_;refine Av (P4 2 ?_);refine Av (Ib 6 rfl (Ib 7 rfl ?_));refine Az [8] Am ⟨?_,trivial⟩
  all_goals
   refine Ah ?_;refine Av (Ib 9 rfl (Ib 10 rfl (P4 11 ?_)));refine Av (Rb Am (Ah ?_))
  all_goals
   have hgn:=K4 hg (by rw [←ht];exact ((Xh hst ⟨p1,p2,g,p3,p4⟩ p5)).1);refine B4 ?_;refine Cc [] (⟨j.k+1,(true,⟨⟨j.t.2.az.ak,(Du ((Bj x).getD j.k default) 1).getD 0 default,(Du ((Bj x).getD j.k default) 1).getD 1 default⟩,j.t.2.au,j.t.2.ae,j.t.2.bq⟩)⟩) (⟨by show j.k+1≤_;omega,hgn,by show (true,⟨⟨j.t.2.az.ak,(Du ((Bj x).getD j.k default) 1).getD 0 default,(Du ((Bj x).getD j.k default) 1).getD 1 default⟩,j.t.2.au,j.t.2.ae,j.t.2.bq⟩)=P2 _ (j.k+1);rw [Jb hk2,←ht];exact ((Xh hst ⟨p1,p2,g,p3,p4⟩ p5)).2.symm⟩) (by show (Bj x).length-(j.k+1)<_;omega) ⟨rfl,rfl,trivial⟩ ⟨rfl,rfl,rfl,trivial⟩
 have e:j.k=(Bj x).length:=by omega
 refine C1 (fun a=>?_) fun a=>?_
 ·have a:j.t.1=false:=by simpa using a
  refine As ?_;refine An A0 rfl rfl ?_;rw [Oi h0 e hg (fun c=>by have:=c.1;rw [←ht,a] at this;cases this)];exact J0
 have a:j.t.1=true:=by simpa using a
 have hgw:=(show A0s j.t.2 by rw [ht];exact B2k j.k hk hg).w.1
 refine As ?_;refine Aq (Kp j.t.2.az A7) rfl (Gu ?_);refine C1 (fun b=>?_) fun b=>?_
 ·have b:F2 j.t.2.az=false:=by simpa using b
  refine As ?_;refine An A0 rfl rfl ?_;rw [Oi h0 e hg (fun c=>by have:=c.2;rw [←ht,b] at this;cases this)];exact J0
 have b:F2 j.t.2.az=true:=by simpa using b
 refine As ?_;have hr:=Wd h0 e hg (by rw [←ht];exact ⟨a,b⟩);rw [←ht] at hr;refine An A0 rfl rfl ?_;rw [hr];exact J0
theorem A83 (x:A3)(e:Int)(h:x.w≤16777216):Di 246 [.agg x.c,.one (vi e)] [.one (vb (Qp x e))]:=by
 have hl:=A3.workers_le h;refine E7 Tryz.func246 fun W=>?_;refine Dv (fun h0=>?_) fun h0=>?_
 ·have hw:=Go.Sx.A3.worker_le h (show 0<x.aq.length by omega)
  repeat' (first|(refine Ho ?_;conv=>whnf)|(refine Hp ?_;conv=>whnf)|(refine ⟨fun h=>?_,fun h=>?_⟩<;>conv=>whnf)|(refine Gn ?_;conv=>whnf)|fail)
  refine Fp (Zv (x.aq.getD 0 default) e A7) ?_
  repeat' (first|(refine Ho ?_;conv=>whnf)|(refine Hp ?_;conv=>whnf)|(refine ⟨fun h=>?_,fun h=>?_⟩<;>conv=>whnf)|(refine Gn ?_;conv=>whnf)|fail)
  exact An A0 rfl rfl ⟨A6 vb (by rw [Qp,Ak A7]),trivial⟩
 repeat' (first|(refine Ho ?_;conv=>whnf)|(refine Hp ?_;conv=>whnf)|(refine ⟨fun h=>?_,fun h=>?_⟩<;>conv=>whnf)|(refine Gn ?_;conv=>whnf)|fail)
 exact An A0 rfl rfl ⟨A6 vb (by rw [Qp,Ab A7]),trivial⟩
end Go.Proofs.YtmhcebdkjgkmlaaGreatDoor
