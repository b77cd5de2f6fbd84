/- Part 19 of the proof that each of the laws FnScriptsBack returns true for every input. No conditions. -/
import Derived.Test.YtmhcebdkjgkmlaaGreatDoorR18

set_option linter.unusedSimpArgs false
set_option linter.unusedVariables false
set_option maxRecDepth 100000
namespace Go.Proofs.YtmhcebdkjgkmlaaGreatDoor
open Go.Sx
def Lc (s:ByteArray) (k:Nat):Cs:=⟨(k:Int)+1,Dq (A4 s) 1,if k=3∨k=4 then Dq (A4 s) 2 else 0⟩
def H7 (s:ByteArray) (k:Nat):Prop:=Fv s∧2≤(A4 s).length∧Bs (Lc s k)=Cf (A4 s)
instance (s:ByteArray) (k:Nat):Decidable (H7 s k):=by unfold H7;infer_instance
def X5 (s:ByteArray):Option Nat:=(List.range 7).find? fun k=>decide (H7 s k)
def G4 (s:ByteArray):Cs:=match X5 s with|some k=>Lc s k|none=>default
def Eo (s:ByteArray):Bool:=(X5 s).isSome
variable {s : ByteArray} {k : Nat}
theorem Mk (hk:k<7)(h:∀j,j<k→¬ H7 s j)(c:H7 s k):G4 s=Lc s k∧Eo s=true:=by
 have e:X5 s=some k:=List.find?_range_eq_some.2 ⟨D7 c,Fk.2 hk,fun j hj=>by simpa using h j hj⟩
 exact ⟨by rw [G4,e],by rw [Eo,e];rfl⟩
theorem Kw (h:∀j,j<7→¬ H7 s j):G4 s=default∧Eo s=false:=by
 have e:X5 s=none:=List.find?_range_eq_none.2 fun j hj=>by simpa using h j hj
 exact ⟨by rw [G4,e],by rw [Eo,e];rfl⟩
def Jt (k:Nat) (a b:Int):List ByteArray:=if k=3∨k=4 then [Gt ((k:Int)+1),Gf a,Gf b] else [Gt ((k:Int)+1),Gf a]
theorem K8 (hk:k<7)(a b:Int):Bs ⟨(k:Int)+1,a,b⟩=Cf (Jt k a b):=by
 rw [Bs,Ah (by show 1≤(k:Int)+1∧(k:Int)+1≤7;omega),Jt]
 dsimp only
 by_cases c:k=3∨k=4
 ·rw [Ah A7,Ah c]
  apply Qx
  apply Ul.1
  simp [Cf,Uq,Lib.join_one,Wp]
 rw [Ab A7,Ab c]
 apply Qx
 apply Ul.1
 simp [Cf,Uq,Lib.join_one,Wp]
theorem B5c:∀{k:Nat},k<7→noB (Gt ((k:Int)+1))
 | 0,_=>by show (32:UInt8)∉_;decide
 | 1,_=>by show (32:UInt8)∉_;decide
 | 2,_=>by show (32:UInt8)∉_;decide
 | 3,_=>by show (32:UInt8)∉_;decide
 | 4,_=>by show (32:UInt8)∉_;decide
 | 5,_=>by show (32:UInt8)∉_;decide
 | 6,_=>by show (32:UInt8)∉_;decide
 |k+7,h=>by omega
theorem B2m (hk:k<7){a b:Int}(ha:0≤a)(hb:0≤b)(hl:2≤(A4 s).length)(h:Bs ⟨(k:Int)+1,a,b⟩=Cf (A4 s)):Jt k a b=A4 s:=by
 rw [K8 hk] at h;refine Sr (by rw [Jt];split<;>simp) (fun e=>by rw [e] at hl;exact absurd hl Bk) (fun x hx=>?_) (Sv s) h
 have h1:=B5c hk;have h2:=Kh ha;have h3:=Kh hb;rw [Jt] at hx
 split at hx<;>simp only [C7,K0,Ld] at hx
 ·rcases hx with rfl|rfl|rfl<;>assumption
 rcases hx with rfl|rfl<;>assumption
theorem B2n (s:ByteArray)(k:Nat):0≤(Lc s k).b∧(Lc s k).b≤1000000000:=by
 have:=Cm (A4 s) 2
 rw [Lc]
 dsimp only
 split<;>omega
theorem Pv (hk:k<7)(h:H7 s k):Jt k (Lc s k).a (Lc s k).b=A4 s:=
 B2m hk (Cm (A4 s) 1).1 (B2n s k).1 h.2.1 h.2.2
theorem A6r (hk:k<7)(h:H7 s k):(A4 s).length=if k=3∨k=4 then 3 else 2:=by
 rw [←Pv hk h,Jt]
 split<;>rfl
theorem B5b (hk:k<7)(h:H7 s k):Nn s 1=true:=by
 have r1:=Cm (A4 s) 1;have r2:=B2n s k
 have hn:Ql (A4 s) 1=true:=by
  rw [←Pv hk h,Jt]
  split<;>simp only [Ql,Wi,Zd,Wg,List.all_nil,A2h,Cj]
  ·exact ⟨Jv r1,Jv r2⟩
  exact Jv r1
 rw [Nn,Mj h.1,hn,D7 (show 1≤(A4 s).length by have:=h.2.1;omega)]
 rfl
def Sy (s:ByteArray) (k:Nat):Cs:=⟨(k:Int)+1,Dq (A4 s) 1,if (A4 s).length=3 then Dq (A4 s) 2 else 0⟩
theorem C6j (hk:k<7)(hP:Fv s)(h2:2≤(A4 s).length)(h3:(A4 s).length≤3):
  (Bs (Sy s k)=Cf (A4 s)↔H7 s k)∧(H7 s k→Sy s k=Lc s k):=by
 by_cases c:k=3∨k=4
 ·have e:Sy s k=Lc s k:=by
   rw [Sy,Lc,Ah c]
   by_cases d:(A4 s).length=3
   ·rw [Ah d]
   rw [Ab d,show Dq (A4 s) 2=0 from Ab A7]
  rw [e];exact ⟨⟨fun h=>⟨hP,h2,h⟩,fun h=>h.2.2⟩,fun _=>rfl⟩
 have e:Bs (Sy s k)=Bs (Lc s k):=by
  rw [Sy,Lc,K8 hk,K8 hk,Jt,Jt,Ab c,Ab c]
 rw [e];refine ⟨⟨fun h=>⟨hP,h2,h⟩,fun h=>h.2.2⟩,fun h=>?_⟩
 have hl:=A6r hk h;rw [Ab c] at hl;rw [Sy,Lc,Ab c,Ab A7]
theorem C6m (s:ByteArray)(hk:k<7):(Lc s k).ok:=by
 have r1:=Cm (A4 s) 1;have r2:=B2n s k;refine ⟨?_,?_,?_⟩<;>(show _∧_;simp only [Lc] at *;omega)
theorem Ju {x y:Cs}(h:y=x):vi y.kind=vi x.kind∧vi y.a=vi x.a∧vi y.b=vi x.b:=by subst h;exact ⟨rfl,rfl,rfl⟩
theorem B5g (hk:k<7):(⟨(k:Int)+1,Dq (A4 s) 1,Dq (A4 s) 2⟩:Cs).ok:=by
 have r1:=Cm (A4 s) 1;have r2:=Cm (A4 s) 2;refine ⟨?_,?_,?_⟩<;>(show _∧_;dsimp only;omega)
theorem B5f (hk:k<7):(⟨(k:Int)+1,Dq (A4 s) 1,0⟩:Cs).ok:=by
 have r1:=Cm (A4 s) 1;refine ⟨?_,?_,?_⟩<;>(show _∧_;dsimp only;omega)
theorem T0 {P:Nat→Prop}(h:∀j,j<k→¬ P j)(hk:¬ P k):∀j,j<k+1→¬ P j:=fun j hj=>by
 by_cases e:j=k
 ·rw [e];exact hk
 exact h j A7
theorem B20 (s:ByteArray)(hs:s.size≤1048576):Df 150 [.one (vs s)] [.agg (G4 s).c,.one (vb (Eo s))]:=by
 have hp:=G9 s;have hl:=H9 s;refine Dy Tryz.func150 fun W=>?_
 repeat' (first|(refine Gy ?_;conv=>whnf)|(refine Gz ?_;conv=>whnf)|(refine ⟨fun h=>?_,fun h=>?_⟩<;>conv=>whnf)|(refine Ao (Rr s hs) rfl (Ag ?_))|(refine D6 ?_;conv=>whnf)|fail)
 ·have hn:=Kw (s:=s) (fun j hj c=>by rw [Mj c.1] at h;exact absurd h Bk)
  have hq:=Ju hn.1;exact Af A0 rfl rfl ⟨⟨hq.1,hq.2.1,hq.2.2,trivial⟩,A6 vb hn.2,trivial⟩
 ·have hn:=Kw (s:=s) (fun j hj c=>by have:=Bp h;have:=c.2.1;omega)
  have hq:=Ju hn.1;exact Af A0 rfl rfl ⟨⟨hq.1,hq.2.1,hq.2.2,trivial⟩,A6 vb hn.2,trivial⟩
 rename_i g1
 have hP:Fv s:=Bp (show Gk s=true by simpa using g1)
 have h2:2≤(A4 s).length:=by have:=Cy h;omega
 have hz:∀j,j<0→¬ H7 s j:=fun j hj=>absurd hj (Le _);refine Fs [7] (fun k:Nat=>[(6,.c (vi ((k:Int)+1)))]) (fun k=>[⟨0,[.c (vi 0),.c (vi 0),.c (vi 0)]⟩]) (fun k=>[]) (fun k=>k≤7∧(∀j,j<k→¬ H7 s j)) (fun k=>7-k) fun k hk=>?_;obtain ⟨hk,he⟩:=hk;refine C2 (fun hk=>?_) fun hk=>?_
 ·have hk:k<7:=by have:=Bp hk;omega
  have ho:=C6m s hk;have e1:(k=3∨k=4)→Lc s k=⟨(k:Int)+1,Dq (A4 s) 1,Dq (A4 s) 2⟩:=fun c=>by rw [Lc,Ah c]
  have e0:¬ (k=3∨k=4)→Lc s k=⟨(k:Int)+1,Dq (A4 s) 1,0⟩:=fun c=>by rw [Lc,Ab c]
  have i1:=B5g (s:=s) hk;have i0:=B5f (s:=s) hk
  repeat' (first|(refine Gy ?_;conv=>whnf)|(refine Gz ?_;conv=>whnf)|(refine ⟨fun h=>?_,fun h=>?_⟩<;>conv=>whnf)|(refine Ao (Rq (A4 s) 1 hp hl Bk) rfl (I7 ?_);conv=>whnf)|(refine Ao (Rq (A4 s) 2 hp hl Bk) rfl (I7 ?_);conv=>whnf)|(refine Ao (U7 _ i1) rfl (Ag ?_))|(refine Ao (U7 _ i0) rfl (Ag ?_))|(refine Ao (A7k (A4 s) hp hl) rfl (I7 ?_);conv=>whnf)|(refine D6 ?_;conv=>whnf)|fail)
  ·have c:k=3∨k=4:=by rename_i g;have:=eq_of_beq g;omega
   have e:=e1 c;have hm:H7 s k:=⟨hP,h2,by rw [e];exact Lq h⟩;have hn:=Mk hk he hm;have hq:=Ju (hn.1.trans e)
   first|
   conv=>whnf
   exact Af A0 rfl rfl ⟨⟨hq.1,hq.2.1,hq.2.2,trivial⟩,A6 vb hn.2,trivial⟩
  ·have c:k=3∨k=4:=by rename_i g;have:=eq_of_beq g;omega
   have e:=e1 c;have hm:¬ H7 s k:=fun d=>by rw [←e,d.2.2,Fm] at h;exact absurd h Bk
   refine B6 ?_;refine Co [] (k+1) ⟨by omega,T0 he hm⟩ A7 ⟨rfl,trivial⟩ trivial
  ·have c:k=3∨k=4:=by rename_i g;have:=eq_of_beq g;omega
   have e:=e1 c;have hm:H7 s k:=⟨hP,h2,by rw [e];exact Lq h⟩;have hn:=Mk hk he hm;have hq:=Ju (hn.1.trans e)
   first|
   conv=>whnf
   exact Af A0 rfl rfl ⟨⟨hq.1,hq.2.1,hq.2.2,trivial⟩,A6 vb hn.2,trivial⟩
  ·have c:k=3∨k=4:=by rename_i g;have:=eq_of_beq g;omega
   have e:=e1 c;have hm:¬ H7 s k:=fun d=>by rw [←e,d.2.2,Fm] at h;exact absurd h Bk
   refine B6 ?_;refine Co [] (k+1) ⟨by omega,T0 he hm⟩ A7 ⟨rfl,trivial⟩ trivial
  ·have c:¬ (k=3∨k=4):=by rename_i g0 g;have:=Nh.1 g0;have:=Nh.1 g;omega
   have e:=e0 c;have hm:H7 s k:=⟨hP,h2,by rw [e];exact Lq h⟩;have hn:=Mk hk he hm;have hq:=Ju (hn.1.trans e)
   first|
   conv=>whnf
   exact Af A0 rfl rfl ⟨⟨hq.1,hq.2.1,hq.2.2,trivial⟩,A6 vb hn.2,trivial⟩
  have c:¬ (k=3∨k=4):=by rename_i g0 g;have:=Nh.1 g0;have:=Nh.1 g;omega
  have e:=e0 c;have hm:¬ H7 s k:=fun d=>by rw [←e,d.2.2,Fm] at h;exact absurd h Bk
  refine B6 ?_;refine Co [] (k+1) ⟨by omega,T0 he hm⟩ A7 ⟨rfl,trivial⟩ trivial
 have hn:=Kw (s:=s) (fun j hj c=>he j (by have:=Cy hk;omega) c);have hq:=Ju hn.1
 first|
 conv=>whnf
 exact Af A0 rfl rfl ⟨⟨hq.1,hq.2.1,hq.2.2,trivial⟩,A6 vb hn.2,trivial⟩
theorem B11 (s:ByteArray)(hs:s.size≤1048576):Ex Tryz.prog Tab 145 [.one (vs s)] [.agg (G4 s).c,.one (vb (Eo s))]:=by
 refine Kq A0 false Tryz.func145 rfl Bk fun W hW=>?_;conv=>whnf
 refine B6z (Xs s 1 hs Bk) C6 hW rfl (fun v hv=>go A0 false ?_);conv=>whnf
 repeat' (first|(refine Gy ?_;conv=>whnf)|(refine Gz ?_;conv=>whnf)|(refine ⟨fun h=>?_,fun h=>?_⟩<;>conv=>whnf)|(refine Ew ?_;conv=>whnf)|fail)
 ·have hn:=Kw (s:=s) (fun j hj c=>by rw [B5b hj c] at h;exact absurd h Bk)
  have hq:=Ju hn.1;exact Af A0 rfl rfl ⟨⟨hq.1,hq.2.1,hq.2.2,trivial⟩,A6 vb hn.2,trivial⟩
 ·rename_i g1
  have hok:Nn s 1=true:=by simpa using g1
  have hlen:(Du s 1).length=(A4 s).length-1:=by rw [(Kt hok).1,Hs]
  have hn:=Kw (s:=s) (fun j hj c=>by have:=Bp h;have:=c.2.1;omega);have hq:=Ju hn.1;exact Af A0 rfl rfl ⟨⟨hq.1,hq.2.1,hq.2.2,trivial⟩,A6 vb hn.2,trivial⟩
 ·rename_i g1 g2
  have hok:Nn s 1=true:=by simpa using g1
  have hlen:(Du s 1).length=(A4 s).length-1:=by rw [(Kt hok).1,Hs]
  have hn:=Kw (s:=s) (fun j hj c=>by have:=Bp h;have hl:=A6r hj c;split at hl<;>omega)
  have hq:=Ju hn.1;exact Af A0 rfl rfl ⟨⟨hq.1,hq.2.1,hq.2.2,trivial⟩,A6 vb hn.2,trivial⟩
 rename_i g1 g2
 have hok:Nn s 1=true:=by simpa using g1
 have hn:=(Kt hok).1;have ht:=(Kt hok).2
 have hP:Fv s:=by
  have h1:=hok;rw [Nn,Cj,Cj] at h1;exact Bp h1.1.1
 have hlen:(Du s 1).length=(A4 s).length-1:=by rw [hn,Hs]
 have h2:2≤(A4 s).length:=by have:=Cy g2;omega
 have h3:(A4 s).length≤3:=by have:=Cy h;omega
 have hget:∀i,i+1<(A4 s).length→(Du s 1).getD i default=Dq (A4 s) (i+1):=fun i hi=>by
  rw [hn,Dq,Ah hi,Gg];simp only [B3d,Ec,T7];rw [Z8 1 i,Dh (show i+1<(A4 s).length by omega)]
  rfl
 have e0:(Du s 1).getD (Int.toNat 0) default=Dq (A4 s) 1:=hget 0 A7;have hz:∀j,j<0→¬ H7 s j:=fun j hj=>absurd hj (Le _);refine Fs [9] (fun k:Nat=>[(8,.c (vi ((k:Int)+1)))]) (fun k=>[⟨0,[.c (vi 0),.c (vi 0),.c (vi 0)]⟩]) (fun k=>[]) (fun k=>k≤7∧(∀j,j<k→¬ H7 s j)) (fun k=>7-k) fun k hk=>?_;obtain ⟨hk,he⟩:=hk;refine C2 (fun hk=>?_) fun hk=>?_
 ·have hk:k<7:=by have:=Bp hk;omega
  have i1:=B5g (s:=s) hk;have i0:=B5f (s:=s) hk;have hi:=C6j hk hP h2 h3
  first|
  refine B6 ?_;rw [e0];refine C2 (fun h5=>?_) fun h5=>?_
  ·have h5:(Du s 1).length=2:=by have:=eq_of_beq h5;omega
   have e1:(Du s 1).getD (Int.toNat 1) default=Dq (A4 s) 2:=hget 1 A7;have ep:Sy s k=⟨(k:Int)+1,Dq (A4 s) 1,Dq (A4 s) 2⟩:=by rw [Sy,Ah A7]
   first|
   refine B6 ?_;rw [e1]
   repeat' (first|(refine Gy ?_;conv=>whnf)|(refine Gz ?_;conv=>whnf)|(refine ⟨fun h=>?_,fun h=>?_⟩<;>conv=>whnf)|(refine F4 (Ts _ i1) C6 hW rfl (Ag ?_))|(refine Ew ?_;conv=>whnf)|fail)
   ·have ht2:Bs (Sy s k)=Cf (A4 s):=by rw [ep,←ht];exact Lq h
    have hm:=hi.1.1 ht2;have hn':=Mk hk he hm;have hq:=Ju (hn'.1.trans ((hi.2 hm).symm.trans ep))
    first|
    conv=>whnf
    exact Af A0 rfl rfl ⟨⟨hq.1,hq.2.1,hq.2.2,trivial⟩,A6 vb hn'.2,trivial⟩
   have hm:¬ H7 s k:=fun d=>by
    have h6:=hi.1.2 d;rw [ep,←ht] at h6;rw [h6,Fm] at h;exact absurd h Bk
   refine B6 ?_;refine Co [] (k+1) ⟨by omega,T0 he hm⟩ A7 ⟨rfl,trivial⟩ trivial
  have h5:(Du s 1).length≠2:=by have:=Nh.1 h5;omega
  have ep:Sy s k=⟨(k:Int)+1,Dq (A4 s) 1,0⟩:=by rw [Sy,Ab A7]
  repeat' (first|(refine Gy ?_;conv=>whnf)|(refine Gz ?_;conv=>whnf)|(refine ⟨fun h=>?_,fun h=>?_⟩<;>conv=>whnf)|(refine F4 (Ts _ i0) C6 hW rfl (Ag ?_))|(refine Ew ?_;conv=>whnf)|fail)
  ·have ht2:Bs (Sy s k)=Cf (A4 s):=by rw [ep,←ht];exact Lq h
   have hm:=hi.1.1 ht2;have hn':=Mk hk he hm;have hq:=Ju (hn'.1.trans ((hi.2 hm).symm.trans ep))
   first|
   conv=>whnf
   exact Af A0 rfl rfl ⟨⟨hq.1,hq.2.1,hq.2.2,trivial⟩,A6 vb hn'.2,trivial⟩
  have hm:¬ H7 s k:=fun d=>by
   have h6:=hi.1.2 d;rw [ep,←ht] at h6;rw [h6,Fm] at h;exact absurd h Bk
  refine B6 ?_;refine Co [] (k+1) ⟨by omega,T0 he hm⟩ A7 ⟨rfl,trivial⟩ trivial
 have hn:=Kw (s:=s) (fun j hj c=>he j (by have:=Cy hk;omega) c);have hq:=Ju hn.1
 first|
 conv=>whnf
 exact Af A0 rfl rfl ⟨⟨hq.1,hq.2.1,hq.2.2,trivial⟩,A6 vb hn.2,trivial⟩
end Go.Proofs.YtmhcebdkjgkmlaaGreatDoor
