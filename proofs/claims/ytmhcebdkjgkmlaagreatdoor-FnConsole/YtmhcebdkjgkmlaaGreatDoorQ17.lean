/- Part 17 of the proof that each of the laws FnConsole returns true for every input. No conditions. -/
import Derived.Test.YtmhcebdkjgkmlaaGreatDoorQ16

set_option linter.unusedSimpArgs false
set_option linter.unusedVariables false
set_option maxRecDepth 100000
namespace Go.Proofs.YtmhcebdkjgkmlaaGreatDoor
open Go.Sx
def V6 (s:C7) (l:ByteArray) (r:C7×Bool):Prop:=r=if Mt s l=true then (V8 s l,true) else (s,false)
variable {s : C7} {l : ByteArray}
theorem C2p (c:F0 l=true)(d:s.az.ak.length<8):V6 s l (⟨⟨s.az.ak++[Gl l],s.az.aq,s.az.cap⟩,s.au,s.ae,s.bq⟩,true):=by
 have e:Mt s l=true:=by rw [Mt,Ak c];exact Dc d
 rw [V6,Ak e,V8,Ak c]
theorem C9d (c:I5 l=true)(cn:F0 l=false)(d:s.au.length<20):V6 s l (⟨s.az,s.au++[Ld l],s.ae,s.bq⟩,true):=by
 have e:Mt s l=true:=by rw [Mt,Ab (by rw [cn];decide),Ak c];exact Dc d
 rw [V6,Ak e,V8,Ab (by rw [cn];decide),Ak c]
theorem C2q (c:Fs l=true)(cn:F0 l=false)(ci:I5 l=false)(d:s.ae.length<200):V6 s l (⟨s.az,s.au,s.ae++[Gm l],s.bq⟩,true):=by
 have e:Mt s l=true:=by rw [Mt,Ab (by rw [cn];decide),Ab (by rw [ci];decide),Ak c];exact Dc d
 rw [V6,Ak e,V8,Ab (by rw [cn];decide),Ab (by rw [ci];decide),Ak c]
def A3r (s:C7) (l:ByteArray):Prop:=Mt s l=decide (R3 l)∧(R3 l→V8 s l=⟨s.az,s.au,s.ae,Sj ((A5 l).getD 1 default)⟩)
theorem B88 (c:F0 l=true)(d:¬ s.az.ak.length<8):A3r s l:=by
 have cn:=(B6x c).2.2;exact ⟨by rw [Mt,Ak c,Cd cn,Cd d],fun h=>(cn h).elim⟩
theorem C6h (c:I5 l=true)(cn:F0 l=false)(d:¬ s.au.length<20):A3r s l:=by
 have ci:=(C6y c).2;exact ⟨by rw [Mt,Ab (by rw [cn];decide),Ak c,Cd ci,Cd d],fun h=>(ci h).elim⟩
theorem B89 (c:Fs l=true)(cn:F0 l=false)(ci:I5 l=false)(d:¬ s.ae.length<200):A3r s l:=by
 have cp:=C72 c;exact ⟨by rw [Mt,Ab (by rw [cn];decide),Ab (by rw [ci];decide),Ak c,Cd cp,Cd d],fun h=>(cp h).elim⟩
theorem A6v (cn:F0 l=false)(ci:I5 l=false)(cp:Fs l=false):A3r s l:=
 ⟨by rw [Mt,Ab (by rw [cn];decide),Ab (by rw [ci];decide),Ab (by rw [cp];decide)],fun _=>by rw [V8,Ab (by rw [cn];decide),Ab (by rw [ci];decide),Ab (by rw [cp];decide)]⟩
theorem Hj (h:A3r s l)(hf:¬ R3 l):V6 s l (s,false):=by
 rw [V6,h.1,Cd hf,Ab Bq]
theorem Xe (h:A3r s l)(hf:R3 l):V6 s l (⟨s.az,s.au,s.ae,Sj ((A5 l).getD 1 default)⟩,true):=by
 rw [V6,h.1,Dc hf,Ak rfl,h.2 hf]
set_option maxHeartbeats 2000000 in
theorem D08 (s:C7)(l:ByteArray)(hs:A0s s)(hl:l.size≤1048576)(hpt:Gk l=true):MtR HT 86 [] s.c [.one (vs l),.one (C6 (A5 l))] (V6 s l) (fun r=>r.1.c) (fun r=>[.one (vb r.2)]):=by
 obtain ⟨n1,n2,n3,n4⟩:=hs;refine zeP Tryz.func86 fun B b hH hp=>?_;conv=>whnf
 refine Gf (B4o l hl) ?_;refine Gf (B0p l hl) ?_;refine Gf (B4p l hl) ?_;refine C1 (fun c=>?_) fun c=>?_
 ·obtain ⟨c1,c2,_⟩:=B6x c
  refine As ?_;refine Dv (fun d=>?_) fun d=>?_
  ·have d:s.az.ak.length<8:=by omega
   refine As ?_;refine Rc rfl (Ib 0 rfl (Ib 1 rfl (Ib 2 rfl (Ib 3 rfl (Ib 4 rfl (T8 5 6 ?_ ?_))))))
   focus
    refine Av (P4 6 ?_);refine Av (P4 7 ?_);refine Li A0 rfl rfl rfl rfl (It ?_)
   rotate_left 1
   focus
    refine Av (T8 5 7 ?_ ?_)
    focus
     refine Av (P4 7 ?_);refine Li A0 rfl rfl rfl rfl (It ?_)
    rotate_left 1
    focus
     refine Li A0 rfl rfl rfl rfl (Ah ?_);refine Av ?_;refine Az [5] Am ⟨?_,trivial⟩;refine go A0 false ?_
   all_goals
    conv=>whnf
    refine Av (P4 8 ?_);refine B6 A0 rfl (At (s.az.ak++[Gl l])) (Ao rfl) Hd A7 (Ah ?_);refine Av (Ib 9 rfl (Ib 10 rfl (Ib 11 rfl (P4 12 ?_))));refine Av (Rb Am (Ah ?_))
   all_goals exact Mw A0 (⟨⟨s.az.ak++[Gl l],s.az.aq,s.az.cap⟩,s.au,s.ae,s.bq⟩,true) (C2p c d) rfl rfl rfl rfl J0
  have hf:=B88 c (show ¬ s.az.ak.length<8 by omega)
  refine As ?_;have hp0:=G8 l;have hp1:=Hf l;refine Lf (fun g=>?_) fun g=>?_
  ·have g:(A5 l).length=2:=by omega
   have hx1:=hp0 _ (Al (d:=default) (show 1<(A5 l).length by omega))
   refine As ?_;refine C1 (fun g2=>?_) fun g2=>?_
   ·have g2:Ir l=(⟨#[102,97,105,114]⟩:ByteArray):=Kl g2
    refine As ?_;refine Fp (Hh ((A5 l).getD 1 default) A7) ?_;refine C1 (fun g3=>?_) fun g3=>?_
    ·have g3:U9 ((A5 l).getD 1 default)=false:=by simpa using g3
     refine As ?_;exact Jf (s,false) (Hj hf (fun h=>by have:=h.2.2.2.1;rw [g3] at this;cases this))
    have g3:U9 ((A5 l).getD 1 default)=true:=by simpa using g3
    refine As ?_;refine Dv (fun g4=>?_) fun g4=>?_
    ·refine As ?_
     exact Jf (s,false) (Hj hf (fun h=>by have:=h.2.2.2.2;omega))
    refine As ?_;exact Jf (⟨s.az,s.au,s.ae,Sj ((A5 l).getD 1 default)⟩,true) (Xe hf ⟨hpt,g,g2,g3,by omega⟩)
   have g2:Ir l≠(⟨#[102,97,105,114]⟩:ByteArray):=fun e=>by rw [show (A5 l).getD (Int.toNat 0) default=(⟨#[102,97,105,114]⟩:ByteArray) from e,Fj] at g2;cases g2
   refine As ?_;exact Jf (s,false) (Hj hf (fun h=>g2 h.2.2.1))
  refine As ?_;exact Jf (s,false) (Hj hf (fun h=>by have:=h.2.1;omega))
 have c:F0 l=false:=by simpa using c
 refine As ?_;refine C1 (fun c1=>?_) fun c1=>?_
 ·refine As ?_
  obtain ⟨c2,_⟩:=C6y c1;refine Dv (fun d=>?_) fun d=>?_
  ·have d:s.au.length<20:=by omega
   refine As ?_;refine Rc rfl (Ib 0 rfl (Ib 1 rfl (Ib 2 rfl (Ib 3 rfl (T8 4 5 ?_ ?_)))))
   focus
    refine Av (P4 5 ?_);refine Av ?_;refine Az [6] Am ⟨?_,trivial⟩
   rotate_left 1
   focus
    refine Av (T8 4 6 ?_ ?_)
    focus
     refine Av ?_;refine Az [6] Am ⟨?_,trivial⟩
    rotate_left 1
    focus
     refine Av ?_;refine Az [4] Am ⟨?_,trivial⟩
   all_goals
    refine Ah ?_;refine Av (P4 7 ?_);refine B6 A0 rfl (A9 (s.au++[Ld l])) (Ao rfl) Hd A7 (Ah ?_);refine Av (Ib 8 rfl (Ib 9 rfl (P4 10 ?_)));refine Av (Rb Am (Ah ?_))
   all_goals exact Mw A0 (⟨s.az,s.au++[Ld l],s.ae,s.bq⟩,true) (C9d c1 c d) rfl rfl rfl rfl J0
  have hf:=C6h c1 c (show ¬ s.au.length<20 by omega)
  refine As ?_;have hp0:=G8 l;have hp1:=Hf l;refine Lf (fun g=>?_) fun g=>?_
  ·have g:(A5 l).length=2:=by omega
   have hx1:=hp0 _ (Al (d:=default) (show 1<(A5 l).length by omega))
   refine As ?_;refine C1 (fun g2=>?_) fun g2=>?_
   ·have g2:Ir l=(⟨#[102,97,105,114]⟩:ByteArray):=Kl g2
    refine As ?_;refine Fp (Hh ((A5 l).getD 1 default) A7) ?_;refine C1 (fun g3=>?_) fun g3=>?_
    ·have g3:U9 ((A5 l).getD 1 default)=false:=by simpa using g3
     refine As ?_;exact Jf (s,false) (Hj hf (fun h=>by have:=h.2.2.2.1;rw [g3] at this;cases this))
    have g3:U9 ((A5 l).getD 1 default)=true:=by simpa using g3
    refine As ?_;refine Dv (fun g4=>?_) fun g4=>?_
    ·refine As ?_
     exact Jf (s,false) (Hj hf (fun h=>by have:=h.2.2.2.2;omega))
    refine As ?_;exact Jf (⟨s.az,s.au,s.ae,Sj ((A5 l).getD 1 default)⟩,true) (Xe hf ⟨hpt,g,g2,g3,by omega⟩)
   have g2:Ir l≠(⟨#[102,97,105,114]⟩:ByteArray):=fun e=>by rw [show (A5 l).getD (Int.toNat 0) default=(⟨#[102,97,105,114]⟩:ByteArray) from e,Fj] at g2;cases g2
   refine As ?_;exact Jf (s,false) (Hj hf (fun h=>g2 h.2.2.1))
  refine As ?_;exact Jf (s,false) (Hj hf (fun h=>by have:=h.2.1;omega))
 have c1:I5 l=false:=by simpa using c1
 refine As ?_;refine C1 (fun c2=>?_) fun c2=>?_
 ·refine As ?_
  refine Dv (fun d=>?_) fun d=>?_
  ·have d:s.ae.length<200:=by omega
   refine As ?_;refine Rc rfl (Ib 0 rfl (Ib 1 rfl (Ib 2 rfl (Ib 3 rfl (T8 4 5 ?_ ?_)))))
   focus
    refine Av (P4 5 ?_);refine Av ?_;refine Az [6] Am ⟨?_,trivial⟩
   rotate_left 1
   focus
    refine Av (T8 4 6 ?_ ?_)
    focus
     refine Av ?_;refine Az [6] Am ⟨?_,trivial⟩
    rotate_left 1
    focus
     refine Av ?_;refine Az [4] Am ⟨?_,trivial⟩
   all_goals
    refine Ah ?_;refine Av (P4 7 ?_);refine B6 A0 rfl (D7 (s.ae++[Gm l])) (Ao rfl) Hd A7 (Ah ?_);refine Av (Ib 8 rfl (Ib 9 rfl (P4 10 ?_)));refine Av (Rb Am (Ah ?_))
   all_goals exact Mw A0 (⟨s.az,s.au,s.ae++[Gm l],s.bq⟩,true) (C2q c2 c c1 d) rfl rfl rfl rfl J0
  have hf:=B89 c2 c c1 (show ¬ s.ae.length<200 by omega)
  refine As ?_;have hp0:=G8 l;have hp1:=Hf l;refine Lf (fun g=>?_) fun g=>?_
  ·have g:(A5 l).length=2:=by omega
   have hx1:=hp0 _ (Al (d:=default) (show 1<(A5 l).length by omega))
   refine As ?_;refine C1 (fun g2=>?_) fun g2=>?_
   ·have g2:Ir l=(⟨#[102,97,105,114]⟩:ByteArray):=Kl g2
    refine As ?_;refine Fp (Hh ((A5 l).getD 1 default) A7) ?_;refine C1 (fun g3=>?_) fun g3=>?_
    ·have g3:U9 ((A5 l).getD 1 default)=false:=by simpa using g3
     refine As ?_;exact Jf (s,false) (Hj hf (fun h=>by have:=h.2.2.2.1;rw [g3] at this;cases this))
    have g3:U9 ((A5 l).getD 1 default)=true:=by simpa using g3
    refine As ?_;refine Dv (fun g4=>?_) fun g4=>?_
    ·refine As ?_
     exact Jf (s,false) (Hj hf (fun h=>by have:=h.2.2.2.2;omega))
    refine As ?_;exact Jf (⟨s.az,s.au,s.ae,Sj ((A5 l).getD 1 default)⟩,true) (Xe hf ⟨hpt,g,g2,g3,by omega⟩)
   have g2:Ir l≠(⟨#[102,97,105,114]⟩:ByteArray):=fun e=>by rw [show (A5 l).getD (Int.toNat 0) default=(⟨#[102,97,105,114]⟩:ByteArray) from e,Fj] at g2;cases g2
   refine As ?_;exact Jf (s,false) (Hj hf (fun h=>g2 h.2.2.1))
  refine As ?_;exact Jf (s,false) (Hj hf (fun h=>by have:=h.2.1;omega))
 have c2:Fs l=false:=by simpa using c2
 have hf:=A6v (s:=s) c c1 c2;refine As ?_;have hp0:=G8 l;have hp1:=Hf l;refine Lf (fun g=>?_) fun g=>?_
 ·have g:(A5 l).length=2:=by omega
  have hx1:=hp0 _ (Al (d:=default) (show 1<(A5 l).length by omega))
  refine As ?_;refine C1 (fun g2=>?_) fun g2=>?_
  ·have g2:Ir l=(⟨#[102,97,105,114]⟩:ByteArray):=Kl g2
   refine As ?_;refine Fp (Hh ((A5 l).getD 1 default) A7) ?_;refine C1 (fun g3=>?_) fun g3=>?_
   ·have g3:U9 ((A5 l).getD 1 default)=false:=by simpa using g3
    refine As ?_;exact Jf (s,false) (Hj hf (fun h=>by have:=h.2.2.2.1;rw [g3] at this;cases this))
   have g3:U9 ((A5 l).getD 1 default)=true:=by simpa using g3
   refine As ?_;refine Dv (fun g4=>?_) fun g4=>?_
   ·refine As ?_
    exact Jf (s,false) (Hj hf (fun h=>by have:=h.2.2.2.2;omega))
   refine As ?_;exact Jf (⟨s.az,s.au,s.ae,Sj ((A5 l).getD 1 default)⟩,true) (Xe hf ⟨hpt,g,g2,g3,by omega⟩)
  have g2:Ir l≠(⟨#[102,97,105,114]⟩:ByteArray):=fun e=>by rw [show (A5 l).getD (Int.toNat 0) default=(⟨#[102,97,105,114]⟩:ByteArray) from e,Fj] at g2;cases g2
  refine As ?_;exact Jf (s,false) (Hj hf (fun h=>g2 h.2.2.1))
 refine As ?_;exact Jf (s,false) (Hj hf (fun h=>by have:=h.2.1;omega))
theorem B3l (s:ByteArray)(hs:s.size≤1048576):E3 Tryz.prog X8 143 [.one (vs s)] [.agg (Gl s).c,.one (vb (F0 s))]:=by
 have hl:=Hf s;refine He A0 false Tryz.func143 rfl Bq fun W hW=>?_;conv=>whnf
 refine Dj (Pu s 2 hs Bq) B5 hW rfl (Ah ?_)
 repeat' (first|(refine Ho ?_;conv=>whnf)|(refine Hp ?_;conv=>whnf)|(refine ⟨fun h=>?_,fun h=>?_⟩<;>conv=>whnf)|(refine Cp ?_;conv=>whnf)|(refine Aj 7 rfl [0,1,2,3,4,5,6,7,8,9,10,11] Am (Ah ?_))|(refine Aj 8 rfl [0,2,3,4,1,5,6,7,8,9,10,11,13,12,14,15] Am (Ah ?_))|fail)
 ·obtain ⟨hv,hb⟩:=Jo (s:=s) (fun c=>by
   rw [Nt,Mi c.1,B0j c,Dc (show 2≤(A5 s).length by have:=c.2.1;omega)] at h
   exact absurd h Bq)
  rw [hv,hb];exact An A0 rfl rfl ⟨⟨rfl,rfl,rfl,.inr ⟨rfl,rfl,_,_,rfl⟩,trivial⟩,rfl,trivial⟩
 ·rename_i g1
  have hok:Nt s 2=true:=by simpa using g1
  have hlen:(Du s 2).length=(A5 s).length-2:=by rw [(Ks hok).1,Hs]
  obtain ⟨hv,hb⟩:=Jo (s:=s) (fun c=>by have:=Bn h;have:=c.2.1;omega);rw [hv,hb];exact An A0 rfl rfl ⟨⟨rfl,rfl,rfl,.inr ⟨rfl,rfl,_,_,rfl⟩,trivial⟩,rfl,trivial⟩
 rename_i g1
 have hok:Nt s 2=true:=by simpa using g1
 have hn:=(Ks hok).1;have ht:=(Ks hok).2;have hpr:=T4 hok
 have hP:Gx s:=by
  have h1:=hok;rw [Nt,Ci,Ci] at h1;exact Bn h1.1.1
 have hlen:(Du s 2).length=(A5 s).length-2:=by rw [hn,Hs]
 have h4:4≤(A5 s).length:=by have:=Cv h;omega
 have hget:∀i,i+2<(A5 s).length→(Du s 2).getD i default=Es (A5 s) (i+2):=fun i hi=>by
  rw [hn,Es,Ak hi,Gp];simp only [B42,Fa,Tf];rw [A0l 2 i,Dl (show i+2<(A5 s).length by omega)]
  rfl
 have e0:(Du s 2).getD (Int.toNat 0) default=Es (A5 s) 2:=hget 0 A7;have e1:(Du s 2).getD (Int.toNat 1) default=Es (A5 s) 3:=hget 1 A7;have hdrop:(Du s 2).drop 2=Gp (A5 s) 4:=by rw [hn,Gp,Gp,←List.map_drop,List.drop_drop]
 have hsub:Y1 (Du s 2).length 1 (fun i=>[vi ((Du s 2).getD i default)]) 2 ((Du s 2).length:Int) (Cn (Gp (A5 s) 4)):=by
  have h:=Xt (es:=1) (e:=fun b=>[vi b]) (xs:=Du s 2) (l:=2) (h:=((Du s 2).length:Int)) A7 A7 A7
  rwa [show (2:Int).toNat=2 from rfl,Ms (by rw [Ge];omega),hdrop] at h
 have hpl:(Se s 2).length=(A5 s).length:=by rw [hpr]
 have hp1:(Se s 2).getD (Int.toNat 1) default=(A5 s).getD 1 default:=by rw [hpr];rfl
 have hz:Hr s→∀j:Nat,j<0→C8 ((j:Int)+1)≠(A5 s).getD 1 default:=fun _ j hj=>absurd hj (L4 _);refine Fx [9] (fun k:Nat=>[(8,.c (vi ((k:Int)+1)))]) (fun k=>[⟨0,[.c (vi 0),.c (vi 0),.c (vi 0),.v (.slice none 0 0)]⟩]) (fun k=>[]) (fun k=>k≤8∧(Hr s→∀j:Nat,j<k→C8 ((j:Int)+1)≠(A5 s).getD 1 default)) (fun k=>8-k) fun k hk=>?_;obtain ⟨hk,he⟩:=hk;refine C1 (fun hk=>?_) fun hk=>?_
 ·have hk:k<8:=by have:=Bn hk;omega
  have ox:=B2c s ((k:Int)+1) A7;have hx:(⟨(k:Int)+1,Es (A5 s) 2,Es (A5 s) 3,Gp (A5 s) 4⟩:C3).w≤1048576:=by have:=Px s 4;show (Gp (A5 s) 4).length≤1048576;omega
  repeat' (first|(refine Ho ?_;conv=>whnf)|(refine Hp ?_;conv=>whnf)|(refine ⟨fun h=>?_,fun h=>?_⟩<;>conv=>whnf)|(refine Cp ?_;conv=>whnf)|(refine Aj 7 rfl [0,1,2,3,4,5,6,7,8,9,10,11] Am (Ah ?_))|(refine Aj 8 rfl [0,2,3,4,1,5,6,7,8,9,10,11,13,12,14,15] Am (Ah ?_))|fail)
  rw [e0,e1];refine P9 A0 rfl ⟨by omega,by omega,by omega⟩ (Cn (Gp (A5 s) 4)) hsub (Ah ?_)
  repeat' (first|(refine Ho ?_;conv=>whnf)|(refine Hp ?_;conv=>whnf)|(refine ⟨fun h=>?_,fun h=>?_⟩<;>conv=>whnf)|(refine Aq (A1c ((k:Int)+1)) rfl (It ?_);conv=>whnf)|(refine Aq (U0 _ (Fk hx Bq)) rfl (It ?_);conv=>whnf)|(refine Dj (B3e _ ox hx) B5 hW rfl (Ah ?_))|(refine Lo (B5m _ (Fk hx Bq)) rfl (It ?_);conv=>whnf)|(refine Cp ?_;conv=>whnf)|(refine Aj 7 rfl [0,1,2,3,4,5,6,7,8,9,10,11] Am (Ah ?_))|(refine Aj 8 rfl [0,2,3,4,1,5,6,7,8,9,10,11,13,12,14,15] Am (Ah ?_))|fail)
  ·rename_i g2 g3
   have hkn:C8 ((k:Int)+1)=(A5 s).getD 1 default:=(Kl g2).trans hp1;have hy:=Uc hk hkn;have hN:Jg (Rn s):=by rw [hy];exact Bn g3
   have hj:Dz (Rn s)=D6 (A5 s):=by rw [hy,←ht];exact Kl h
   obtain ⟨hv,hb⟩:=A4o (s:=s) ⟨hP,h4,hN,hj⟩;rw [hv,hb,hy];exact An A0 rfl rfl ⟨⟨rfl,rfl,rfl,rfl,trivial⟩,rfl,trivial⟩
  ·have hnext:Hr s→∀j:Nat,j<k+1→C8 ((j:Int)+1)≠(A5 s).getD 1 default:=fun c=>A2v (he c) fun hkn=>by
    have hc:=c.2.2.2;rw [Uc hk hkn,←ht] at hc;rw [hc,Fj] at h;exact absurd h Bq
   refine Cc [] (k+1) ⟨by omega,hnext⟩ A7 ⟨rfl,trivial⟩ trivial
  ·have hnext:Hr s→∀j:Nat,j<k+1→C8 ((j:Int)+1)≠(A5 s).getD 1 default:=fun c=>A2v (he c) fun hkn=>by
    have hc:=c.2.2.1;rw [Uc hk hkn] at hc;exact absurd hc (Cv h)
   refine Cc [] (k+1) ⟨by omega,hnext⟩ A7 ⟨rfl,trivial⟩ trivial
  have hnext:Hr s→∀j:Nat,j<k+1→C8 ((j:Int)+1)≠(A5 s).getD 1 default:=fun c=>A2v (he c) fun hkn=>by
   rw [hkn,←hp1,Fj] at h;exact absurd h Bq
  refine Cc [] (k+1) ⟨by omega,hnext⟩ A7 ⟨rfl,trivial⟩ trivial
 have hk:k=8:=by have:=Cv hk;omega
 obtain ⟨hv,hb⟩:=Jo (s:=s) (fun c=>by
  obtain ⟨j,hj,hn⟩:=B0i c
  exact he c j A7 hn)
 rw [hv,hb];exact An A0 rfl rfl ⟨⟨rfl,rfl,rfl,.inr ⟨rfl,rfl,_,_,rfl⟩,trivial⟩,rfl,trivial⟩
def B8g (s:C7) (l:ByteArray) (r:C7×Bool):Prop:=r.2=Mt s l∧(Mt s l=true→r.1=V8 s l)
variable {s : C7} {l : ByteArray}
theorem C2n (c:F0 l=true):B8g s l (⟨⟨s.az.ak++[Gl l],s.az.aq,s.az.cap⟩,s.au,s.ae,s.bq⟩,decide (((s.az.ak++[Gl l]).length:Int)≤8)):=by
 refine ⟨?_,fun _=>by rw [V8,Ak c]⟩
 rw [Mt,Ak c,D3,Lx];exact Uw.2 A7
theorem C9c (c:I5 l=true)(cn:F0 l=false):B8g s l (⟨s.az,s.au++[Ld l],s.ae,s.bq⟩,decide (((s.au++[Ld l]).length:Int)≤20)):=by
 refine ⟨?_,fun _=>by rw [V8,Ab (by rw [cn];decide),Ak c]⟩;rw [Mt,Ab (by rw [cn];decide),Ak c,D3,Lx];exact Uw.2 A7
theorem C2o (c:Fs l=true)(cn:F0 l=false)(ci:I5 l=false):B8g s l (⟨s.az,s.au,s.ae++[Gm l],s.bq⟩,decide (((s.ae++[Gm l]).length:Int)≤200)):=by
 refine ⟨?_,fun _=>by rw [V8,Ab (by rw [cn];decide),Ab (by rw [ci];decide),Ak c]⟩;rw [Mt,Ab (by rw [cn];decide),Ab (by rw [ci];decide),Ak c,D3,Lx];exact Uw.2 A7
theorem A5f (h:A3r s l)(hf:¬ R3 l):B8g s l (s,false):=by
 refine ⟨by rw [h.1,Cd hf],fun c=>?_⟩;rw [h.1,Cd hf] at c
 cases c
theorem C5c (h:A3r s l)(hf:R3 l):B8g s l (⟨s.az,s.au,s.ae,Sj ((A5 l).getD 1 default)⟩,true):=
 ⟨by rw [h.1,Dc hf],fun _=>(h.2 hf).symm⟩
theorem C7q (h:R3 l):Nt l 1=true:=by
 obtain ⟨h1,h2,_,h4,_⟩:=h;rw [Nt,h1,Dc (by omega:1≤(A5 l).length),Ql];generalize A5 l=p at h2 h4
 match p,h2 with
 | [a,b],_=>
  simp only [X1,A0q,Wy,List.all_nil,A3o];exact h4
theorem D0m (h:Nt l 1=true)(hn:(Du l 1).length=1):Gk l=true∧(A5 l).length=2∧U9 ((A5 l).getD 1 default)=true∧Du l 1=[Sj ((A5 l).getD 1 default)]:=by
 have hi:=(Ks h).1;rw [hi] at hn ⊢;rw [Nt,Ci,Ci] at h;obtain ⟨⟨h1,h2⟩,h3⟩:=h;rw [Hs] at hn;have hl:(A5 l).length=2:=by have:=Bn h2;omega
 rw [Ql] at h3;rw [Gp];refine ⟨h1,hl,?_⟩;generalize A5 l=p at hl h3
 match p,hl with
 | [a,b],_=>
  simp only [X1,A0q,Wy,List.all_nil,A3o] at h3;exact ⟨h3,rfl⟩
set_option maxHeartbeats 2000000 in
theorem C1e (s:C7)(l:ByteArray)(hs:A0s s)(hl:l.size≤1048576):Nw Tryz.prog X8 81 [] [.agg s.c] [.one (vs l)] (B8g s l) (fun r=>[.agg r.1.c,.one (vb r.2)]):=by
 obtain ⟨n1,n2,n3,n4⟩:=hs;refine Z5 A0 false Tryz.func81 rfl Bq fun B hH hp=>?_;conv=>whnf
 conv=>whnf
 refine B8w (B3l l hl) hH rfl (Ah ?_);refine C1 (fun c=>?_) fun c=>?_
 ·refine Li A0 rfl rfl rfl rfl (Ah ?_)
  refine B6 A0 rfl (At (s.az.ak++[Gl l])) (Ao rfl) Hd A7 (Ah ?_);refine Rc rfl (Ib 1 rfl (Ib 2 rfl (T8 0 3 ?_ ?_)))
  focus
   refine Av (T8 3 6 ?_ ?_)
   focus
    refine Av (T8 4 6 ?_ ?_)
    focus
     refine Av (Ib 5 rfl (P4 6 ?_));refine Av ?_
    rotate_left 1
    focus
     refine Av (P4 4 ?_);refine Av (Ib 5 rfl ?_)
   rotate_left 2
   focus
    refine Av (P4 3 ?_);refine Av (P4 4 ?_);refine Av (Ib 5 rfl ?_)
  rotate_left 3
  focus
   refine Av (T8 0 4 ?_ ?_)
   focus
    refine Av (T8 4 6 ?_ ?_)
    focus
     refine Av (Ib 5 rfl (P4 6 ?_));refine Av ?_
    rotate_left 1
    focus
     refine Av (P4 4 ?_);refine Av (Ib 5 rfl ?_)
   rotate_left 2
   focus
    refine Av (Ib 5 rfl (P4 0 ?_));refine Av (P4 6 ?_);refine Av ?_
  all_goals
   refine Ib 7 rfl ?_;refine Rb Am (Ah ?_)
  all_goals exact V9 A0 (⟨⟨s.az.ak++[Gl l],s.az.aq,s.az.cap⟩,s.au,s.ae,s.bq⟩,_) (C2n c) rfl rfl J0
 have c:F0 l=false:=by simpa using c
 refine B8w (A99 l hl) hH rfl (Ah ?_);refine C1 (fun c1=>?_) fun c1=>?_
 ·refine B6 A0 rfl (A9 (s.au++[Ld l])) (Ao rfl) Hd A7 (Ah ?_)
  refine Rc rfl (Ib 1 rfl (T8 0 2 ?_ ?_))
  focus
   refine Av (T8 2 5 ?_ ?_)
   focus
    refine Av (T8 3 5 ?_ ?_)
    focus
     refine Av (Ib 4 rfl (P4 5 ?_));refine Av ?_
    rotate_left 1
    focus
     refine Av (P4 3 ?_);refine Av (Ib 4 rfl ?_)
   rotate_left 2
   focus
    refine Av (P4 2 ?_);refine Av (P4 3 ?_);refine Av (Ib 4 rfl ?_)
  rotate_left 3
  focus
   refine Av (T8 0 3 ?_ ?_)
   focus
    refine Av (T8 3 5 ?_ ?_)
    focus
     refine Av (Ib 4 rfl (P4 5 ?_));refine Av ?_
    rotate_left 1
    focus
     refine Av (P4 3 ?_);refine Av (Ib 4 rfl ?_)
   rotate_left 2
   focus
    refine Av (Ib 4 rfl (P4 0 ?_));refine Av (P4 5 ?_);refine Av ?_
  all_goals
   refine Ib 6 rfl ?_;refine Rb Am (Ah ?_)
  all_goals exact V9 A0 (⟨s.az,s.au++[Ld l],s.ae,s.bq⟩,_) (C9c c1 c) rfl rfl J0
 have c1:I5 l=false:=by simpa using c1
 refine B8w (B3m l hl) hH rfl (Ah ?_);refine C1 (fun c2=>?_) fun c2=>?_
 ·refine B6 A0 rfl (D7 (s.ae++[Gm l])) (Ao rfl) Hd A7 (Ah ?_)
  refine Rc rfl (Ib 1 rfl (T8 0 2 ?_ ?_))
  focus
   refine Av (T8 2 5 ?_ ?_)
   focus
    refine Av (T8 3 5 ?_ ?_)
    focus
     refine Av (Ib 4 rfl (P4 5 ?_));refine Av ?_
    rotate_left 1
    focus
     refine Av (P4 3 ?_);refine Av (Ib 4 rfl ?_)
   rotate_left 2
   focus
    refine Av (P4 2 ?_);refine Av (P4 3 ?_);refine Av (Ib 4 rfl ?_)
  rotate_left 3
  focus
   refine Av (T8 0 3 ?_ ?_)
   focus
    refine Av (T8 3 5 ?_ ?_)
    focus
     refine Av (Ib 4 rfl (P4 5 ?_));refine Av ?_
    rotate_left 1
    focus
     refine Av (P4 3 ?_);refine Av (Ib 4 rfl ?_)
   rotate_left 2
   focus
    refine Av (Ib 4 rfl (P4 0 ?_));refine Av (P4 5 ?_);refine Av ?_
  all_goals
   refine Ib 6 rfl ?_;refine Rb Am (Ah ?_)
  all_goals exact V9 A0 (⟨s.az,s.au,s.ae++[Gm l],s.bq⟩,_) (C2o c2 c c1) rfl rfl J0
 have c2:Fs l=false:=by simpa using c2
 have hf:=A6v (s:=s) c c1 c2;refine D11 (Pu l 1 hl Bq) hH rfl (Ah ?_);refine C1 (fun g0=>?_) fun g0=>?_
 ·have g0:Nt l 1=false:=by simpa using g0
  refine As ?_;exact V9 A0 (s,false) (A5f hf (fun h=>by have:=C7q h;rw [g0] at this;cases this)) rfl rfl J0
 have g0:Nt l 1=true:=by simpa using g0
 have hpr:=T4 g0;have hnr:=(Ks g0).1;refine As ?_;refine Y0 (fun g1=>?_) fun g1=>?_
 ·have g1:(Du l 1).length≠1:=by omega
  refine As ?_;exact V9 A0 (s,false) (A5f hf (fun h=>g1 (by rw [hnr,Hs,h.2.1]))) rfl rfl J0
 have g1:(Du l 1).length=1:=by omega
 obtain ⟨p1,p2,p3,p4⟩:=D0m g0 g1;have hpl:(Se l 1).length=2:=by rw [hpr];exact p2
 have hn0:(Du l 1).getD 0 default=Sj ((A5 l).getD 1 default):=by rw [p4];rfl
 refine As ?_;refine C1 (fun g2=>?_) fun g2=>?_
 ·have g2:Ir l≠(⟨#[102,97,105,114]⟩:ByteArray):=fun e=>by
   rw [hpr,show (A5 l).getD (Int.toNat 0) default=(⟨#[102,97,105,114]⟩:ByteArray) from e,Fj] at g2
   cases g2
  refine As ?_;exact V9 A0 (s,false) (A5f hf (fun h=>g2 h.2.2.1)) rfl rfl J0
 have g2:Ir l=(⟨#[102,97,105,114]⟩:ByteArray):=by
  have:=Kl (by simpa using g2:_=true)
  rw [hpr] at this;exact this
 refine As ?_;refine Dv (fun g3=>?_) fun g3=>?_
 ·have g3:¬ R3 l:=fun h=>by
   have h5:=h.2.2.2.2;rw [←hn0] at h5;exact absurd g3 (Int.not_lt.2 h5)
  refine As ?_;exact V9 A0 (s,false) (A5f hf g3) rfl rfl J0
 have g3:(Du l 1).getD 0 default≤3000:=Int.not_lt.1 g3;rw [hn0] at g3;refine As ?_;exact V9 A0 (⟨s.az,s.au,s.ae,(Du l 1).getD 0 default⟩,true) (by rw [hn0];exact C5c hf ⟨p1,p2,g2,p3,g3⟩) rfl rfl J0
end Go.Proofs.YtmhcebdkjgkmlaaGreatDoor
