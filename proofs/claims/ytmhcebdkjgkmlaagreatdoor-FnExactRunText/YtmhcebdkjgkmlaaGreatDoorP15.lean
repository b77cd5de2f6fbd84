/- Part 15 of the proof that each of the laws FnExactWhoIsDone, FnExactResultText, FnExactRunText returns true for every input. No conditions. -/
import Derived.Test.YtmhcebdkjgkmlaaGreatDoorP14

set_option linter.unusedSimpArgs false
set_option linter.unusedVariables false
set_option maxRecDepth 100000
namespace Go.Proofs.YtmhcebdkjgkmlaaGreatDoor
open Go.Sx
variable {w : Int} {f : Int} {t : Int}
theorem S7 (hw:1≤w∧w≤4)(hf:0≤f∧f<w)(ht:0≤t∧t<w):J2 w f t=f * w+t:=by
 unfold J2;rw [Ak A7];have e:w=1∨w=2∨w=3∨w=4:=by omega
 rcases e with rfl|rfl|rfl|rfl<;>rw [Ks (k:= .i64) (n:=f * _) (by show _∧_;omega),Ks (by show _∧_;omega)]
theorem B3x (h:¬ ((0≤f∧f<w)∧(0≤t∧t<w))):J2 w f t= -1:=by
 unfold J2;rw [Ab A7]
variable {c : A3}
theorem Pt (h:Av c)(hf:0≤f∧f<c.az.aq)(ht:0≤t∧t<c.az.aq):0≤Aq c f t∧Aq c f t<c.ay.length:=by
 have hl:=h.1.2.2.1;have hw:=h.1.1.2.1
 clear h
 unfold Aq;generalize c.az.aq=n at *;have e:n=1∨n=2∨n=3∨n=4:=by omega
 rcases e with rfl|rfl|rfl|rfl<;>omega
theorem S4 (x:A3)(w:Int)(h:x.w≤16000000)(hgo:M0 x):Dj 221 [.agg x.c,.one (vi w)] [.one (vb (decide (I0 x w)))]:=by
 have hl:=A3.workers_le h;refine E3 Tryz.func221 fun W=>?_;refine F0 (O7 x A7 hgo) ?_;refine Cc (fun h1=>?_) fun h1=>?_
 ·refine Ar ?_
  refine As (H9 w 0 (x.aq.length-1)) rfl (Hd ?_);exact An A0 rfl rfl ⟨A6 vb (by rw [Th,Go.Sx.Ch,J7];exact ⟨fun p=>⟨p.2.1,by have:=p.2.2;omega⟩,fun p=>⟨Bj h1,by omega,by omega⟩⟩),trivial⟩
 refine Ar ?_;exact An A0 rfl rfl ⟨A6 vb (Cb fun p=>absurd p.1 (Cr h1)),trivial⟩
theorem A4r (h:¬ I0 c w):Fp c w=(c,false):=Ab h
theorem U6 (h:I0 c w):Fp c w=(Bc c w (Ma c.az (A8 c w)).1,(Ma c.az (A8 c w)).2):=Ak h
theorem A1x (h:¬ I0 c w):Eu c w=(c,false):=Ab h
theorem S9 (h:I0 c w):Eu c w=(Bc c w (Gy c.az (A8 c w)).1,(Gy c.az (A8 c w)).2):=Ak h
set_option maxHeartbeats 2000000 in
theorem B3k (x:A3)(w:Int)(h:x.w≤16000000)(hgo:M0 x):Dj 175 [.agg x.c,.one (vi w)] [.agg (Fp x w).1.c,.one (vb (Fp x w).2)]:=by
 refine E3 Tryz.func175 fun W=>?_;refine Gg (F3 x A7) ?_;refine F0 (S4 x w h hgo) ?_;refine Cc (fun h1=>?_) fun h1=>?_
 ·have h1:¬ I0 x w:=Cr (by simpa using h1)
  refine Ar ?_;rw [A4r h1];exact D0
 have h1:I0 x w:=Bj (show decide (I0 x w)=true by simpa using h1)
 have hC:=h1.1;have hb:=h1.2;have hk:w.toNat<x.aq.length:=by omega
 have hw:=A3.worker_le h hk;have hg:=Tu h;have hWP:=hC.2.1 _ (Am (d:=default) hk);have hww:(A8 x w).w≤16000000:=by show (x.aq.getD w.toNat default).w≤_;omega
 refine Ar ?_;refine Iy rfl (Dw 0 rfl (Dw 2 rfl (Dw 4 rfl ?_)));refine Of 1 ?_;refine Of 3 ?_;refine Of 5 ?_;refine Of 6 ?_;refine zt2 7 11 ?_ ?_
 focus
  refine Gg (A7s x.az (A8 x w) A7 hww) ?_;refine E6 (Dw 8 rfl ?_);refine zoF 9 ?_;refine zoF 10 ?_;refine splitB [11] Ah ⟨?_,trivial⟩;refine Er ?_;refine E6 ?_
 rotate_left 1
 focus
  refine B8 ?_;refine E6 ?_;refine splitB [7] Ah ⟨?_,trivial⟩;refine Aj ?_;refine Gg (A7s x.az (A8 x w) A7 hww) ?_;refine E6 (Dw 8 rfl ?_);refine zoF 9 ?_;refine zoF 10 ?_
 all_goals
  refine splitB [12] Ah ⟨?_,trivial⟩;refine Er ?_;refine E6 (Dw 13 rfl ?_);refine A01 Ah (Aj ?_)
 all_goals
  refine B8 ?_;refine Bt (j:=w) A0 rfl (Af (x.aq.set w.toNat (Ma x.az (A8 x w)).1)) (Dd hk rfl) (Aj ?_);rw [U6 h1];exact D0
set_option maxHeartbeats 2000000 in
theorem B0b (x:A3)(w:Int)(h:x.w≤16000000)(hgo:M0 x):Dj 176 [.agg x.c,.one (vi w)] [.agg (Eu x w).1.c,.one (vb (Eu x w).2)]:=by
 refine E3 Tryz.func176 fun W=>?_;refine Gg (F3 x A7) ?_;refine F0 (S4 x w h hgo) ?_;refine Cc (fun h1=>?_) fun h1=>?_
 ·have h1:¬ I0 x w:=Cr (by simpa using h1)
  refine Ar ?_;rw [A1x h1];exact D0
 have h1:I0 x w:=Bj (show decide (I0 x w)=true by simpa using h1)
 have hC:=h1.1;have hb:=h1.2;have hk:w.toNat<x.aq.length:=by omega
 have hw:=A3.worker_le h hk;have hg:=Tu h;have hWP:=hC.2.1 _ (Am (d:=default) hk);have hww:(A8 x w).w≤16000000:=by show (x.aq.getD w.toNat default).w≤_;omega
 refine Ar ?_;refine Iy rfl (Dw 0 rfl (Dw 2 rfl (Dw 4 rfl ?_)));refine Of 1 ?_;refine Of 3 ?_;refine Of 5 ?_;refine Of 6 ?_;refine zt2 7 11 ?_ ?_
 focus
  refine Gg (Y9 x.az (A8 x w) A7 hww) ?_;refine E6 (Dw 8 rfl ?_);refine zoF 9 ?_;refine zoF 10 ?_;refine splitB [11] Ah ⟨?_,trivial⟩;refine Er ?_;refine E6 ?_
 rotate_left 1
 focus
  refine B8 ?_;refine E6 ?_;refine splitB [7] Ah ⟨?_,trivial⟩;refine Aj ?_;refine Gg (Y9 x.az (A8 x w) A7 hww) ?_;refine E6 (Dw 8 rfl ?_);refine zoF 9 ?_;refine zoF 10 ?_
 all_goals
  refine splitB [12] Ah ⟨?_,trivial⟩;refine Er ?_;refine E6 (Dw 13 rfl ?_);refine A01 Ah (Aj ?_)
 all_goals
  refine B8 ?_;refine Bt (j:=w) A0 rfl (Af (x.aq.set w.toNat (Gy x.az (A8 x w)).1)) (Dd hk rfl) (Aj ?_);rw [S9 h1];exact D0
theorem Rm (h:¬ (I0 c w∧0<(A8 c w).ae.length)):Cg c w=(c,false):=Ab h
theorem A1y (h:I0 c w∧0<(A8 c w).ae.length)(h1:B0 c w=w):Cg c w=(Bc c w (kept (Et (A8 c w)) (B1 c w)),true):=by
 unfold Cg;rw [Ak h,Ak h1]
theorem Yh (h:I0 c w∧0<(A8 c w).ae.length)(h1:B0 c w≠w)(h2:(Cy (Be c (Aq c w (B0 c w))) (B1 c w)).2=false):Cg c w=(c,false):=by
 unfold Cg;rw [Ak h,Ab h1,Ab (by rw [h2];decide)]
theorem Yi (h:I0 c w∧0<(A8 c w).ae.length)(h1:B0 c w≠w)(h2:(Cy (Be c (Aq c w (B0 c w))) (B1 c w)).2=true):Cg c w=(Bc (D6 c (Aq c w (B0 c w)) (Cy (Be c (Aq c w (B0 c w))) (B1 c w)).1) w (Jx (Et (A8 c w)) (B1 c w).am.ab),true):=by
 unfold Cg;rw [Ak h,Ab h1,Ak h2]
theorem B65 {k n:Int}(hk:0≤k)(hn:1≤n):0≤Es k n∧Es k n<n:=by
 have h1:=A9x k (show 0<n by omega)
 have h2:=Int.tmod_nonneg n hk;unfold Es
 (repeat' split)<;>omega
theorem C4x (x:Ae):(Et x).w≤x.w:=by
 simp only [Ae.w,Et,G4];omega
set_option maxHeartbeats 4000000 in
theorem B3i (x:A3)(w:Int)(h:x.w≤8000000)(hgo:M0 x):Dj 177 [.agg x.c,.one (vi w)] [.agg (Cg x w).1.c,.one (vb (Cg x w).2)]:=by
 have h:x.w≤16000000:=by omega
 refine E3 Tryz.func177 fun W=>?_;refine Gg (F3 x A7) ?_;refine F0 (S4 x w h hgo) ?_;refine Cc (fun h1=>?_) fun h1=>?_
 ·have h1:¬ I0 x w:=Cr (by simpa using h1)
  refine Ar ?_;rw [(fun q=>Rm (fun p=>q p.1)) h1];exact D0
 have h1:I0 x w:=Bj (show decide (I0 x w)=true by simpa using h1)
 have hC:=h1.1;have hb:=h1.2;have hk:w.toNat<x.aq.length:=by omega
 have hw:=A3.worker_le h hk;have hg:=Tu h;have hWP:=hC.2.1 _ (Am (d:=default) hk);have hww:(A8 x w).w≤16000000:=by show (x.aq.getD w.toNat default).w≤_;omega
 refine Ar ?_;refine L8 (fun h2=>?_) fun h2=>?_
 ·refine Ar ?_
  rw [Rm (fun p=>by have:=p.2;simp only [A8] at this;omega)];exact D0
 have h2:0<(A8 x w).ae.length:=by simp only [A8];omega
 have hM:I0 x w∧0<(A8 x w).ae.length:=⟨h1,h2⟩;have hR:Gu (B1 x w)∧(B1 x w).op<x.az.ak.length:=hWP.1.2.1 _ (Am (d:=default) h2);have hgw:=hC.1.1.2.1;have how:=B65 (k:=(B1 x w).key) (n:=x.az.aq) hR.1.2.2.2.1.1 hgw.1;have hwl:=hC.1.2.1;have huw:=C4x (A8 x w);refine Ar ?_;refine Gg (B3r (A8 x w) hww) ?_;rw [A2d h2];refine F0 (A4a (B1 x w).key x.az.aq A7) ?_;refine L8 (fun h3=>?_) fun h3=>?_
 ·have h3:B0 x w=w:=h3
  first|(refine Al 7 rfl [0,1,2,3,4,5,6,7] Ah (Aj ?_))|(refine Al 10 rfl [0,1,2,3,4,5,6,7,8,9,10,11,12] Ah (Aj ?_))|(refine Al 14 rfl [0,1,2,3,4,5,6,7,8,9] Ah (Aj ?_))
  refine Ll (B6a (Et (A8 x w)) (B1 x w) A7) rfl (Er ?_);refine Bt (j:=w) A0 rfl (Af (x.aq.set w.toNat (kept (Et (A8 x w)) (B1 x w)))) (Dd hk rfl) (Aj ?_);rw [A1y hM h3];exact D0
 have h3:B0 x w≠w:=h3;have hmt:0≤B0 x w∧B0 x w<x.az.aq:=how;have hln:=Pt hC (f:=w) (t:=B0 x w) A7 hmt;have hlk:(Aq x w (B0 x w)).toNat<x.ay.length:=by omega
 have hlw:=A3.link_le h hlk;have hlp:J2 x.az.aq w (Es (B1 x w).key x.az.aq)=Aq x w (B0 x w):=S7 hgw A7 hmt;refine F0 (Y7 x.az w (Es (B1 x w).key x.az.aq)) ?_;rw [hlp];refine Iy rfl (Dw 0 rfl (Dw 2 rfl ?_));refine Of 1 ?_;refine Of 3 ?_;refine Of 4 ?_;refine Of 5 ?_;refine zt2 6 10 ?_ ?_
 focus
  refine Ll (A7r (Be x (Aq x w (B0 x w))) (B1 x w) (by show (x.ay.getD _ default).w≤_;omega) (hgo _ (Am (d:=default) hlk))) rfl (Aj ?_)
  refine E6 (Dw 7 rfl ?_);refine zoF 8 ?_;refine zoF 9 ?_;refine splitB [10] Ah ⟨?_,trivial⟩;refine Er ?_;refine E6 ?_
 rotate_left 1
 focus
  refine B8 ?_;refine E6 ?_;refine splitB [6] Ah ⟨?_,trivial⟩;refine Aj ?_;refine Ll (A7r (Be x (Aq x w (B0 x w))) (B1 x w) (by show (x.ay.getD _ default).w≤_;omega) (hgo _ (Am (d:=default) hlk))) rfl (Aj ?_)
  refine E6 (Dw 7 rfl ?_);refine zoF 8 ?_;refine zoF 9 ?_
 all_goals
  refine splitB [11] Ah ⟨?_,trivial⟩;refine Er ?_;refine E6 (Dw 12 rfl ?_);refine A01 Ah (Aj ?_)
 all_goals
  refine Cc (fun h4=>?_) fun h4=>?_
  ·have h4:(Cy (Be x (Aq x w (B0 x w))) (B1 x w)).2=false:=by simpa using h4
   refine Ar ?_;rw [Yh hM h3 h4];exact D0
  have h4:(Cy (Be x (Aq x w (B0 x w))) (B1 x w)).2=true:=by simpa using h4
  refine Ar ?_;refine Bt (j:=(Aq x w (B0 x w))) A0 rfl (B7 (x.ay.set (Aq x w (B0 x w)).toNat (Cy (Be x (Aq x w (B0 x w))) (B1 x w)).1)) (Dd hlk rfl) (Aj ?_)
  first|(refine Al 7 rfl [0,1,2,3,4,5,6,7] Ah (Aj ?_))|(refine Al 10 rfl [0,1,2,3,4,5,6,7,8,9,10,11,12] Ah (Aj ?_))|(refine Al 14 rfl [0,1,2,3,4,5,6,7,8,9] Ah (Aj ?_))
  refine Ll (B3o (Et (A8 x w)) (B1 x w).am.ab A7 hWP.2.2.2.1) rfl (Er ?_);refine Bt (j:=w) A0 rfl (Af (x.aq.set w.toNat (Jx (Et (A8 x w)) (B1 x w).am.ab))) (Dd hk rfl) (Aj ?_);rw [Yi hM h3 h4];exact D0
theorem On (h:¬ Oy c f t):Dz c f t=(c,false):=Ab fun p=>h p.1
theorem Yj (h:(Bo (Be c (Aq c f t))).2.2=false):Dz c f t=(c,false):=Ab fun p=>by rw [p.2] at h;cases h
theorem A1z (h:Oy c f t)(h1:(Bo (Be c (Aq c f t))).2.2=true):Dz c f t=(Bc (D6 c (Aq c f t) (Bo (Be c (Aq c f t))).1) t (Ik (A8 c t) (Bo (Be c (Aq c f t))).2.1),true):=Ak ⟨h,h1⟩
theorem Lo (h:¬ Oy c f t):Ez c f t=(c,false):=Ab h
theorem W8 (h:Oy c f t):Ez c f t=(D6 c (Aq c f t) (Ep (Be c (Aq c f t))).1,(Ep (Be c (Aq c f t))).2):=Ak h
def Nx (c:A3) (f t:Int):Int:=if Oy c f t then Aq c f t else-1
theorem A70 (hC:Av c)(hne:f≠t):J2 c.az.aq f t=Nx c f t:=by
 unfold Nx
 by_cases h:Oy c f t
 ·rw [Ak h,S7 hC.1.1.2.1 h.2.2.1 h.2.2.2]
  rfl
 rw [Ab h,B3x (fun p=>h ⟨hC,hne,p⟩)]
theorem A7n (x:A3)(f t:Int)(h:x.w≤16000000)(hgo:M0 x):Dj 229 [.agg x.c,.one (vi f),.one (vi t)] [.one (vi (Nx x f t))]:=by
 refine E3 Tryz.func229 fun W=>?_;refine F0 (O7 x A7 hgo) ?_;refine Cc (fun h1=>?_) fun h1=>?_
 ·have h1:¬ Av x:=Cr (by simpa [At] using h1)
  refine Ar ?_;rw [Nx,Ab (fun p=>h1 p.1)];exact D0
 have h1:Av x:=Bj (show At x=true by simpa using h1)
 refine Ar ?_;refine L8 (fun h2=>?_) fun h2=>?_
 ·refine Ar ?_
  rw [Nx,Ab (fun p=>p.2.1 h2)];exact D0
 refine Ar ?_;refine F0 (Y7 x.az f t) ?_;rw [A70 h1 h2];exact D0
set_option maxHeartbeats 4000000 in
theorem A7o (x:A3)(f t:Int)(h:x.w≤16000000)(hgo:M0 x):Dj 179 [.agg x.c,.one (vi f),.one (vi t)] [.agg (Ez x f t).1.c,.one (vb (Ez x f t).2)]:=by
 refine E3 Tryz.func179 fun W=>?_;refine Gg (F3 x A7) ?_;refine F0 (A7n x f t h hgo) ?_
 cases hL:decide (Oy x f t)
 ·have hL:¬ Oy x f t:=Cr hL
  rw [Nx,Ab hL];refine Ar ?_;rw [Lo hL];exact D0
 have hL:Oy x f t:=Bj hL;have hC:=hL.1;have hln:=Pt hC hL.2.2.1 hL.2.2.2;have hlk:(Aq x f t).toNat<x.ay.length:=by omega
 have hlw:=A3.link_le h hlk;have hog:=hgo _ (Am (d:=default) hlk);rw [Nx,Ak hL];refine Hf B5b ?_;conv=>whnf
 refine B8 ?_;refine Ll (A7j (Be x (Aq x f t)) (by show (x.ay.getD _ default).w≤_;omega) hog) rfl (Er ?_)
 refine Bt (j:=(Aq x f t)) A0 rfl (B7 (x.ay.set (Aq x f t).toNat (Ep (Be x (Aq x f t))).1)) (Dd hlk rfl) (Aj ?_);rw [W8 hL];exact D0
set_option maxHeartbeats 4000000 in
theorem B3j (x:A3)(f t:Int)(h:x.w≤8000000)(hgo:M0 x):Dj 178 [.agg x.c,.one (vi f),.one (vi t)] [.agg (Dz x f t).1.c,.one (vb (Dz x f t).2)]:=by
 have h8:=h;have h:x.w≤16000000:=by omega
 refine E3 Tryz.func178 fun W=>?_;refine Gg (F3 x A7) ?_;refine F0 (A7n x f t h hgo) ?_
 cases hL:decide (Oy x f t)
 ·have hL:¬ Oy x f t:=Cr hL
  rw [Nx,Ab hL];refine Ar ?_;rw [On hL];exact D0
 have hL:Oy x f t:=Bj hL;have hC:=hL.1;have hln:=Pt hC hL.2.2.1 hL.2.2.2;have hlk:(Aq x f t).toNat<x.ay.length:=by omega
 have hlw:=A3.link_le h hlk;have hog:=hgo _ (Am (d:=default) hlk);rw [Nx,Ak hL];refine Hf B5b ?_;conv=>whnf
 refine B8 ?_;refine Ll (B3q (Be x (Aq x f t)) (by show (x.ay.getD _ default).w≤_;omega) hog) rfl (Aj ?_)
 refine Cc (fun h4=>?_) fun h4=>?_
 ·have h4:(Bo (Be x (Aq x f t))).2.2=false:=by simpa using h4
  refine Ar ?_;rw [Yj h4];exact D0
 have h4:(Bo (Be x (Aq x f t))).2.2=true:=by simpa using h4
 have hT:0<(Be x (Aq x f t)).ar.length:=by
  rcases Nat.eq_zero_or_pos (Be x (Aq x f t)).ar.length with e|e
  ·rw [Xv (fun p=>by omega)] at h4;cases h4
  exact e
 have hLA:=hC.2.2.1 _ hlk;have hLP:Hm (Be x (Aq x f t)):=hLA.1;have hrec:(Bo (Be x (Aq x f t))).2.1=(Be x (Aq x f t)).ar.getD 0 default:=by rw [A2b ⟨hLP,hT⟩]
 have hRP:Gu (Bo (Be x (Aq x f t))).2.1:=by rw [hrec];exact hLP.2 _ (Am hT)
 have hb:=hL.2.2.2;have hwl:=hC.1.2.1;have hk:t.toNat<x.aq.length:=by omega
 have hw:=A3.worker_le h8 hk;have hWP:=hC.2.1 _ (Am (d:=default) hk);refine Ar ?_;refine Bt (j:=(Aq x f t)) A0 rfl (B7 (x.ay.set (Aq x f t).toNat (Bo (Be x (Aq x f t))).1)) (Dd hlk rfl) (Aj ?_)
 first|(refine Al 9 rfl [0,1,2,3,4,5,6,7,8,9,10,11] Ah (Aj ?_))
 refine B8 ?_;refine Ll (B3n (A8 x t) (Bo (Be x (Aq x f t))).2.1 (by show (x.aq.getD _ default).w≤_;omega) hWP.2.2.2.1 hWP.2.1.1 hWP.2.1.2.1 hRP.2.1) rfl (Er ?_)
 refine Bt (j:=t) A0 rfl (Af (x.aq.set t.toNat (Ik (A8 x t) (Bo (Be x (Aq x f t))).2.1))) (Dd hk rfl) (Aj ?_);rw [A1z hL h4];exact D0
theorem A77 {g:B2}{op:Int}(h:Dv op 0 (g.ak.length-1)=true):Qd g op=(Ac g op,true):=Ak h
theorem B14 {g:B2}{op:Int}(h:Dv op 0 (g.ak.length-1)=false):Qd g op=(⟨0,0,0,[]⟩,false):=Ab (by rw [h];decide)
theorem B96 {k:Int}{l:List Ad}{x:Ad}(h:¬ (k=5∨k=6∨k=8)):Cs k l x=(l,true):=A24 (fun p=>h (.inl p)) (fun p=>h (.inr (.inr p))) (fun p=>h (.inr (.inl p)))
set_option maxHeartbeats 4000000 in
theorem C0k (g:B2)(cs:List Ad)(r:Aa)(hg:g.w≤16777216)(hl:cs.length≤16000000):Dj 239 [.agg g.c,.one (Ai cs),.agg r.c] [.one (Ai (Gr g cs r).1),.one (A9 (Gr g cs r).2.1),.one (vb (Gr g cs r).2.2)]:=by
 refine E3 Tryz.func239 fun W=>?_;refine B9 A0 rfl (Ai cs) (Bs) (fun _=>Gb cs) A7 (Aj ?_);refine Gg (Ui g r.op hg) ?_
 cases h3:Dv r.op 0 (g.ak.length-1)
 ·have h4:=Go.Sx.G8.1 h3
  rw [B14 h3];refine Ar ?_;refine Q2 4 (A9 []) rfl C3 ?_;rw [Xu (fun p=>h4 ⟨p.2.1.1.1,by have:=p.2.2;omega⟩)];exact D0
 have h4:=Go.Sx.Ch.1 h3;rw [A77 h3];have hk:r.op.toNat<g.ak.length:=by omega
 obtain ⟨hnw,hol⟩:=A5y hg hk;refine Ar ?_;refine As (Oq g A7) rfl (Hd ?_);refine Cc (fun h1=>?_) fun h1=>?_
 ·have h1:F5 g=false:=by simpa using h1
  refine Ar ?_;refine Q2 4 (A9 []) rfl C3 ?_;rw [Xu (fun p=>absurd p.1 (Cr h1))];exact D0
 have h1:I4 g:=Bj (show F5 g=true by simpa using h1)
 refine Ar ?_;refine As (Jo r) rfl (Hd ?_);refine Cc (fun h2=>?_) fun h2=>?_
 ·have h2:F8 r=false:=by simpa using h2
  refine Ar ?_;refine Q2 4 (A9 []) rfl C3 ?_;rw [Xu (fun p=>absurd p.2.1 (Cr h2))];exact D0
 have h2:Gu r:=Bj (show F8 r=true by simpa using h2)
 have hP:P6 g r:=⟨h1,h2,by omega⟩;refine Ar ?_;refine F0 (B7y (Ac g r.op) r.key r.val hnw) ?_;refine Cc (fun h5=>?_) fun h5=>?_
 ·have h5:(Bb (Ac g r.op) r.key r.val).2.2=false:=by simpa using h5
  refine Ar ?_;refine zne (fun h8=>?_) fun h8=>?_
  ·have h8:(Ac g r.op).kind≠8:=h8
   refine Ar ?_;refine Q2 4 (A9 []) rfl C3 ?_;rw [B2n hP h5 h8];exact D0
  have h8:(Ac g r.op).kind=8:=h8;refine Ar ?_;have hnb:¬ ((Bb (Ac g r.op) r.key r.val).2.2=false∧(Ac g r.op).kind≠8):=(fun p=>p.2 h8);refine F0 (Ys (Ac g r.op).kind) ?_;refine Cc (fun hr=>?_) fun hr=>?_
  ·have hr:(Ac g r.op).kind=5∨(Ac g r.op).kind=6∨(Ac g r.op).kind=8:=Bj hr
   refine Gg (A9a (Ac g r.op).kind cs (Fh r) hl) ?_;refine Cc (fun h6=>?_) fun h6=>?_
   ·have h6:(Cs (Ac g r.op).kind cs (Fh r)).2=false:=by simpa using h6
    refine Ar ?_;refine Q2 4 (A9 []) rfl C3 ?_;rw [Uj hP hnb h6];exact D0
   have h6:(Cs (Ac g r.op).kind cs (Fh r)).2=true:=by simpa using h6
   refine Ar ?_;have h7:(Ac g r.op).kind≠7:=by omega
   refine L8 (fun h7'=>?_) fun h7'=>?_
   ·exact absurd h7' h7
   refine H5 4 (A9 []) rfl C3 ?_;refine Fv [25] (fun k:Nat=>[(21,.c (vi k))]) (fun k=>[⟨6,[.c (vi (Ac g r.op).kind),.c (vi (Ac g r.op).a),.c (vi (Ac g r.op).b),.own 5]⟩,⟨8,[.c (vi (r.am).ab),.c (vi (r.am).turn)]⟩]) (fun k=>[⟨5,Ej (Ac g r.op).ax⟩,⟨4,A9 (emL g r (r.am) k)⟩,⟨7,Ai (Cs (Ac g r.op).kind cs (Fh r)).1⟩]) (fun k=>k≤(Ac g r.op).ax.length) (fun k=>(Ac g r.op).ax.length-k) fun k hk=>?_;conv=>whnf
   refine Eh (fun h=>?_) fun h=>?_
   ·have h:k<(Ac g r.op).ax.length:=by omega
    have hem:=Vs (g:=g) (r:=r) (s:=r.am) (k:=k)
    first|(refine Al 23 rfl [0,1,2,3,4,5,6,7,8,9,10,11,12] Ah (Aj ?_))
    refine B8 ?_;refine B9 A0 rfl (A9 (emL g r (r.am) k++[So r (r.am) (Bb (Ac g r.op) r.key r.val).1 (Bb (Ac g r.op) r.key r.val).2.1 ((Ac g r.op).ax.getD k default)])) (Ao rfl) Hy A7 (Er ?_);refine Ci [(4,10)] (k+1) A7 A7 ⟨rfl,trivial⟩ ⟨rfl,A6 A9 (R9 h).symm,rfl,trivial⟩
   refine Ar ?_;rw [Nc hP hnb h6,A02 h7,Vr A7];exact D0
  exact absurd (.inr (.inr h8)) (Cr hr)
 have h5:(Bb (Ac g r.op) r.key r.val).2.2=true:=by simpa using h5
 refine Ar ?_;have hnb:¬ ((Bb (Ac g r.op) r.key r.val).2.2=false∧(Ac g r.op).kind≠8):=(fun p=>by rw [p.1] at h5;cases h5);refine F0 (Ys (Ac g r.op).kind) ?_;refine Cc (fun hr=>?_) fun hr=>?_
 ·have hr:(Ac g r.op).kind=5∨(Ac g r.op).kind=6∨(Ac g r.op).kind=8:=Bj hr
  refine Gg (A9a (Ac g r.op).kind cs (Fh r) hl) ?_;refine Cc (fun h6=>?_) fun h6=>?_
  ·have h6:(Cs (Ac g r.op).kind cs (Fh r)).2=false:=by simpa using h6
   refine Ar ?_;refine Q2 4 (A9 []) rfl C3 ?_;rw [Uj hP hnb h6];exact D0
  have h6:(Cs (Ac g r.op).kind cs (Fh r)).2=true:=by simpa using h6
  refine Ar ?_;have h7:(Ac g r.op).kind≠7:=by omega
  refine L8 (fun h7'=>?_) fun h7'=>?_
  ·exact absurd h7' h7
  refine H5 4 (A9 []) rfl C3 ?_;refine Fv [25] (fun k:Nat=>[(21,.c (vi k))]) (fun k=>[⟨6,[.c (vi (Ac g r.op).kind),.c (vi (Ac g r.op).a),.c (vi (Ac g r.op).b),.own 5]⟩,⟨8,[.c (vi (r.am).ab),.c (vi (r.am).turn)]⟩]) (fun k=>[⟨5,Ej (Ac g r.op).ax⟩,⟨4,A9 (emL g r (r.am) k)⟩,⟨7,Ai (Cs (Ac g r.op).kind cs (Fh r)).1⟩]) (fun k=>k≤(Ac g r.op).ax.length) (fun k=>(Ac g r.op).ax.length-k) fun k hk=>?_;conv=>whnf
  refine Eh (fun h=>?_) fun h=>?_
  ·have h:k<(Ac g r.op).ax.length:=by omega
   have hem:=Vs (g:=g) (r:=r) (s:=r.am) (k:=k)
   first|(refine Al 23 rfl [0,1,2,3,4,5,6,7,8,9,10,11,12] Ah (Aj ?_))
   refine B8 ?_;refine B9 A0 rfl (A9 (emL g r (r.am) k++[So r (r.am) (Bb (Ac g r.op) r.key r.val).1 (Bb (Ac g r.op) r.key r.val).2.1 ((Ac g r.op).ax.getD k default)])) (Ao rfl) Hy A7 (Er ?_);refine Ci [(4,10)] (k+1) A7 A7 ⟨rfl,trivial⟩ ⟨rfl,A6 A9 (R9 h).symm,rfl,trivial⟩
  refine Ar ?_;rw [Nc hP hnb h6,A02 h7,Vr A7];exact D0
 have hr:¬ ((Ac g r.op).kind=5∨(Ac g r.op).kind=6∨(Ac g r.op).kind=8):=Cr hr;have e6:=B96 (l:=cs) (x:=Fh r) hr;have h6:(Cs (Ac g r.op).kind cs (Fh r)).2=true:=by rw [e6]
 have e61:(Cs (Ac g r.op).kind cs (Fh r)).1=cs:=by rw [e6]
 refine Ar ?_;refine L8 (fun h7=>?_) fun h7=>?_
 ·have h7:(Ac g r.op).kind=7:=h7
  refine F0 (A17 r.am) ?_;refine Cc (fun hnt=>?_) fun hnt=>?_
  ·have hnt:(Br r.am).2=false:=by simpa using hnt
   refine Ar ?_;refine Q2 4 (A9 []) rfl C3 ?_;rw [Nc hP hnb h6,A6x h7 hnt,e61];exact D0
  have hnt:(Br r.am).2=true:=by simpa using hnt
  refine Ar ?_;refine H5 4 (A9 []) rfl C3 ?_;refine Fv [25] (fun k:Nat=>[(21,.c (vi k))]) (fun k=>[⟨6,[.c (vi (Ac g r.op).kind),.c (vi (Ac g r.op).a),.c (vi (Ac g r.op).b),.own 5]⟩,⟨7,[.c (vi ((Br r.am).1).ab),.c (vi ((Br r.am).1).turn)]⟩]) (fun k=>[⟨5,Ej (Ac g r.op).ax⟩,⟨4,A9 (emL g r ((Br r.am).1) k)⟩,⟨3,Ai cs⟩]) (fun k=>k≤(Ac g r.op).ax.length) (fun k=>(Ac g r.op).ax.length-k) fun k hk=>?_;conv=>whnf
  refine Eh (fun h=>?_) fun h=>?_
  ·have h:k<(Ac g r.op).ax.length:=by omega
   have hem:=Vs (g:=g) (r:=r) (s:=(Br r.am).1) (k:=k)
   first|(refine Al 23 rfl [0,1,2,3,4,5,6,7,8,9,10,11,12] Ah (Aj ?_))
   refine B8 ?_;refine B9 A0 rfl (A9 (emL g r ((Br r.am).1) k++[So r ((Br r.am).1) (Bb (Ac g r.op) r.key r.val).1 (Bb (Ac g r.op) r.key r.val).2.1 ((Ac g r.op).ax.getD k default)])) (Ao rfl) Hy A7 (Er ?_);refine Ci [(4,10)] (k+1) A7 A7 ⟨rfl,trivial⟩ ⟨rfl,A6 A9 (R9 h).symm,rfl,trivial⟩
  refine Ar ?_;rw [Nc hP hnb h6,B24 h7 hnt,e61,Vr A7];exact D0
 have h7:(Ac g r.op).kind≠7:=h7;refine Ar ?_;refine H5 4 (A9 []) rfl C3 ?_;refine Fv [25] (fun k:Nat=>[(21,.c (vi k))]) (fun k=>[⟨6,[.c (vi (Ac g r.op).kind),.c (vi (Ac g r.op).a),.c (vi (Ac g r.op).b),.own 5]⟩,⟨7,[.c (vi (r.am).ab),.c (vi (r.am).turn)]⟩]) (fun k=>[⟨5,Ej (Ac g r.op).ax⟩,⟨4,A9 (emL g r (r.am) k)⟩,⟨3,Ai cs⟩]) (fun k=>k≤(Ac g r.op).ax.length) (fun k=>(Ac g r.op).ax.length-k) fun k hk=>?_;conv=>whnf
 refine Eh (fun h=>?_) fun h=>?_
 ·have h:k<(Ac g r.op).ax.length:=by omega
  have hem:=Vs (g:=g) (r:=r) (s:=r.am) (k:=k)
  first|(refine Al 23 rfl [0,1,2,3,4,5,6,7,8,9,10,11,12] Ah (Aj ?_))
  refine B8 ?_;refine B9 A0 rfl (A9 (emL g r (r.am) k++[So r (r.am) (Bb (Ac g r.op) r.key r.val).1 (Bb (Ac g r.op) r.key r.val).2.1 ((Ac g r.op).ax.getD k default)])) (Ao rfl) Hy A7 (Er ?_);refine Ci [(4,9)] (k+1) A7 A7 ⟨rfl,trivial⟩ ⟨rfl,A6 A9 (R9 h).symm,rfl,trivial⟩
 refine Ar ?_;rw [Nc hP hnb h6,A02 h7,e61,Vr A7];exact D0
theorem C0g (g:B2)(r:Aa)(hg:g.w≤16777216):Dj 240 [.agg g.c,.agg r.c] [.one (vb (ao g r))]:=by
 refine E3 Tryz.func240 fun W=>?_;refine Gg (Ui g r.op hg) ?_;refine F0 (A17 r.am) ?_
 cases h3:Dv r.op 0 (g.ak.length-1)
 ·have h4:=Go.Sx.G8.1 h3
  rw [B14 h3];refine Ar ?_;rw [Nt (fun p=>h4 ⟨p.2.1.1.1,by have:=p.2.2;omega⟩)];exact D0
 have h4:=Go.Sx.Ch.1 h3;rw [A77 h3];have hk:r.op.toNat<g.ak.length:=by omega
 obtain ⟨hnw,hol⟩:=A5y hg hk;refine Ar ?_;refine As (Oq g A7) rfl (Hd ?_);refine Cc (fun h1=>?_) fun h1=>?_
 ·have h1:I4 g:=Bj h1
  refine Ar ?_;refine As (Jo r) rfl (Hd ?_);refine Cc (fun h2=>?_) fun h2=>?_
  ·have h2:Gu r:=Bj h2
   have hP:P6 g r:=⟨h1,h2,by omega⟩;rw [B09 hP];refine Ar ?_;refine Cc (fun h7=>?_) fun h7=>?_
   ·have h7:((Ac g r.op).kind==7)=true:=h7
    rw [h7];refine Ar ?_;refine Cc (fun h8=>?_) fun h8=>?_
    ·have h8:decide (((Ac g r.op).ax.length:Int)>0)=true:=h8
     rw [h8];refine Ar ?_;exact D0
    have h8:decide (((Ac g r.op).ax.length:Int)>0)=false:=h8;rw [h8];refine Ar ?_;exact D0
   have h7:((Ac g r.op).kind==7)=false:=h7;rw [h7];refine Ar ?_;exact D0
  refine Ar ?_;rw [Nt (fun p=>absurd p.2.1 (Cr h2))];exact D0
 refine Ar ?_;rw [Nt (fun p=>absurd p.1 (Cr h1))];exact D0
theorem Wr (n lo hi:Int):Dj 98 [.one (vi n),.one (vi lo),.one (vi hi)] [.one (vi (Dl n lo hi))]:=by
 refine E3 Tryz.func98 fun W=>?_
 repeat' (first|(refine I1 ?_;conv=>whnf)|(refine I2 ?_;conv=>whnf)|(refine ⟨fun h=>?_,fun h=>?_⟩<;>conv=>whnf)|(refine An A0 rfl rfl ⟨?_,trivial⟩;conv=>whnf)|(refine H8 ?_;conv=>whnf)|fail)
 all_goals (refine A6 vi ?_;simp only [J7,Mk] at *;unfold Dl;repeat' split)<;>first|contradiction|omega
theorem Vv (n lo hi:Int):Dj 103 [.one (vi n),.one (vi lo),.one (vi hi)] [.one (vi (Dl n lo hi))]:=by
 refine E3 Tryz.func103 fun W=>?_
 repeat' (first|(refine I1 ?_;conv=>whnf)|(refine I2 ?_;conv=>whnf)|(refine ⟨fun h=>?_,fun h=>?_⟩<;>conv=>whnf)|(refine An A0 rfl rfl ⟨?_,trivial⟩;conv=>whnf)|(refine H8 ?_;conv=>whnf)|fail)
 all_goals (refine A6 vi ?_;simp only [J7,Mk] at *;unfold Dl;repeat' split)<;>first|contradiction|omega
theorem B4i (x:A3):Dj 97 [.agg x.c] [.one (E9 (Qw (Dl x.az.aq 0 4).toNat))]:=by
 have hb:=Hc x.az.aq 0 4 Cw;obtain ⟨n,hn⟩:∃n:Nat,Dl x.az.aq 0 4=n:=⟨(Dl x.az.aq 0 4).toNat,by omega⟩;have h4:n≤4:=by omega
 refine E3 Tryz.func97 fun W=>?_;refine F0 (Wr x.az.aq 0 4) ?_;rw [hn];refine H5 1 (E9 []) rfl C3 ?_;refine Fv [9] (fun k:Nat=>[(5,.c (vi k))]) (fun k=>[]) (fun k=>[⟨1,E9 (pA k)⟩]) (fun k=>k≤n) (fun k=>n-k) fun k hk=>?_;refine Eh (fun h=>?_) fun h=>?_
 ·have h:k<n:=by omega
  have hl:=A8h k;refine B9 A0 rfl (E9 (pA k++pW k)) (C77 rfl rfl rfl rfl) Hy A7 (Er ?_);refine Ci [(1,3)] (k+1) A7 A7 ⟨rfl,trivial⟩ ⟨A6 E9 (B33 k).symm,trivial⟩
 have e:n=k:=by omega
 subst e;have hl:=A8h n;refine Fv [] (fun k:Nat=>[(6,.c (vi k))]) (fun k=>[]) (fun k=>[⟨1,E9 (pA n++pC n k)⟩]) (fun k=>k≤n) (fun k=>n-k) fun k hk=>?_;refine Eh (fun h=>?_) fun h=>?_
 ·have h:k<n:=by omega
  have hc:=A8i n k h4
  refine Ok A0 false [] (fun j:Nat=>[(7,.c (vi j))]) (fun _=>[]) (fun j=>[⟨1,E9 (pA n++(pC n k++pB k j))⟩])
   (fun j=>j≤n) (fun j=>n-j) 0 (Fk _) ⟨rfl,trivial⟩ trivial ⟨(A6 (fun l=>Mr _ _ (pA n++l)) (Hw _)).symm,trivial⟩ trivial Ah (fun j hj=>?_)
  conv=>whnf
  refine Eh (fun h'=>?_) fun h'=>?_
  ·have h':j<n:=by omega
   have hd:=B91 k j;have hs:=B34 k j;refine zne (fun hq=>?_) fun hq=>?_
   ·refine B8 ?_
    refine B9 A0 rfl (E9 (pA n++(pC n k++pB k j)++[⟨4,k,j⟩,⟨5,k,j⟩])) (C2d rfl rfl) Hy (by simp only [D7];omega) (Er ?_);refine Ci [(1,3)] (j+1) A7 A7 ⟨rfl,trivial⟩ ⟨?_,trivial⟩;exact A6 E9 (by rw [hs,pK,Ab hq];simp only [Cv])
   refine B8 ?_;refine Ci [] (j+1) A7 A7 ⟨rfl,trivial⟩ ⟨?_,trivial⟩;exact A6 E9 (by rw [hs,pK,Ak hq,Hw])
  have e:n=j:=by omega
  refine B8 ?_;refine Ci [] (k+1) A7 A7 ⟨rfl,trivial⟩ ⟨A6 E9 (by rw [←e,B35]),trivial⟩
 have e:k=n:=by omega
 subst e;have hc:=A8i k k h4
 refine Ok A0 false [] (fun j:Nat=>[(8,.c (vi j))]) (fun _=>[]) (fun j=>[⟨1,E9 (pA k++pC k k++pE j)⟩])
  (fun j=>j≤4) (fun j=>4-j) 0 (Fk _) ⟨rfl,trivial⟩ trivial ⟨(A6 (fun l=>Mr _ _ l) (Hw _)).symm,trivial⟩ trivial Ah (fun j hj=>?_)
 conv=>whnf
 refine Eh (fun h'=>?_) fun h'=>?_
 ·have h':j<4:=by omega
  have hd:=B92 j;refine B8 ?_;refine B9 A0 rfl (E9 (pA k++pC k k++pE j++[⟨6,j,0⟩])) (Ao rfl) Hy (by simp only [D7];omega) (Er ?_);refine Ci [(1,3)] (j+1) A7 A7 ⟨rfl,trivial⟩ ⟨?_,trivial⟩;exact A6 E9 (by rw [C11];simp only [Cv])
 refine An A0 rfl rfl ⟨?_,trivial⟩;have e:j=4:=by omega
 subst e;exact A6 E9 (by rw [Qw,Bu])
theorem A1d (x:A3):Dj 162 [.agg x.c] [.one (E9 (Qw (Dl x.az.aq 0 4).toNat))]:=by
 have hb:=Hc x.az.aq 0 4 Cw;obtain ⟨n,hn⟩:∃n:Nat,Dl x.az.aq 0 4=n:=⟨(Dl x.az.aq 0 4).toNat,by omega⟩;have h4:n≤4:=by omega
 refine E3 Tryz.func162 fun W=>?_;refine F0 (Vv x.az.aq 0 4) ?_;rw [hn];refine U4 4 3 (fun i=>Ea.c (([]:List Ea).getD i default)) rfl ?_;refine Fv [9] (fun k:Nat=>[(5,.c (vi k))]) (fun k=>[]) (fun k=>[⟨1,E9 (pA k)⟩]) (fun k=>k≤n) (fun k=>n-k) fun k hk=>?_;refine Eh (fun h=>?_) fun h=>?_
 ·have h:k<n:=by omega
  have hl:=A8h k;refine H5 2 (Ej [1,3,2,7]) rfl (C3a rfl rfl rfl rfl) ?_
  refine Ok A0 false [7] (fun j:Nat=>[(22,.c (vi j))]) (fun _=>[]) (fun j=>[⟨2,Ej [1,3,2,7]⟩,⟨1,E9 (pA k++(pW k).take j)⟩])
   (fun j=>j≤4) (fun j=>4-j) 0 (Fk _) ⟨rfl,trivial⟩ trivial ⟨rfl,(A6 (fun l=>Mr _ _ l) (Hw _)).symm,trivial⟩ trivial Ah (fun j hj=>?_)
  conv=>whnf
  refine Eh (fun h'=>?_) fun h'=>?_
  ·have h':j<4:=by omega
   have hd:((pW k).take j).length≤j:=Lv _ _;refine ⟨by exact ⟨by omega,by show (j:Int)<4;omega⟩,?_⟩
   conv=>whnf
   refine B8 ?_;refine B9 A0 rfl (E9 (pA k++(pW k).take j++[⟨([1,3,2,7]:List Int).getD j default,k,0⟩])) (Ao rfl) Hy (by simp only [D7];omega) (Er ?_);refine Ci [(1,4)] (j+1) A7 A7 ⟨rfl,trivial⟩ ⟨rfl,?_,trivial⟩;exact A6 E9 (by rw [D0h k j h',Cv])
  have e:j=4:=by omega
  subst e;refine B8 ?_;refine Ci [] (k+1) A7 A7 ⟨rfl,trivial⟩ ⟨A6 E9 (B33 k).symm,trivial⟩
 have e:n=k:=by omega
 subst e;have hl:=A8h n;refine Fv [] (fun k:Nat=>[(8,.c (vi k))]) (fun k=>[]) (fun k=>[⟨1,E9 (pA n++pC n k)⟩]) (fun k=>k≤n) (fun k=>n-k) fun k hk=>?_;refine Eh (fun h=>?_) fun h=>?_
 ·have h:k<n:=by omega
  have hc:=A8i n k h4
  refine Ok A0 false [] (fun j:Nat=>[(9,.c (vi j))]) (fun _=>[]) (fun j=>[⟨1,E9 (pA n++(pC n k++pB k j))⟩])
   (fun j=>j≤n) (fun j=>n-j) 0 (Fk _) ⟨rfl,trivial⟩ trivial ⟨(A6 (fun l=>Mr _ _ (pA n++l)) (Hw _)).symm,trivial⟩ trivial Ah (fun j hj=>?_)
  conv=>whnf
  refine Eh (fun h'=>?_) fun h'=>?_
  ·have h':j<n:=by omega
   have hd:=B91 k j;have hs:=B34 k j;refine zne (fun hq=>?_) fun hq=>?_
   ·refine B8 ?_
    refine B9 A0 rfl (E9 (pA n++(pC n k++pB k j)++[⟨4,k,j⟩,⟨5,k,j⟩])) (C2d rfl rfl) Hy (by simp only [D7];omega) (Er ?_);refine Ci [(1,3)] (j+1) A7 A7 ⟨rfl,trivial⟩ ⟨?_,trivial⟩;exact A6 E9 (by rw [hs,pK,Ab hq];simp only [Cv])
   refine B8 ?_;refine Ci [] (j+1) A7 A7 ⟨rfl,trivial⟩ ⟨?_,trivial⟩;exact A6 E9 (by rw [hs,pK,Ak hq,Hw])
  have e:n=j:=by omega
  refine B8 ?_;refine Ci [] (k+1) A7 A7 ⟨rfl,trivial⟩ ⟨A6 E9 (by rw [←e,B35]),trivial⟩
 have e:k=n:=by omega
 subst e;have hc:=A8i k k h4
 refine Ok A0 false [] (fun j:Nat=>[(10,.c (vi j))]) (fun _=>[]) (fun j=>[⟨1,E9 (pA k++pC k k++pE j)⟩])
  (fun j=>j≤4) (fun j=>4-j) 0 (Fk _) ⟨rfl,trivial⟩ trivial ⟨(A6 (fun l=>Mr _ _ l) (Hw _)).symm,trivial⟩ trivial Ah (fun j hj=>?_)
 conv=>whnf
 refine Eh (fun h'=>?_) fun h'=>?_
 ·have h':j<4:=by omega
  have hd:=B92 j;refine B8 ?_;refine B9 A0 rfl (E9 (pA k++pC k k++pE j++[⟨6,j,0⟩])) (Ao rfl) Hy (by simp only [D7];omega) (Er ?_);refine Ci [(1,3)] (j+1) A7 A7 ⟨rfl,trivial⟩ ⟨?_,trivial⟩;exact A6 E9 (by rw [C11];simp only [Cv])
 refine An A0 rfl rfl ⟨?_,trivial⟩;have e:j=4:=by omega
 subst e;exact A6 E9 (by rw [Qw,Bu])
def H0 (a b:Ad):Prop:=a.ab<b.ab∨(a.ab=b.ab∧(a.op<b.op∨(a.op=b.op∧(a.key<b.key∨(a.key=b.key∧a.val<b.val)))))
variable {a : Ad} {b : Ad}
theorem Tp:Mw a b<0↔H0 a b:=by
 simp only [Mw,R6,W4,Oi,H0]
 (repeat' split)<;>omega
theorem H0.trans {c:Ad}(h:H0 a b)(h':H0 b c):H0 a c:=by
 simp only [H0] at *;omega
theorem H0.tri (h:a≠b)(h':¬ H0 a b):H0 b a:=by
 obtain ⟨a1,a2,a3,a4⟩:=a;obtain ⟨b1,b2,b3,b4⟩:=b;simp only [H0,ne_eq,Ad.mk.injEq] at *;omega
theorem A6q:∀{l:List Ad},Ti l↔l.Pairwise H0
 | []=>by simp [Ti]
 | [x]=>by simp [Ti]
 |x::y::r=>by
  have ih:=A6q (l:=y::r)
  have h1:Ti (x::y::r)↔H0 x y∧Ti (y::r):=by
   constructor
   ·intro h
    refine ⟨Tp.1 (by simpa using h 0 Bi),fun i hi=>?_⟩
    simpa using h (i+1) (by simp at hi ⊢;omega)
   rintro ⟨h1,h2⟩ i hi
   cases i with
   |zero=>simpa using Tp.2 h1
   |succ i=>simpa using h2 i (by simp at hi ⊢;omega)
  rw [h1,ih,A9r (a:=x)]
  constructor
  ·rintro ⟨h1,h2⟩
   refine ⟨fun z hz=>?_,h2⟩
   rcases Ca.1 hz with rfl|hz
   ·exact h1
   exact h1.trans ((A9r.1 h2).1 z hz)
  rintro ⟨h1,h2⟩
  exact ⟨h1 y Bi,h2⟩
variable {α : Type}
theorem A65 (p:α→Bool):∀l:List α,Hq p l≤l.length
 | []=>by simp [Hq]
 |x::r=>by
  have:=A65 p r
  simp only [Hq]
  split<;>simp<;>omega
theorem Z5 (p:α→Bool):∀l:List α,∀x∈l.take (Hq p l),p x=false
 | []=>by simp [Hq]
 |x::r=>by
  intro y hy;simp only [Hq] at hy
  split at hy
  ·simp at hy
  rename_i hx
  simp only [A9u,Ca] at hy
  rcases hy with rfl|hy
  ·simpa using hx
  exact Z5 p r y hy
theorem A64 [Inhabited α] (p:α→Bool):∀l:List α,Hq p l<l.length→p (l.getD (Hq p l) default)=true
 | []=>by simp [Hq]
 |x::r=>by
  intro h;simp only [Hq] at h ⊢
  split at h
  ·rename_i hx
   simp [hx]
  rename_i hx
  rw [Ab hx]
  simpa using A64 p r (by simpa using h)
variable {l : List Ad} {x : Ad}
theorem C1r {y:Ad}:y∈Dc l x↔y∈l∨y=x:=by
 unfold Dc
 split
 ·rename_i h
  constructor
  ·exact .inl
  rintro (h'|rfl)
  ·exact h'
  obtain ⟨z,hz,e⟩:=Tf.1 h;obtain rfl:=Bj e;exact hz
 have:y∈l↔y∈l.take (N4 l x)∨y∈l.drop (N4 l x):=by rw [←Ng,Pe]
 rw [Ng,Ca,this]
 constructor
 ·rintro (h|h|h)
  ·exact .inl (.inl h)
  ·exact .inr h
  exact .inl (.inr h)
 rintro ((h|h)|h)
 ·exact .inl h
 ·exact .inr (.inr h)
 exact .inr (.inl h)
theorem C72 (h:l.Pairwise H0):(Dc l x).Pairwise H0:=by
 unfold Dc
 split
 ·exact h
 rename_i hn
 have hx:x∉l:=fun hm=>hn (Tf.2 ⟨x,hm,by simp⟩);have e:=(Pe (N4 l x) l).symm;rw [e] at h;obtain ⟨h1,h2,h3⟩:=List.pairwise_append.1 h
 have hlo:∀y∈l.take (N4 l x),H0 y x:=fun y hy=>by
  have:=Z5 _ l y hy
  simp only [Ur,J7] at this;exact Tp.1 this
 have hhi:∀y∈l.drop (N4 l x),H0 x y:=by
  by_cases hk:N4 l x<l.length
  ·have hat:=A64 (fun y=>!decide (Mw y x<0)) l hk
   simp only [Ml,Mk] at hat;have hat:¬ H0 (l.getD (N4 l x) default) x:=fun hc=>hat (Tp.2 hc);have hne:l.getD (N4 l x) default≠x:=fun e=>hx (e▸Am hk);have h0:=H0.tri hne hat;intro y hy;rw [A3q hk] at hy h2;have e0:l[N4 l x]=l.getD (N4 l x) default:=by simp [List.getD,hk]
   rw [e0] at hy h2
   rcases Ca.1 hy with rfl|hy
   ·exact h0
   exact h0.trans ((A9r.1 h2).1 y hy)
  rw [List.drop_of_length_le A7];simp
 refine List.pairwise_append.2 ⟨h1,A9r.2 ⟨hhi,h2⟩,fun y hy z hz=>?_⟩
 rcases Ca.1 hz with rfl|hz
 ·exact hlo y hy
 exact (hlo y hy).trans (hhi z hz)
theorem C26 (h:l.Pairwise H0):(Kg l x).1.Pairwise H0:=by
 unfold Kg
 split
 ·exact h
 exact C72 (h.sublist List.filter_sublist)
variable {k : Int}
theorem B2h (h:l.Pairwise H0):(Cs k l x).1.Pairwise H0:=by
 unfold Cs
 split
 ·exact C26 h
 split
 ·split
  ·exact h
  exact C72 h
 exact h
theorem B20 {x:D5}{v:Int}(hx:Jc x)(h:Ri k v):Ri (Bb x k v).1 (Bb x k v).2.1:=by
 obtain ⟨_,h2,_,h4,_⟩:=hx;unfold Bb;obtain ⟨⟨a1,a2⟩,a3,a4⟩:=h;have hm:=A9x (k+x.a) (show (0:Int)<100 by decide)
 (repeat' split)<;>simp only [Ri] at * <;>(try (rename_i hk;have:=h2 hk))<;>(try (rename_i hk;have:=h4 hk;have:=Int.tmod_nonneg 100 (show 0≤k+x.a by omega)))<;>omega
theorem A4l {s:Jg}(h:(Br s).2=true):(Br s).1=⟨s.ab,s.turn+1⟩∧(0≤s.ab∧s.ab≤3)∧0≤s.turn∧s.turn<6:=by
 unfold Br at *
 split at h
 ·rename_i hs
  rw [Ak hs]
  have:=Bj hs.1
  exact ⟨rfl,this.1,this.2.1,hs.2⟩
 cases h
variable {g : B2}
theorem B13 {op:Int}(h:I4 g)(h0:0≤op)(h1:op<g.ak.length):R0 g op.toNat:=h.2.2.2 op.toNat A7
variable {r : Aa}
theorem C6a (h:P6 g r):A2i g.ak.length (Uz g r):=by
 obtain ⟨hg,hr,ho⟩:=h;obtain ⟨r1,r2,r3,r4,r5⟩:=hr;have hn:=B13 hg r1.1 ho;have hc:=B20 (k:=r.key) (v:=r.val) hn.1 ⟨r4,r5⟩;unfold Uz;intro q hq
 split at hq
 ·simp at hq
 rename_i hb
 obtain ⟨k,hk,rfl⟩:=Fu.1 hq;have he:=hn.2.2 k hk;have hk7:=hn.1.2.2.2.2.2.2.2.2 k hk;refine ⟨⟨hk7,?_,?_,hc.1,hc.2⟩,he.1⟩
 ·simp only
  split
  ·rename_i h7
   have:=A4l (s:=r.am) (by simpa [h7] using hb)
   rw [this.1];exact this.2.1
  exact r2
 simp only
 split
 ·rename_i h7
  have:=A4l (s:=r.am) (by simpa [h7] using hb)
  rw [this.1];simp only;omega
 exact r3
variable {cs : List Ad}
theorem C0s:A2i g.ak.length (Gr g cs r).2.1:=by
 unfold Gr
 split
 ·rename_i h
  (repeat' split)
  ·intro q hq;simp at hq
  ·intro q hq;simp at hq
  exact C6a h
 intro q hq;simp at hq
theorem C4v (h:cs.Pairwise H0):(Gr g cs r).1.Pairwise H0:=by
 unfold Gr
 (repeat' split)
 ·exact h
 ·exact B2h h
 ·exact B2h h
 exact h
theorem C3m (h:P6 g r):(Uz g r).length≤2:=by
 unfold Uz
 have:=(B13 h.1 h.2.1.1.1 h.2.2).1.2.2.2.2.2.1
 split
 ·simp
 rw [J8];exact this
theorem C0q:(Gr g cs r).2.1.length≤2:=by
 unfold Gr
 split
 ·rename_i h
  (repeat' split)
  ·simp
  ·simp
  exact C3m h
 simp
theorem C14:(Dc l x).length≤l.length+1:=by
 unfold Dc
 split
 ·omega
 have:=A65 (fun y=>!decide (Mw y x<0)) l
 simp only [D7,Gi,Eo,G4,N4];omega
theorem A8r:(Cs k l x).1.length≤l.length+1:=by
 unfold Cs
 split
 ·unfold Kg
  split
  ·simp
  have h1:=C14 (l:=l.filter fun y=>!B5 x y) (x:=x);have h2:=Ni (fun y=>!B5 x y) l
  simp only
  omega
 split
 ·split
  ·simp
  exact C14
 simp
theorem B75:(Gr g cs r).1.length≤cs.length+1:=by
 unfold Gr
 (repeat' split)
 ·simp
 ·exact A8r
 ·exact A8r
 simp
theorem C3w {l:List Aa}(h:B8k l):B8k (l.drop 1):=by
 intro i hi;obtain ⟨h1,h2,h3⟩:=h (i+1) (by simp at hi;omega);have e:∀j,(l.drop 1).getD j default=l.getD (j+1) default:=fun j=>by simp [List.getD,A0l]
 refine ⟨by rw [e];exact h1,by rw [e];exact h2,fun h0=>?_⟩;rw [e,e,show i-1+1=i by omega]
 exact h3 A7
variable {n : Nat}
theorem Xn {k:Nat}{l:List Aa}(h:A2i n l):A2i n (l.drop k):=fun r hr=>h r (A3s hr)
theorem A20 {l:List Aa}(h:A2i n l)(hr:Gu r∧r.op<n):A2i n (l++[r]):=fun q hq=>by
 rcases Ng.1 hq with hq|hq
 ·exact h q hq
 rw [Ke.1 hq];exact hr
variable {w : Ae}
theorem C40 (h:Cp g.ak.length w):Cp g.ak.length (P5 g w):=by
 obtain ⟨⟨a1,a2,a3,a4⟩,⟨l1,l2,l3⟩,hi,hs,hd⟩:=h;refine ⟨⟨Xn a1,C0s,a3,A6q.2 (C4v (A6q.1 a4))⟩,⟨l1,l2,?_⟩,hi,hs,hd⟩;simp only [P5]
 split
 ·rw [Jz];exact l3
 exact l3
theorem B5d (h:Cp n w)(h0:0<w.au.length):Cp n (Pz w):=by
 obtain ⟨⟨a1,a2,a3,a4⟩,hl,hi,hs,hd⟩:=h;exact ⟨⟨A20 a1 (a3 _ (Am h0)),a2,Xn a3,a4⟩,hl,C3w hi,hs,hd⟩
theorem B3u (h:Cp n w)(hr:Gu r∧r.op<n):Cp n (kept w r):=by
 obtain ⟨⟨a1,a2,a3,a4⟩,hl,hi,hs,hd⟩:=h;exact ⟨⟨A20 a1 hr,a2,a3,a4⟩,hl,hi,hs,hd⟩
theorem Zy (h:Cp n w):Cp n (Et w):=by
 obtain ⟨⟨a1,a2,a3,a4⟩,hl,hi,hs,hd⟩:=h;exact ⟨⟨a1,Xn a2,a3,a4⟩,hl,hi,hs,hd⟩
variable {e : Int}
theorem A6o {b:Bool}(h:Cp n w):Cp n ⟨w.ar,w.ae,w.au,w.cells,w.ah,w.al.set e.toNat b,w.an,w.ai⟩:=by
 obtain ⟨ha,⟨l1,l2,l3⟩,hi,hs,hd⟩:=h;exact ⟨ha,⟨l1,by simpa using l2,l3⟩,hi,hs,hd⟩
theorem C1a (h:Cp n w)(h1:0≤e∧e≤3):Cp n (Is w e k)↔Jh (w.ah.getD e.toNat default+k):=by
 obtain ⟨ha,⟨l1,l2,l3⟩,hi,hs,hd⟩:=h;have hlt:e.toNat<w.ah.length:=by omega
 constructor
 ·rintro ⟨_,_,_,hs',_⟩
  have:=hs' (w.ah.getD e.toNat default+k) (by simp only [Is];exact List.mem_set hlt _)
  exact this
 intro hk;refine ⟨ha,⟨by simpa [Is] using l1,l2,l3⟩,hi,fun m hm=>?_,hd⟩;simp only [Is] at hm
 rcases List.mem_or_eq_of_mem_set hm with h|rfl
 ·exact hs m h
 exact hk
theorem B5o {b:Bool}(h:Cp n w)(h1:0≤e∧e≤3)(h2:Kl w e=false):Cp n (Ju w ⟨e,b⟩):=by
 obtain ⟨ha,hl,hi,hs,hd⟩:=h;refine ⟨ha,hl,hi,hs,fun i hi'=>?_⟩;simp only [Ju,D7,Lu] at hi';have e1:∀j,j<w.ai.length→(w.ai++[(⟨e,b⟩:Gv)]).getD j default=w.ai.getD j default:=fun j hj=>by simp [List.getD,F2 hj]
 have e2:(w.ai++[(⟨e,b⟩:Gv)]).getD w.ai.length default=⟨e,b⟩:=by simp [List.getD]
 simp only [Ju]
 by_cases hlt:i<w.ai.length
 ·obtain ⟨d1,d2⟩:=hd i hlt
  exact ⟨by rw [e1 i hlt];exact d1,fun k hk=>by rw [e1 i hlt,e1 k A7];exact d2 k hk⟩
 obtain rfl:i=w.ai.length:=by omega
 refine ⟨by rw [e2];exact h1,fun k hk=>?_⟩;rw [e2,e1 k hk];intro hc
 have:Kl w e=true:=Tf.2 ⟨w.ai.getD k default,Am hk,by simpa using hc⟩
 rw [h2] at this
 cases this
theorem Lm {l:List α}{i:Nat}{a x:α}(h:x∈l.set i a):x∈l∨x=a:=List.mem_or_eq_of_mem_set h
variable {c : A3}
theorem L6 {j:Int}(h:Av c)(hj:0≤j∧j<c.aq.length):Av (Bc c j w)↔Cp c.az.ak.length w:=by
 obtain ⟨⟨g1,g2,g3,g4⟩,hw,hl,ht,hn⟩:=h;have hlt:j.toNat<c.aq.length:=by omega
 constructor
 ·rintro ⟨_,hw',_⟩
  exact hw' w (by simp only [Bc];exact List.mem_set hlt _)
 intro h;refine ⟨⟨g1,by simpa [Bc] using g2,g3,g4⟩,fun x hx=>?_,hl,ht,hn⟩
 rcases Lm hx with hx|rfl
 ·exact hw x hx
 exact h
theorem A28 {l:D4}(h:Av c)(hl':Hm l∧B03 c k.toNat l):Av (D6 c k l):=by
 obtain ⟨⟨g1,g2,g3,g4⟩,hw,hl,ht,hn⟩:=h;refine ⟨⟨g1,g2,by simpa [D6] using g3,g4⟩,hw,fun i hi=>?_,ht,hn⟩;simp only [D6,Jz] at hi
 show Hm ((c.ay.set k.toNat l).getD i default)∧B03 c i ((c.ay.set k.toNat l).getD i default)
 by_cases e:i=k.toNat
 ·subst e
  rw [Sx.getD_set_self _ _ _ _ hi];exact hl'
 rw [Sx.getD_set_ne _ _ _ _ _ e];exact hl i hi
variable {f : Int} {t : Int}
theorem Q9 (h:Av c)(hf:0≤f∧f<c.az.aq)(ht:0≤t∧t<c.az.aq):
  (0≤Aq c f t∧Aq c f t<c.ay.length)∧((Aq c f t).toNat:Int).tdiv c.az.aq=f∧((Aq c f t).toNat:Int).tmod c.az.aq=t:=by
 have hl:=h.1.2.2.1;have hn:=h.1.1.2.1;unfold Aq;have hw:c.az.aq=1∨c.az.aq=2∨c.az.aq=3∨c.az.aq=4:=by omega
 have h0:0≤f * c.az.aq:=Int.mul_nonneg hf.1 A7;have hfw:f=0∨f=1∨f=2∨f=3:=by omega
 have htw:t=0∨t=1∨t=2∨t=3:=by omega
 rw [hl];generalize c.az.aq=n at *
 rcases hw with rfl|rfl|rfl|rfl<;>rcases hfw with rfl|rfl|rfl|rfl<;>rcases htw with rfl|rfl|rfl|rfl<;>first|omega|(refine ⟨⟨by decide,by decide⟩,by decide,by decide⟩)
theorem A1l (h:Av c)(hk:0≤k∧k<c.ay.length):Hm (Be c k)∧B03 c k.toNat (Be c k):=h.2.2.1 k.toNat A7
theorem C4n {l:D4}(h:Hm l):Hm (Cy l r).1:=by
 unfold Cy
 split
 ·rename_i hs
  obtain ⟨⟨h1,h2,h3,h4,h5,h6,h7⟩,hq⟩:=h;obtain ⟨_,hr,hc,hs⟩:=hs;refine ⟨?_,fun q hq'=>?_⟩
  ·simp only [A56,D7,Lu]
   omega
  rcases Ng.1 hq' with hq'|hq'
  ·exact hq q hq'
  rw [Ke.1 hq'];exact hr
 exact h
theorem B78 {l:D4}(h:Hm l):Hm (Bo l).1:=by
 unfold Bo
 split
 ·rename_i hs
  obtain ⟨⟨h1,h2,h3,h4,h5,h6,h7⟩,hq⟩:=h;refine ⟨?_,fun q hq'=>hq q (A3s hq')⟩;simp only [A56,G4];omega
 exact h
theorem A92 {l:D4}(h:Hm l):Hm (Ep l).1:=by
 unfold Ep
 split
 ·rename_i hs
  obtain ⟨⟨h1,h2,h3,h4,h5,h6,h7⟩,hq⟩:=h;refine ⟨?_,hq⟩;simp only [A56];omega
 exact h
theorem B90 {n:Int}(hk:0≤k)(hn:1≤n):0≤Es k n∧Es k n<n:=by
 have h1:=A9x k (show 0<n by omega)
 have h2:=Int.tmod_nonneg n hk;unfold Es
 (repeat' split)<;>omega
theorem C4z {w:Int}(h:I0 c w):Av (Bc c w (Ma c.az (A8 c w)).1):=by
 obtain ⟨hc,h0,h1⟩:=h;have hw:=hc.2.1 _ (Am (d:=default) (show w.toNat<c.aq.length by omega))
 refine (L6 hc ⟨h0,h1⟩).2 ?_;unfold Ma
 split
 ·exact C40 hw
 exact hw
theorem B69 {w:Int}(h:Av c):Av (Fp c w).1:=by
 unfold Fp
 split
 ·exact C4z ‹_›
 exact h
theorem B36 {w:Int}(h:Av c):Av (Eu c w).1:=by
 unfold Eu
 split
 ·rename_i hW
  obtain ⟨hc,h0,h1⟩:=hW;have hw:=hc.2.1 _ (Am (d:=default) (show w.toNat<c.aq.length by omega))
  refine (L6 hc ⟨h0,h1⟩).2 ?_;unfold Gy
  split
  ·rename_i hi;exact B5d hw hi.2.2.2.2
  exact hw
 exact h
theorem Ul {w:Int}(hc:Av c)(h:0≤w∧w<c.aq.length):Cp c.az.ak.length (A8 c w):=hc.2.1 _ (Am (d:=default) (show w.toNat<c.aq.length by omega))
theorem A08 {w:Int}(h:I0 c w)(hs:0<(A8 c w).ae.length):Gu (B1 c w)∧(B1 c w).op<c.az.ak.length:=(Ul h.1 h.2).1.2.1 _ (Am hs)
theorem B11 {w:Int}(h:I0 c w)(hs:0<(A8 c w).ae.length):0≤B0 c w∧B0 c w<c.az.aq:=
 B90 (A08 h hs).1.2.2.2.1.1 h.1.1.1.2.1.1
theorem Zg {w:Int}(h:I0 c w)(hs:0<(A8 c w).ae.length)(hne:B0 c w≠w):Av (D6 c (Aq c w (B0 c w)) (Cy (Be c (Aq c w (B0 c w))) (B1 c w)).1):=by
 have hw:0≤w∧w<c.az.aq:=by have:=h.1.1.2.1;exact ⟨h.2.1,by have:=h.2.2;omega⟩
 obtain ⟨b1,b2,b3⟩:=Q9 h.1 hw (B11 h hs);obtain ⟨k1,k2,k3,k4⟩:=A1l h.1 b1;refine A28 h.1 ⟨C4n k1,?_⟩;unfold Cy
 split
 ·exact ⟨k2,A20 k3 (A08 h hs),fun e=>absurd (by rw [b2,b3] at e;exact e.symm) hne⟩
 exact ⟨k2,k3,k4⟩
def B3z (c:A3) (w:Int):Int:=(A8 c w).ah.getD (B1 c w).am.ab.toNat default+1
theorem A4x (h:Cp n w)(he:0≤e∧e≤3):Jx w e=Is w e 1:=by
 have:=h.2.1.1
 unfold Jx;rw [Ak A7]
theorem Wa {w:Int}(h:Av c):At (Cg c w).1=(if (Cg c w).2=true∧B0 c w≠w then decide (Jh (B3z c w)) else true):=by
 unfold Cg
 by_cases hm:I0 c w∧0<(A8 c w).ae.length
 ·obtain ⟨hW,hs⟩:=hm
  rw [Ak ⟨hW,hs⟩];have hfo:=A08 hW hs
  by_cases hself:B0 c w=w
  ·simp only [hself,Lt,ne_eq,not_true_eq_false,and_false,Rw]
   exact Dg ((L6 h hW.2).2 (B3u (Zy (Ul h hW.2)) hfo))
  rw [Ab hself]
  by_cases hsend:(Cy (Be c (Aq c w (B0 c w))) (B1 c w)).2=true
  ·rw [Ak hsend]
   simp only [true_and,Ak hself,ne_eq,hself,not_false_eq_true,and_self,Lt];have hc2:=Zg hW hs hself;unfold At;refine Uv.2 ?_;have hw:=Zy (Ul h hW.2);rw [L6 hc2 hW.2,A4x hw hfo.1.2.1];exact C1a hw hfo.1.2.1
  rw [Ab hsend];simp only [Qq,false_and,Rw];exact Dg h
 rw [Ab hm];simp only [Qq,false_and,Rw];exact Dg h
theorem Zw (h:Oy c f t):Av (D6 c (Aq c f t) (Bo (Be c (Aq c f t))).1):=by
 obtain ⟨b1,b2,b3⟩:=Q9 h.1 h.2.2.1 h.2.2.2;obtain ⟨k1,k2,k3,k4⟩:=A1l h.1 b1;refine A28 h.1 ⟨B78 k1,?_⟩;unfold Bo
 split
 ·exact ⟨k2,Xn k3,fun e=>absurd (by rw [b2,b3] at e;exact e) h.2.1⟩
 exact ⟨k2,k3,k4⟩
def P4 (c:A3) (f t:Int):Aa:=(Bo (Be c (Aq c f t))).2.1
theorem B8a (h:Oy c f t)(hk:(Bo (Be c (Aq c f t))).2.2=true):Gu (P4 c f t)∧(P4 c f t).op<c.az.ak.length:=by
 obtain ⟨b1,b2,b3⟩:=Q9 h.1 h.2.2.1 h.2.2.2;obtain ⟨k1,k2,k3,k4⟩:=A1l h.1 b1;unfold P4;unfold Bo at hk ⊢
 split at hk
 ·rename_i hp
  rw [Ak hp];exact k3 _ (Am hp.2)
 cases hk
def B4x (c:A3) (f t:Int):Int:=(A8 c t).ah.getD (P4 c f t).am.ab.toNat default+ -1
theorem A4u (h:Cp n w)(he:0≤r.am.ab∧r.am.ab≤3):Ik w r=Q1 (Is (kept w r) r.am.ab (-1)) r.am.ab:=by
 have:=h.2.1.1
 have:=h.2.1.2.1
 unfold Ik;rw [Ak A7]
theorem B08 {b:Bool}:Cp n ⟨w.ar,w.ae,w.au,w.cells,w.ah,w.al.set e.toNat b,w.an,w.ai⟩↔Cp n w:=by
 refine ⟨fun h=>?_,A6o⟩;obtain ⟨ha,⟨l1,l2,l3⟩,hi,hs,hd⟩:=h;exact ⟨ha,⟨l1,by simpa using l2,l3⟩,hi,hs,hd⟩
theorem A4q (h:Av c):At (Dz c f t).1=(if (Dz c f t).2=true then decide (Jh (B4x c f t)) else true):=by
 unfold Dz
 by_cases hm:Oy c f t∧(Bo (Be c (Aq c f t))).2.2=true
 ·rw [Ak hm]
  obtain ⟨hL,hk⟩:=hm;have hto:=B8a hL hk;have hc2:=Zw hL;have ht:0≤t∧t<c.aq.length:=by have:=h.1.2.1;have:=hL.2.2.2;omega
  simp only [Lt];unfold At;refine Uv.2 ?_;rw [L6 hc2 ht];have hw:=Ul h ht
  show Cp _ (Ik (A8 c t) (P4 c f t))↔_
  rw [A4u hw hto.1.2.1];exact (B08 (w:=Is (kept (A8 c t) (P4 c f t)) (P4 c f t).am.ab (-1))).trans (C1a (B3u hw hto) hto.1.2.1)
 rw [Ab hm];simp only [Qq,Rw];exact Dg h
theorem Yg (h:Av c):Av (Ez c f t).1:=by
 unfold Ez
 split
 ·rename_i hL
  obtain ⟨b1,b2,b3⟩:=Q9 h hL.2.2.1 hL.2.2.2;obtain ⟨k1,k2,k3,k4⟩:=A1l h b1;refine A28 h ⟨A92 k1,?_⟩;unfold Ep
  split
  ·exact ⟨k2,k3,k4⟩
  exact ⟨k2,k3,k4⟩
 exact h
theorem C1w {l:List D8}(h:Av c)(hl:∀x∈l,Og c.az.aq x):Av ⟨c.az,c.aq,c.ay,c.ap,l⟩:=⟨h.1,h.2.1,h.2.2.1,h.2.2.2.1,hl⟩
theorem B12 {w:Int}(h:Av c)(hn:c.ac.any (K5 w)=true):G6 c w∈c.ac∧(G6 c w).to_=w:=by
 obtain ⟨x,hx,hw⟩:=Tf.1 hn
 have hlt:P1 c w<c.ac.length:=by
  by_cases hlt:P1 c w<c.ac.length
  ·exact hlt
  have:=A65 (K5 w) c.ac
  have he:Hq (K5 w) c.ac=c.ac.length:=by unfold P1 at hlt;omega
  have:=Z5 (K5 w) c.ac x (by rw [he,Hx];exact hx)
  rw [hw] at this;cases this
 have:=A64 (K5 w) c.ac hlt
 exact ⟨Am hlt,eq_of_beq this⟩
theorem B52 {w:Int}(h:Av c):Av (Fi c w).1:=by
 unfold Fi
 split
 ·rename_i hn
  have hh:Av (V1 c w):=C1w h fun x hx=>h.2.2.2.2 x (List.mem_of_mem_eraseIdx hx);obtain ⟨m1,m2⟩:=B12 h hn.2;have hN:=h.2.2.2.2 _ m1;have hw:0≤w∧w<c.aq.length:=by have:=h.1.2.1;have:=hN.1;omega
  split
  ·exact hh
  rename_i hd
  have hwk:=B5o (b:=(G6 c w).ao) (Ul h hw) hN.2 (by simpa using hd);exact (L6 hh hw).2 hwk
 exact h
theorem A29 {t:G9}(h:Av c)(ht:Qt c.az.aq t):Av (Fy c e t):=by
 obtain ⟨⟨g1,g2,g3,g4⟩,hw,hl,htt,hn⟩:=h;refine ⟨⟨g1,g2,g3,by simpa [Fy] using g4⟩,hw,hl,fun x hx=>?_,hn⟩
 rcases Lm hx with hx|rfl
 ·exact htt x hx
 exact ht
theorem B4z (h:Av c):Av (Ct c e).1:=by
 unfold Ct
 split
 ·rename_i hT
  obtain ⟨_,he,hD,hP⟩:=hT;have htl:=h.1.2.2.2;have hTP:Qt c.az.aq (A4 c e):=h.2.2.2.1 _ (Am (d:=default) (show e.toNat<c.ap.length by omega))
  have hn1:=h.1.1.2.1;have hwl:=h.1.2.1;have hat:0≤(A4 c e).aj∧(A4 c e).aj<c.aq.length:=by have:=hTP.1;omega
  have hwk:=Ul h hat
  simp only
  split
  ·have h1:Qt c.az.aq ⟨true,(c.aq.length:Int)-1,0,false,(A8 c (A4 c e).aj).an.getD e.toNat default⟩:=⟨⟨by show (0:Int)≤(c.aq.length:Int)-1;omega,by show (c.aq.length:Int)-1≤_;omega⟩,(fun hc=>Bool.noConfusion hc),(by show (-1000000:Int)≤0;decide),(by show (0:Int)≤1000000;decide)⟩
   exact (L6 (A29 (e:=e) h h1) hat).2 (A6o hwk)
  split
  ·split
   ·rename_i hg ha hs
    have h1:Qt c.az.aq ⟨(A4 c e).bz,(A4 c e).aj-1,(A4 c e).sum+(A8 c (A4 c e).aj).ah.getD e.toNat default,(A4 c e).al||(A8 c (A4 c e).aj).al.getD e.toNat default,(A4 c e).ao||(A8 c (A4 c e).aj).an.getD e.toNat default⟩:=
     ⟨⟨by show 0≤(A4 c e).aj-1;omega,by show (A4 c e).aj-1≤_;have:=hTP.1;omega⟩,fun hc=>absurd hc hg,hs⟩
    exact (L6 (A29 (e:=e) h h1) hat).2 (A6o hwk)
   exact h
  rename_i hg ha
  have hA:(A4 c e).aj=0:=by have:=hTP.1;omega
  have hc1:Av (Fy c e ⟨false,(A4 c e).aj,(A4 c e).sum,(A4 c e).al,(A4 c e).ao⟩):=A29 h ⟨hTP.1,fun _=>hA,hTP.2.2⟩
  unfold Kr
  split
  ·have hw0:(0:Int)≤0∧(0:Int)<c.aq.length:=by omega
   have hd0:Kl (A8 c (A4 c e).aj) e=false:=by rw [hA];exact hD
   have hdw:=B5o (b:=((A4 c e).ao||(A8 c (A4 c e).aj).an.getD e.toNat default)) hwk he hd0;have hw1:=(L6 (j:=0) hc1 hw0).2 hdw;refine C1w hw1 fun x hx=>?_
   rcases Ng.1 hx with hx|hx
   ·exact h.2.2.2.2 x hx
   obtain ⟨i,hi,rfl⟩:=Fu.1 hx
   have:=Ft.1 hi
   have hl2:(Fy c e ⟨false,(A4 c e).aj,(A4 c e).sum,(A4 c e).al,(A4 c e).ao⟩).aq.length=c.aq.length:=rfl;rw [hl2] at this;refine ⟨⟨by show (0:Int)≤(i:Int)+1;omega,?_⟩,he⟩
   show (i:Int)+1≤c.az.aq-1
   omega
  exact hc1
 exact h
theorem A46 {p : Ea} (h : Av c) : At (Ap c p).1 =
    (if p.kind = 3 then (if (Cg c p.a).2 = true ∧ B0 c p.a ≠ p.a then decide (Jh (B3z c p.a)) else true)
     else if p.kind = 4 then (if (Dz c p.a p.b).2 = true then decide (Jh (B4x c p.a p.b)) else true) else true) := by
  unfold Ap
  by_cases h1 : p.kind = 1
  · rw [Ak h1, Ab A7, Ab A7]; exact Dg (B69 h)
  by_cases h2 : p.kind = 2
  · rw [Ab h1, Ak h2, Ab A7, Ab A7]; exact Dg (B36 h)
  by_cases h3 : p.kind = 3
  · rw [Ab h1, Ab h2, Ak h3, Ak h3]; exact Wa h
  by_cases h4 : p.kind = 4
  · rw [Ab h1, Ab h2, Ab h3, Ak h4, Ab h3, Ak h4]; exact A4q h
  by_cases h5 : p.kind = 5
  · rw [Ab h1, Ab h2, Ab h3, Ab h4, Ak h5, Ab h3, Ab h4]; exact Dg (Yg h)
  by_cases h6 : p.kind = 6
  · rw [Ab h1, Ab h2, Ab h3, Ab h4, Ab h5, Ak h6, Ab h3, Ab h4]; exact Dg (B4z h)
  by_cases h7 : p.kind = 7
  · rw [Ab h1, Ab h2, Ab h3, Ab h4, Ab h5, Ab h6, Ak h7, Ab h3, Ab h4]; exact Dg (B52 h)
  · rw [Ab h1, Ab h2, Ab h3, Ab h4, Ab h5, Ab h6, Ab h7, Ab h3, Ab h4]; exact Dg h
end Go.Proofs.YtmhcebdkjgkmlaaGreatDoor
