/- Part 36 of the proof that each of the laws FnScriptsBack returns true for every input. No conditions. -/
import Derived.Test.YtmhcebdkjgkmlaaGreatDoorR30

set_option linter.unusedSimpArgs false
set_option linter.unusedVariables false
set_option maxRecDepth 100000
namespace Go.Proofs.YtmhcebdkjgkmlaaGreatDoor
open Go.Sx
theorem Og (x:Aj):x.al.length≤x.w∧x.bq.length≤x.w∧x.ap.length≤x.w∧x.cells.length≤x.w∧x.ai.length≤x.w∧x.ah.length≤x.w∧x.ao.length≤x.w:=by simp only [Aj.w];omega
theorem B4h (x:Aj)(r:A9)(h:x.w≤16000000):Df 225 [.agg x.c,.agg r.c] [.agg (kept x r).c]:=by
 have hw:=Og x;refine Dy Tryz.func225 fun W=>?_;refine Hp (J3 x A7) ?_;refine Bg A0 rfl (Aa (x.al++[r])) (An rfl) Ij A7 (Ag ?_);exact Dk
variable {w : Aj}
theorem B5x {e:Int}(h:¬ (0≤e∧e<w.ai.length)):Ky w e=w:=Ab h
theorem A0u {e:Int}(h:0≤e∧e<w.ai.length):Ky w e=J0 w e 1:=Ah h
theorem B13 (x:Aj)(e:Int)(h:x.w≤16000000)(hS:A4l x.ai):Df 228 [.agg x.c,.one (vi e)] [.agg (Ky x e).c]:=by
 have hw:=Og x;refine Dy Tryz.func228 fun W=>?_;refine Nm (J3 x A7) rfl (F1 ?_);refine Fh (Hw e 0 (x.ai.length-1)) ?_;refine C2 (fun h1=>?_) fun h1=>?_
 ·have hb:=Go.Sx.Dj.1 h1
  have hk:e.toNat<x.ai.length:=by omega
  have hs:Kb (x.ai.getD e.toNat default):=hS _ (Am hk);obtain ⟨s1,s2⟩:=hs;refine Ar ?_;refine Bi (j:=e) A0 rfl (De (x.ai.set e.toNat (x.ai.getD e.toNat default+1))) (Cn hk rfl) (Ag ?_);rw [A0u ⟨by omega,by omega⟩];exact Dk
 have hb:=Go.Sx.Gv.1 h1;refine Ar ?_;rw [B5x (fun p=>hb ⟨by omega,by omega⟩)];exact Dk
theorem A3f {r:A9}(h1:w.ai.length=4)(h2:w.ah.length=4)(he:0≤r.af.am∧r.af.am≤3):Jx w r=Q8 (J0 (kept w r) r.af.am (-1)) r.af.am:=by
 unfold Jx;rw [Ah ⟨by omega,by omega,by omega⟩]
set_option maxHeartbeats 1000000 in
theorem B12 (x:Aj)(r:A9)(h:x.w≤8000000)(hS:A4l x.ai)(h1:x.ai.length=4)(h2:x.ah.length=4)(he:0≤r.af.am∧r.af.am≤3):Df 231 [.agg x.c,.agg r.c] [.agg (Jx x r).c]:=by
 have hw:=Og x;have hk:r.af.am.toNat<x.ai.length:=by omega
 have hk2:r.af.am.toNat<x.ah.length:=by omega
 have hs:Kb (x.ai.getD r.af.am.toNat default):=hS _ (Am hk);obtain ⟨s1,s2⟩:=hs;have g1:(kept x r).ai.length=4:=h1;have g2:(kept x r).ah.length=4:=h2;have g3:(kept x r).ai.getD r.af.am.toNat default=x.ai.getD r.af.am.toNat default:=rfl;have hm:(if (x.ah.length:Int)<x.ai.length then (x.ah.length:Int) else x.ai.length)=4:=by split<;>omega
 refine Dy Tryz.func231 fun W=>?_;refine Hp (B4h x r A7) ?_;rw [hm];refine B6 ?_;refine Fh (Hw r.af.am 0 3) ?_;rw [show F0 r.af.am 0 3=true from Go.Sx.Dj.2 he]
 refine Ar ?_;refine Bi (j:=r.af.am) A0 rfl (De (x.ai.set r.af.am.toNat (x.ai.getD r.af.am.toNat default+ -1))) (Cn hk rfl) (F1 ?_);refine Bi (j:=r.af.am) A0 rfl (Dz (x.ah.set r.af.am.toNat true)) (Cn hk2 rfl) (Ag ?_);rw [A3f h1 h2 he];exact Dk
theorem B6i (h:¬ 0<w.bq.length):W9 w=(w,default,false):=Ab h
theorem A02 (h:0<w.bq.length):W9 w=(El w,w.bq.getD 0 default,true):=Ah h
theorem B16 (x:Aj)(h:x.w≤16000000):Df 224 [.agg x.c] [.agg (W9 x).1.c,.agg (W9 x).2.1.c,.one (vb (W9 x).2.2)]:=by
 have hw:=Og x;refine Dy Tryz.func224 fun W=>?_;refine Hp (J3 x A7) ?_;refine Mf (fun h1=>?_) fun h1=>?_
 ·refine Ar ?_
  rw [B6i A7];exact Dk
 have h1:0<x.bq.length:=by omega
 refine Ar ?_;refine B24 A0 rfl (⟨by omega,by omega,by omega⟩) (Aa (x.bq.drop 1)) (Im (k:=1) h1) (Ag ?_);refine Jd rfl (E4 1 rfl ?_);refine Pb 0 ?_;refine zt2 2 5 ?_ ?_
 focus
  refine B6 ?_;refine Ei (zt2 3 5 ?_ ?_)
  focus
   refine B6 ?_;refine Ei (zt2 4 5 ?_ ?_)
   focus
    refine B6 ?_;refine Ei ?_;refine splitB [5] Ak ⟨?_,trivial⟩;refine F1 ?_;refine Ei ?_
   rotate_left 1
   focus
    refine B6 ?_;refine Ei ?_;refine Pb 4 ?_
  rotate_left 2
  focus
   refine B6 ?_;refine Ei ?_;refine Pb 3 ?_;refine Pb 4 ?_
 rotate_left 3
 focus
  refine B6 ?_;refine Ei ?_;refine Pb 2 ?_;refine Pb 3 ?_;refine Pb 4 ?_
 all_goals
  refine splitB [6] Ak ⟨?_,trivial⟩;refine F1 ?_;refine Ei (E4 7 rfl ?_);refine A2r Ak (Ag ?_)
 all_goals
  rw [A02 h1];exact Dk
variable {g : Ax}
theorem Sp (h:¬ V4 g w):Hu g w=(w,false):=Ab h
theorem B0f (h:V4 g w):Hu g w=(Q6 w,true):=Ah h
set_option maxHeartbeats 1000000 in
theorem Xt (g:Ax)(x:Aj)(hg:g.w≤16777216)(h:x.w≤16000000):Df 223 [.agg g.c,.agg x.c] [.agg (Hu g x).1.c,.one (vb (Hu g x).2)]:=by
 have hw:=Og x;refine Dy Tryz.func223 fun W=>?_;refine Hp (J3 x A7) ?_;refine Fh (Je g A7) ?_;refine C2 (fun h1=>?_) fun h1=>?_
 ·have h1:Eh g=false:=by simpa using h1
  refine Ar ?_;rw [Sp (fun p=>absurd p.1 (Cy h1))];exact Dk
 have h1:Gc g:=Bp (show Eh g=true by simpa using h1)
 refine Ar ?_;refine Ao (Tt g x A7 A7) rfl (Ft ?_);refine C2 (fun h2=>?_) fun h2=>?_
 ·have h2:M0 g.ay.length x=false:=by simpa using h2
  refine Ar ?_;rw [Sp (fun p=>absurd p.2.1 (Cy h2))];exact Dk
 have h2:Db g.ay.length x:=Bp (show M0 g.ay.length x=true by simpa using h2)
 refine Ar ?_;refine C2 (fun h3=>?_) fun h3=>?_
 ·have h3:¬ x.bq.length=0:=by have:=Bp h3;omega
  refine Ar ?_;rw [Sp (fun p=>h3 p.2.2.1)];exact Dk
 have h3:x.bq.length=0:=by have:=Cy h3;omega
 refine Ar ?_;refine C2 (fun h4=>?_) fun h4=>?_
 ·have h4:¬ x.al.length=0:=by have:=Bp h4;omega
  refine Ar ?_;rw [Sp (fun p=>h4 p.2.2.2.1)];exact Dk
 have h4:x.al.length=0:=by have:=Cy h4;omega
 refine Ar ?_;refine Mf (fun h5=>?_) fun h5=>?_
 ·refine Ar ?_
  rw [Sp (fun p=>by have:=p.2.2.2.2;omega)];exact Dk
 have h5:0<x.ap.length:=by omega
 refine Ar ?_
 first|(refine Ae 4 rfl [0,1,2,3,4,5,6,7,8,9] Ak (Ag ?_))
 refine B6 ?_;refine Bg A0 rfl (Aa (x.al++[x.ap.getD 0 default])) (An rfl) Ij A7 (F1 ?_);refine B24 A0 rfl (⟨by omega,by omega,by omega⟩) (Aa (x.ap.drop 1)) (Im (k:=1) h5) (Ag ?_);rw [B0f ⟨h1,h2,h3,h4,h5⟩];exact Dk
theorem A03 (h:¬ A2m g w):Nc g w=(w,false):=Ab h
theorem A7z (h:A2m g w):Nc g w=(Pa g w,true):=Ah h
set_option maxHeartbeats 1000000 in
theorem A51 (g:Ax)(x:Aj)(hg:g.w≤16777216)(h:x.w≤16000000):Df 222 [.agg g.c,.agg x.c] [.agg (Nc g x).1.c,.one (vb (Nc g x).2)]:=by
 have hw:=Og x;refine Dy Tryz.func222 fun W=>?_;refine Hp (J3 x A7) ?_;refine Fh (Je g A7) ?_;refine C2 (fun h1=>?_) fun h1=>?_
 ·have h1:Eh g=false:=by simpa using h1
  refine Ar ?_;rw [A03 (fun p=>absurd p.1 (Cy h1))];exact Dk
 have h1:Gc g:=Bp (show Eh g=true by simpa using h1)
 refine Ar ?_;refine Ao (Tt g x A7 A7) rfl (Ft ?_);refine C2 (fun h2=>?_) fun h2=>?_
 ·have h2:M0 g.ay.length x=false:=by simpa using h2
  refine Ar ?_;rw [A03 (fun p=>absurd p.2.1 (Cy h2))];exact Dk
 have h2:Db g.ay.length x:=Bp (show M0 g.ay.length x=true by simpa using h2)
 refine Ar ?_;refine C2 (fun h3=>?_) fun h3=>?_
 ·have h3:¬ x.bq.length=0:=by have:=Bp h3;omega
  refine Ar ?_;rw [A03 (fun p=>h3 p.2.2.1)];exact Dk
 have h3:x.bq.length=0:=by have:=Cy h3;omega
 refine Ar ?_;refine Mf (fun h4=>?_) fun h4=>?_
 ·refine Ar ?_
  rw [A03 (fun p=>by have:=p.2.2.2;omega)];exact Dk
 have h4:0<x.al.length:=by omega
 have hR:=h2.1.1 _ (Am (d:=default) h4);have hE:=hR.1.2.1;have hcl:x.ao.length=4:=h2.2.1.2.2;have hc:(x.al.getD 0 default).af.am.toNat<x.ao.length:=by have:=h2.2.1.2.2;omega
 refine Ar ?_;refine B24 A0 rfl (⟨by omega,by omega,by omega⟩) (Aa (x.al.drop 1)) (Im (k:=1) h4) (Ag ?_);refine Hp (B7q g x.cells (x.al.getD 0 default) hg A7) ?_;refine Fh (B7m g (x.al.getD 0 default) hg) ?_;refine C2 (fun h5=>?_) fun h5=>?_
 ·have h5:ae g (x.al.getD 0 default)=true:=h5
  refine ⟨by (show 0≤(x.al.getD 0 default).af.am∧(x.al.getD 0 default).af.am<x.ao.length;omega),?_⟩
  conv=>whnf
  refine Bi (j:=(x.al.getD 0 default).af.am) A0 rfl (Dz (x.ao.set (x.al.getD 0 default).af.am.toNat true)) (Cn hc rfl) (Ag ?_);rw [A7z ⟨h1,h2,h3,h4⟩,Pa,Ah h5];exact Dk
 have h5:ae g (x.al.getD 0 default)=false:=h5;rw [A7z ⟨h1,h2,h3,h4⟩,Pa,Ab (by rw [h5];decide)];exact Dk
variable {w : Int} {f : Int} {t : Int}
theorem S6 (hw:1≤w∧w≤4)(hf:0≤f∧f<w)(ht:0≤t∧t<w):J4 w f t=f * w+t:=by
 unfold J4;rw [Ah A7];have e:w=1∨w=2∨w=3∨w=4:=by omega
 rcases e with rfl|rfl|rfl|rfl<;>rw [L0 (k:= .i64) (n:=f * _) (by show _∧_;omega),L0 (by show _∧_;omega)]
theorem B2d (h:¬ ((0≤f∧f<w)∧(0≤t∧t<w))):J4 w f t= -1:=by
 unfold J4;rw [Ab A7]
variable {c : A3}
theorem Q0 (h:B1 c)(hf:0≤f∧f<c.az.aq)(ht:0≤t∧t<c.az.aq):0≤Ap c f t∧Ap c f t<c.ak.length:=by
 have hl:=h.1.2.2.1;have hw:=h.1.1.2.1
 clear h
 unfold Ap;generalize c.az.aq=n at *;have e:n=1∨n=2∨n=3∨n=4:=by omega
 rcases e with rfl|rfl|rfl|rfl<;>omega
theorem S3 (x:A3)(w:Int)(h:x.w≤16000000)(hgo:Nj x):Df 221 [.agg x.c,.one (vi w)] [.one (vb (decide (I3 x w)))]:=by
 have hl:=A3.workers_le h;refine Dy Tryz.func221 fun W=>?_;refine Fh (O9 x A7 hgo) ?_;refine C2 (fun h1=>?_) fun h1=>?_
 ·refine Ar ?_
  refine Ao (Hw w 0 (x.aq.length-1)) rfl (Ft ?_);exact Af A0 rfl rfl ⟨A6 vb (by rw [Lf,Go.Sx.Dj,Nq];exact ⟨fun p=>⟨p.2.1,by have:=p.2.2;omega⟩,fun p=>⟨Bp h1,by omega,by omega⟩⟩),trivial⟩
 refine Ar ?_;exact Af A0 rfl rfl ⟨A6 vb (Cx fun p=>absurd p.1 (Cy h1)),trivial⟩
theorem A3c (h:¬ I3 c w):Fy c w=(c,false):=Ab h
theorem Tx (h:I3 c w):Fy c w=(Bf c w (Nc c.az (A8 c w)).1,(Nc c.az (A8 c w)).2):=Ah h
theorem A0q (h:¬ I3 c w):Ey c w=(c,false):=Ab h
theorem S8 (h:I3 c w):Ey c w=(Bf c w (Hu c.az (A8 c w)).1,(Hu c.az (A8 c w)).2):=Ah h
set_option maxHeartbeats 2000000 in
theorem B1z (x:A3)(w:Int)(h:x.w≤16000000)(hgo:Nj x):Df 175 [.agg x.c,.one (vi w)] [.agg (Fy x w).1.c,.one (vb (Fy x w).2)]:=by
 refine Dy Tryz.func175 fun W=>?_;refine Hp (Ev x A7) ?_;refine Fh (S3 x w h hgo) ?_;refine C2 (fun h1=>?_) fun h1=>?_
 ·have h1:¬ I3 x w:=Cy (by simpa using h1)
  refine Ar ?_;rw [A3c h1];exact Dk
 have h1:I3 x w:=Bp (show decide (I3 x w)=true by simpa using h1)
 have hC:=h1.1;have hb:=h1.2;have hk:w.toNat<x.aq.length:=by omega
 have hw:=A3.worker_le h hk;have hg:=A0a h;have hWP:=hC.2.1 _ (Am (d:=default) hk);have hww:(A8 x w).w≤16000000:=by show (x.aq.getD w.toNat default).w≤_;omega
 refine Ar ?_;refine Jd rfl (E4 0 rfl (E4 2 rfl (E4 4 rfl ?_)));refine Pb 1 ?_;refine Pb 3 ?_;refine Pb 5 ?_;refine Pb 6 ?_;refine zt2 7 11 ?_ ?_
 focus
  refine Hp (A51 x.az (A8 x w) A7 hww) ?_;refine Ei (E4 8 rfl ?_);refine zoF 9 ?_;refine zoF 10 ?_;refine splitB [11] Ak ⟨?_,trivial⟩;refine F1 ?_;refine Ei ?_
 rotate_left 1
 focus
  refine B6 ?_;refine Ei ?_;refine splitB [7] Ak ⟨?_,trivial⟩;refine Ag ?_;refine Hp (A51 x.az (A8 x w) A7 hww) ?_;refine Ei (E4 8 rfl ?_);refine zoF 9 ?_;refine zoF 10 ?_
 all_goals
  refine splitB [12] Ak ⟨?_,trivial⟩;refine F1 ?_;refine Ei (E4 13 rfl ?_);refine A2r Ak (Ag ?_)
 all_goals
  refine B6 ?_;refine Bi (j:=w) A0 rfl (Ai (x.aq.set w.toNat (Nc x.az (A8 x w)).1)) (Cn hk rfl) (Ag ?_);rw [Tx h1];exact Dk
set_option maxHeartbeats 2000000 in
theorem A8y (x:A3)(w:Int)(h:x.w≤16000000)(hgo:Nj x):Df 176 [.agg x.c,.one (vi w)] [.agg (Ey x w).1.c,.one (vb (Ey x w).2)]:=by
 refine Dy Tryz.func176 fun W=>?_;refine Hp (Ev x A7) ?_;refine Fh (S3 x w h hgo) ?_;refine C2 (fun h1=>?_) fun h1=>?_
 ·have h1:¬ I3 x w:=Cy (by simpa using h1)
  refine Ar ?_;rw [A0q h1];exact Dk
 have h1:I3 x w:=Bp (show decide (I3 x w)=true by simpa using h1)
 have hC:=h1.1;have hb:=h1.2;have hk:w.toNat<x.aq.length:=by omega
 have hw:=A3.worker_le h hk;have hg:=A0a h;have hWP:=hC.2.1 _ (Am (d:=default) hk);have hww:(A8 x w).w≤16000000:=by show (x.aq.getD w.toNat default).w≤_;omega
 refine Ar ?_;refine Jd rfl (E4 0 rfl (E4 2 rfl (E4 4 rfl ?_)));refine Pb 1 ?_;refine Pb 3 ?_;refine Pb 5 ?_;refine Pb 6 ?_;refine zt2 7 11 ?_ ?_
 focus
  refine Hp (Xt x.az (A8 x w) A7 hww) ?_;refine Ei (E4 8 rfl ?_);refine zoF 9 ?_;refine zoF 10 ?_;refine splitB [11] Ak ⟨?_,trivial⟩;refine F1 ?_;refine Ei ?_
 rotate_left 1
 focus
  refine B6 ?_;refine Ei ?_;refine splitB [7] Ak ⟨?_,trivial⟩;refine Ag ?_;refine Hp (Xt x.az (A8 x w) A7 hww) ?_;refine Ei (E4 8 rfl ?_);refine zoF 9 ?_;refine zoF 10 ?_
 all_goals
  refine splitB [12] Ak ⟨?_,trivial⟩;refine F1 ?_;refine Ei (E4 13 rfl ?_);refine A2r Ak (Ag ?_)
 all_goals
  refine B6 ?_;refine Bi (j:=w) A0 rfl (Ai (x.aq.set w.toNat (Hu x.az (A8 x w)).1)) (Cn hk rfl) (Ag ?_);rw [S8 h1];exact Dk
theorem Rn (h:¬ (I3 c w∧0<(A8 c w).bq.length)):D4 c w=(c,false):=Ab h
theorem A0r (h:I3 c w∧0<(A8 c w).bq.length)(h1:Az c w=w):D4 c w=(Bf c w (kept (El (A8 c w)) (B2 c w)),true):=by
 unfold D4;rw [Ah h,Ah h1]
theorem Y0 (h:I3 c w∧0<(A8 c w).bq.length)(h1:Az c w≠w)(h2:(Da (Bd c (Ap c w (Az c w))) (B2 c w)).2=false):D4 c w=(c,false):=by
 unfold D4;rw [Ah h,Ab h1,Ab (by rw [h2];decide)]
theorem Y1 (h:I3 c w∧0<(A8 c w).bq.length)(h1:Az c w≠w)(h2:(Da (Bd c (Ap c w (Az c w))) (B2 c w)).2=true):D4 c w=(Bf (Ds c (Ap c w (Az c w)) (Da (Bd c (Ap c w (Az c w))) (B2 c w)).1) w (Ky (El (A8 c w)) (B2 c w).af.am),true):=by
 unfold D4;rw [Ah h,Ab h1,Ah h2]
theorem B49 {k n:Int}(hk:0≤k)(hn:1≤n):0≤Ej k n∧Ej k n<n:=by
 have h1:=Wj k (show 0<n by omega)
 have h2:=A2g n hk;unfold Ej
 (repeat' split)<;>omega
theorem C3c (x:Aj):(El x).w≤x.w:=by
 simp only [Aj.w,El,Gm];omega
set_option maxHeartbeats 4000000 in
theorem B1x (x:A3)(w:Int)(h:x.w≤8000000)(hgo:Nj x):Df 177 [.agg x.c,.one (vi w)] [.agg (D4 x w).1.c,.one (vb (D4 x w).2)]:=by
 have h:x.w≤16000000:=by omega
 refine Dy Tryz.func177 fun W=>?_;refine Hp (Ev x A7) ?_;refine Fh (S3 x w h hgo) ?_;refine C2 (fun h1=>?_) fun h1=>?_
 ·have h1:¬ I3 x w:=Cy (by simpa using h1)
  refine Ar ?_;rw [(fun q=>Rn (fun p=>q p.1)) h1];exact Dk
 have h1:I3 x w:=Bp (show decide (I3 x w)=true by simpa using h1)
 have hC:=h1.1;have hb:=h1.2;have hk:w.toNat<x.aq.length:=by omega
 have hw:=A3.worker_le h hk;have hg:=A0a h;have hWP:=hC.2.1 _ (Am (d:=default) hk);have hww:(A8 x w).w≤16000000:=by show (x.aq.getD w.toNat default).w≤_;omega
 refine Ar ?_;refine Mf (fun h2=>?_) fun h2=>?_
 ·refine Ar ?_
  rw [Rn (fun p=>by have:=p.2;simp only [A8] at this;omega)];exact Dk
 have h2:0<(A8 x w).bq.length:=by simp only [A8];omega
 have hM:I3 x w∧0<(A8 x w).bq.length:=⟨h1,h2⟩;have hR:H8 (B2 x w)∧(B2 x w).op<x.az.ay.length:=hWP.1.2.1 _ (Am (d:=default) h2);have hgw:=hC.1.1.2.1;have how:=B49 (k:=(B2 x w).key) (n:=x.az.aq) hR.1.2.2.2.1.1 hgw.1;have hwl:=hC.1.2.1;have huw:=C3c (A8 x w);refine Ar ?_;refine Hp (B16 (A8 x w) hww) ?_;rw [A02 h2];refine Fh (A2y (B2 x w).key x.az.aq A7) ?_;refine Mf (fun h3=>?_) fun h3=>?_
 ·have h3:Az x w=w:=h3
  first|(refine Ae 7 rfl [0,1,2,3,4,5,6,7] Ak (Ag ?_))|(refine Ae 10 rfl [0,1,2,3,4,5,6,7,8,9,10,11,12] Ak (Ag ?_))|(refine Ae 14 rfl [0,1,2,3,4,5,6,7,8,9] Ak (Ag ?_))
  refine Nm (B4h (El (A8 x w)) (B2 x w) A7) rfl (F1 ?_);refine Bi (j:=w) A0 rfl (Ai (x.aq.set w.toNat (kept (El (A8 x w)) (B2 x w)))) (Cn hk rfl) (Ag ?_);rw [A0r hM h3];exact Dk
 have h3:Az x w≠w:=h3;have hmt:0≤Az x w∧Az x w<x.az.aq:=how;have hln:=Q0 hC (f:=w) (t:=Az x w) A7 hmt;have hlk:(Ap x w (Az x w)).toNat<x.ak.length:=by omega
 have hlw:=A3.link_le h hlk;have hlp:J4 x.az.aq w (Ej (B2 x w).key x.az.aq)=Ap x w (Az x w):=S6 hgw A7 hmt;refine Fh (Xr x.az w (Ej (B2 x w).key x.az.aq)) ?_;rw [hlp];refine Jd rfl (E4 0 rfl (E4 2 rfl ?_));refine Pb 1 ?_;refine Pb 3 ?_;refine Pb 4 ?_;refine Pb 5 ?_;refine zt2 6 10 ?_ ?_
 focus
  refine Nm (A50 (Bd x (Ap x w (Az x w))) (B2 x w) (by show (x.ak.getD _ default).w≤_;omega) (hgo _ (Am (d:=default) hlk))) rfl (Ag ?_)
  refine Ei (E4 7 rfl ?_);refine zoF 8 ?_;refine zoF 9 ?_;refine splitB [10] Ak ⟨?_,trivial⟩;refine F1 ?_;refine Ei ?_
 rotate_left 1
 focus
  refine B6 ?_;refine Ei ?_;refine splitB [6] Ak ⟨?_,trivial⟩;refine Ag ?_;refine Nm (A50 (Bd x (Ap x w (Az x w))) (B2 x w) (by show (x.ak.getD _ default).w≤_;omega) (hgo _ (Am (d:=default) hlk))) rfl (Ag ?_)
  refine Ei (E4 7 rfl ?_);refine zoF 8 ?_;refine zoF 9 ?_
 all_goals
  refine splitB [11] Ak ⟨?_,trivial⟩;refine F1 ?_;refine Ei (E4 12 rfl ?_);refine A2r Ak (Ag ?_)
 all_goals
  refine C2 (fun h4=>?_) fun h4=>?_
  ·have h4:(Da (Bd x (Ap x w (Az x w))) (B2 x w)).2=false:=by simpa using h4
   refine Ar ?_;rw [Y0 hM h3 h4];exact Dk
  have h4:(Da (Bd x (Ap x w (Az x w))) (B2 x w)).2=true:=by simpa using h4
  refine Ar ?_;refine Bi (j:=(Ap x w (Az x w))) A0 rfl (Bo (x.ak.set (Ap x w (Az x w)).toNat (Da (Bd x (Ap x w (Az x w))) (B2 x w)).1)) (Cn hlk rfl) (Ag ?_)
  first|(refine Ae 7 rfl [0,1,2,3,4,5,6,7] Ak (Ag ?_))|(refine Ae 10 rfl [0,1,2,3,4,5,6,7,8,9,10,11,12] Ak (Ag ?_))|(refine Ae 14 rfl [0,1,2,3,4,5,6,7,8,9] Ak (Ag ?_))
  refine Nm (B13 (El (A8 x w)) (B2 x w).af.am A7 hWP.2.2.2.1) rfl (F1 ?_);refine Bi (j:=w) A0 rfl (Ai (x.aq.set w.toNat (Ky (El (A8 x w)) (B2 x w).af.am))) (Cn hk rfl) (Ag ?_);rw [Y1 hM h3 h4];exact Dk
theorem On (h:¬ P0 c f t):Ek c f t=(c,false):=Ab fun p=>h p.1
theorem Y2 (h:(Bq (Bd c (Ap c f t))).2.2=false):Ek c f t=(c,false):=Ab fun p=>by rw [p.2] at h;cases h
theorem A0s (h:P0 c f t)(h1:(Bq (Bd c (Ap c f t))).2.2=true):Ek c f t=(Bf (Ds c (Ap c f t) (Bq (Bd c (Ap c f t))).1) t (Jx (A8 c t) (Bq (Bd c (Ap c f t))).2.1),true):=Ah ⟨h,h1⟩
theorem Lv (h:¬ P0 c f t):F5 c f t=(c,false):=Ab h
theorem Vt (h:P0 c f t):F5 c f t=(Ds c (Ap c f t) (Eg (Bd c (Ap c f t))).1,(Eg (Bd c (Ap c f t))).2):=Ah h
def Nz (c:A3) (f t:Int):Int:=if P0 c f t then Ap c f t else-1
theorem A57 (hC:B1 c)(hne:f≠t):J4 c.az.aq f t=Nz c f t:=by
 unfold Nz
 by_cases h:P0 c f t
 ·rw [Ah h,S6 hC.1.1.2.1 h.2.2.1 h.2.2.2]
  rfl
 rw [Ab h,B2d (fun p=>h ⟨hC,hne,p⟩)]
theorem A5w (x:A3)(f t:Int)(h:x.w≤16000000)(hgo:Nj x):Df 229 [.agg x.c,.one (vi f),.one (vi t)] [.one (vi (Nz x f t))]:=by
 refine Dy Tryz.func229 fun W=>?_;refine Fh (O9 x A7 hgo) ?_;refine C2 (fun h1=>?_) fun h1=>?_
 ·have h1:¬ B1 x:=Cy (by simpa [Av] using h1)
  refine Ar ?_;rw [Nz,Ab (fun p=>h1 p.1)];exact Dk
 have h1:B1 x:=Bp (show Av x=true by simpa using h1)
 refine Ar ?_;refine Mf (fun h2=>?_) fun h2=>?_
 ·refine Ar ?_
  rw [Nz,Ab (fun p=>p.2.1 h2)];exact Dk
 refine Ar ?_;refine Fh (Xr x.az f t) ?_;rw [A57 h1 h2];exact Dk
set_option maxHeartbeats 4000000 in
theorem A5x (x:A3)(f t:Int)(h:x.w≤16000000)(hgo:Nj x):Df 179 [.agg x.c,.one (vi f),.one (vi t)] [.agg (F5 x f t).1.c,.one (vb (F5 x f t).2)]:=by
 refine Dy Tryz.func179 fun W=>?_;refine Hp (Ev x A7) ?_;refine Fh (A5w x f t h hgo) ?_
 cases hL:decide (P0 x f t)
 ·have hL:¬ P0 x f t:=Cy hL
  rw [Nz,Ab hL];refine Ar ?_;rw [Lv hL];exact Dk
 have hL:P0 x f t:=Bp hL;have hC:=hL.1;have hln:=Q0 hC hL.2.2.1 hL.2.2.2;have hlk:(Ap x f t).toNat<x.ak.length:=by omega
 have hlw:=A3.link_le h hlk;have hog:=hgo _ (Am (d:=default) hlk);rw [Nz,Ah hL];refine A20 C3u ?_;conv=>whnf
 refine B6 ?_;refine Nm (A5r (Bd x (Ap x f t)) (by show (x.ak.getD _ default).w≤_;omega) hog) rfl (F1 ?_)
 refine Bi (j:=(Ap x f t)) A0 rfl (Bo (x.ak.set (Ap x f t).toNat (Eg (Bd x (Ap x f t))).1)) (Cn hlk rfl) (Ag ?_);rw [Vt hL];exact Dk
set_option maxHeartbeats 4000000 in
theorem B1y (x:A3)(f t:Int)(h:x.w≤8000000)(hgo:Nj x):Df 178 [.agg x.c,.one (vi f),.one (vi t)] [.agg (Ek x f t).1.c,.one (vb (Ek x f t).2)]:=by
 have h8:=h;have h:x.w≤16000000:=by omega
 refine Dy Tryz.func178 fun W=>?_;refine Hp (Ev x A7) ?_;refine Fh (A5w x f t h hgo) ?_
 cases hL:decide (P0 x f t)
 ·have hL:¬ P0 x f t:=Cy hL
  rw [Nz,Ab hL];refine Ar ?_;rw [On hL];exact Dk
 have hL:P0 x f t:=Bp hL;have hC:=hL.1;have hln:=Q0 hC hL.2.2.1 hL.2.2.2;have hlk:(Ap x f t).toNat<x.ak.length:=by omega
 have hlw:=A3.link_le h hlk;have hog:=hgo _ (Am (d:=default) hlk);rw [Nz,Ah hL];refine A20 C3u ?_;conv=>whnf
 refine B6 ?_;refine Nm (B15 (Bd x (Ap x f t)) (by show (x.ak.getD _ default).w≤_;omega) hog) rfl (Ag ?_)
 refine C2 (fun h4=>?_) fun h4=>?_
 ·have h4:(Bq (Bd x (Ap x f t))).2.2=false:=by simpa using h4
  refine Ar ?_;rw [Y2 h4];exact Dk
 have h4:(Bq (Bd x (Ap x f t))).2.2=true:=by simpa using h4
 have hT:0<(Bd x (Ap x f t)).al.length:=by
  rcases Nat.eq_zero_or_pos (Bd x (Ap x f t)).al.length with e|e
  ·rw [Xe (fun p=>by omega)] at h4;cases h4
  exact e
 have hLA:=hC.2.2.1 _ hlk;have hLP:It (Bd x (Ap x f t)):=hLA.1;have hrec:(Bq (Bd x (Ap x f t))).2.1=(Bd x (Ap x f t)).al.getD 0 default:=by rw [A01 ⟨hLP,hT⟩]
 have hRP:H8 (Bq (Bd x (Ap x f t))).2.1:=by rw [hrec];exact hLP.2 _ (Am hT)
 have hb:=hL.2.2.2;have hwl:=hC.1.2.1;have hk:t.toNat<x.aq.length:=by omega
 have hw:=A3.worker_le h8 hk;have hWP:=hC.2.1 _ (Am (d:=default) hk);refine Ar ?_;refine Bi (j:=(Ap x f t)) A0 rfl (Bo (x.ak.set (Ap x f t).toNat (Bq (Bd x (Ap x f t))).1)) (Cn hlk rfl) (Ag ?_)
 first|(refine Ae 9 rfl [0,1,2,3,4,5,6,7,8,9,10,11] Ak (Ag ?_))
 refine B6 ?_;refine Nm (B12 (A8 x t) (Bq (Bd x (Ap x f t))).2.1 (by show (x.aq.getD _ default).w≤_;omega) hWP.2.2.2.1 hWP.2.1.1 hWP.2.1.2.1 hRP.2.1) rfl (F1 ?_)
 refine Bi (j:=t) A0 rfl (Ai (x.aq.set t.toNat (Jx (A8 x t) (Bq (Bd x (Ap x f t))).2.1))) (Cn hk rfl) (Ag ?_);rw [A0s hL h4];exact Dk
end Go.Proofs.YtmhcebdkjgkmlaaGreatDoor
