/- Part 24 of the proof that each of the laws FnConsole returns true for every input. No conditions. -/
import Derived.Test.YtmhcebdkjgkmlaaGreatDoorQ23

set_option linter.unusedSimpArgs false
set_option linter.unusedVariables false
set_option maxRecDepth 100000
namespace Go.Proofs.YtmhcebdkjgkmlaaGreatDoor
open Go.Sx
theorem Om (x:Ae):x.ar.length≤x.w∧x.aa.length≤x.w∧x.au.length≤x.w∧x.cells.length≤x.w∧x.al.length≤x.w∧x.ah.length≤x.w∧x.ai.length≤x.w:=by simp only [Ae.w];omega
theorem B6a (x:Ae)(r:Aa)(h:x.w≤16000000):Di 225 [.agg x.c,.agg r.c] [.agg (kept x r).c]:=by
 have hw:=Om x;refine E7 Tryz.func225 fun W=>?_;refine Gf (J6 x A7) ?_;refine B6 A0 rfl (A9 (x.ar++[r])) (Ao rfl) Hd A7 (Ah ?_);exact D4
variable {w : Ae}
theorem B7q {e:Int}(h:¬ (0≤e∧e<w.al.length)):Jz w e=w:=Ab h
theorem A11 {e:Int}(h:0≤e∧e<w.al.length):Jz w e=Iv w e 1:=Ak h
theorem B3p (x:Ae)(e:Int)(h:x.w≤16000000)(hS:A55 x.al):Di 228 [.agg x.c,.one (vi e)] [.agg (Jz x e).c]:=by
 have hw:=Om x;refine E7 Tryz.func228 fun W=>?_;refine Lo (J6 x A7) rfl (Em ?_);refine Fp (Hm e 0 (x.al.length-1)) ?_;refine C1 (fun h1=>?_) fun h1=>?_
 ·have hb:=Go.Sx.Cl.1 h1
  have hk:e.toNat<x.al.length:=by omega
  have hs:Jk (x.al.getD e.toNat default):=hS _ (Al hk);obtain ⟨s1,s2⟩:=hs;refine As ?_;refine Bi (j:=e) A0 rfl (Cn (x.al.set e.toNat (x.al.getD e.toNat default+1))) (Cm hk rfl) (Ah ?_);rw [A11 ⟨by omega,by omega⟩];exact D4
 have hb:=Go.Sx.Gd.1 h1;refine As ?_;rw [B7q (fun p=>hb ⟨by omega,by omega⟩)];exact D4
theorem A4q {r:Aa}(h1:w.al.length=4)(h2:w.ah.length=4)(he:0≤r.af.ab∧r.af.ab≤3):Im w r=Q9 (Iv (kept w r) r.af.ab (-1)) r.af.ab:=by
 unfold Im;rw [Ak ⟨by omega,by omega,by omega⟩]
set_option maxHeartbeats 1000000 in
theorem B3n (x:Ae)(r:Aa)(h:x.w≤8000000)(hS:A55 x.al)(h1:x.al.length=4)(h2:x.ah.length=4)(he:0≤r.af.ab∧r.af.ab≤3):Di 231 [.agg x.c,.agg r.c] [.agg (Im x r).c]:=by
 have hw:=Om x;have hk:r.af.ab.toNat<x.al.length:=by omega
 have hk2:r.af.ab.toNat<x.ah.length:=by omega
 have hs:Jk (x.al.getD r.af.ab.toNat default):=hS _ (Al hk);obtain ⟨s1,s2⟩:=hs;have g1:(kept x r).al.length=4:=h1;have g2:(kept x r).ah.length=4:=h2;have g3:(kept x r).al.getD r.af.ab.toNat default=x.al.getD r.af.ab.toNat default:=rfl;have hm:(if (x.ah.length:Int)<x.al.length then (x.ah.length:Int) else x.al.length)=4:=by split<;>omega
 refine E7 Tryz.func231 fun W=>?_;refine Gf (B6a x r A7) ?_;rw [hm];refine B4 ?_;refine Fp (Hm r.af.ab 0 3) ?_;rw [show E4 r.af.ab 0 3=true from Go.Sx.Cl.2 he]
 refine As ?_;refine Bi (j:=r.af.ab) A0 rfl (Cn (x.al.set r.af.ab.toNat (x.al.getD r.af.ab.toNat default+ -1))) (Cm hk rfl) (Em ?_);refine Bi (j:=r.af.ab) A0 rfl (Df (x.ah.set r.af.ab.toNat true)) (Cm hk2 rfl) (Ah ?_);rw [A4q h1 h2 he];exact D4
theorem B8b (h:¬ 0<w.aa.length):Wq w=(w,default,false):=Ab h
theorem A2a (h:0<w.aa.length):Wq w=(Ew w,w.aa.getD 0 default,true):=Ak h
theorem B3s (x:Ae)(h:x.w≤16000000):Di 224 [.agg x.c] [.agg (Wq x).1.c,.agg (Wq x).2.1.c,.one (vb (Wq x).2.2)]:=by
 have hw:=Om x;refine E7 Tryz.func224 fun W=>?_;refine Gf (J6 x A7) ?_;refine Lf (fun h1=>?_) fun h1=>?_
 ·refine As ?_
  rw [B8b A7];exact D4
 have h1:0<x.aa.length:=by omega
 refine As ?_;refine B4t A0 rfl (⟨by omega,by omega,by omega⟩) (A9 (x.aa.drop 1)) (Ip (k:=1) h1) (Ah ?_);refine J3 rfl (E5 1 rfl ?_);refine On 0 ?_;refine zt2 2 5 ?_ ?_
 focus
  refine B4 ?_;refine Ec (zt2 3 5 ?_ ?_)
  focus
   refine B4 ?_;refine Ec (zt2 4 5 ?_ ?_)
   focus
    refine B4 ?_;refine Ec ?_;refine splitB [5] Am ⟨?_,trivial⟩;refine Em ?_;refine Ec ?_
   rotate_left 1
   focus
    refine B4 ?_;refine Ec ?_;refine On 4 ?_
  rotate_left 2
  focus
   refine B4 ?_;refine Ec ?_;refine On 3 ?_;refine On 4 ?_
 rotate_left 3
 focus
  refine B4 ?_;refine Ec ?_;refine On 2 ?_;refine On 3 ?_;refine On 4 ?_
 all_goals
  refine splitB [6] Am ⟨?_,trivial⟩;refine Em ?_;refine Ec (E5 7 rfl ?_);refine A0z Am (Ah ?_)
 all_goals
  rw [A2a h1];exact D4
variable {g : B0}
theorem Sz (h:¬ Ve g w):H9 g w=(w,false):=Ab h
theorem B1t (h:Ve g w):H9 g w=(Q7 w,true):=Ak h
set_option maxHeartbeats 1000000 in
theorem Ya (g:B0)(x:Ae)(hg:g.w≤16777216)(h:x.w≤16000000):Di 223 [.agg g.c,.agg x.c] [.agg (H9 g x).1.c,.one (vb (H9 g x).2)]:=by
 have hw:=Om x;refine E7 Tryz.func223 fun W=>?_;refine Gf (J6 x A7) ?_;refine Fp (Kp g A7) ?_;refine C1 (fun h1=>?_) fun h1=>?_
 ·have h1:F2 g=false:=by simpa using h1
  refine As ?_;rw [Sz (fun p=>absurd p.1 (Cv h1))];exact D4
 have h1:Gw g:=Bn (show F2 g=true by simpa using h1)
 refine As ?_;refine Aq (U2 g x A7 A7) rfl (Gu ?_);refine C1 (fun h2=>?_) fun h2=>?_
 ·have h2:Lw g.ak.length x=false:=by simpa using h2
  refine As ?_;rw [Sz (fun p=>absurd p.2.1 (Cv h2))];exact D4
 have h2:Cw g.ak.length x:=Bn (show Lw g.ak.length x=true by simpa using h2)
 refine As ?_;refine C1 (fun h3=>?_) fun h3=>?_
 ·have h3:¬ x.aa.length=0:=by have:=Bn h3;omega
  refine As ?_;rw [Sz (fun p=>h3 p.2.2.1)];exact D4
 have h3:x.aa.length=0:=by have:=Cv h3;omega
 refine As ?_;refine C1 (fun h4=>?_) fun h4=>?_
 ·have h4:¬ x.ar.length=0:=by have:=Bn h4;omega
  refine As ?_;rw [Sz (fun p=>h4 p.2.2.2.1)];exact D4
 have h4:x.ar.length=0:=by have:=Cv h4;omega
 refine As ?_;refine Lf (fun h5=>?_) fun h5=>?_
 ·refine As ?_
  rw [Sz (fun p=>by have:=p.2.2.2.2;omega)];exact D4
 have h5:0<x.au.length:=by omega
 refine As ?_
 first|(refine Aj 4 rfl [0,1,2,3,4,5,6,7,8,9] Am (Ah ?_))
 refine B4 ?_;refine B6 A0 rfl (A9 (x.ar++[x.au.getD 0 default])) (Ao rfl) Hd A7 (Em ?_);refine B4t A0 rfl (⟨by omega,by omega,by omega⟩) (A9 (x.au.drop 1)) (Ip (k:=1) h5) (Ah ?_);rw [B1t ⟨h1,h2,h3,h4,h5⟩];exact D4
theorem A2b (h:¬ A3s g w):Me g w=(w,false):=Ab h
theorem A9d (h:A3s g w):Me g w=(Pb g w,true):=Ak h
set_option maxHeartbeats 1000000 in
theorem A7l (g:B0)(x:Ae)(hg:g.w≤16777216)(h:x.w≤16000000):Di 222 [.agg g.c,.agg x.c] [.agg (Me g x).1.c,.one (vb (Me g x).2)]:=by
 have hw:=Om x;refine E7 Tryz.func222 fun W=>?_;refine Gf (J6 x A7) ?_;refine Fp (Kp g A7) ?_;refine C1 (fun h1=>?_) fun h1=>?_
 ·have h1:F2 g=false:=by simpa using h1
  refine As ?_;rw [A2b (fun p=>absurd p.1 (Cv h1))];exact D4
 have h1:Gw g:=Bn (show F2 g=true by simpa using h1)
 refine As ?_;refine Aq (U2 g x A7 A7) rfl (Gu ?_);refine C1 (fun h2=>?_) fun h2=>?_
 ·have h2:Lw g.ak.length x=false:=by simpa using h2
  refine As ?_;rw [A2b (fun p=>absurd p.2.1 (Cv h2))];exact D4
 have h2:Cw g.ak.length x:=Bn (show Lw g.ak.length x=true by simpa using h2)
 refine As ?_;refine C1 (fun h3=>?_) fun h3=>?_
 ·have h3:¬ x.aa.length=0:=by have:=Bn h3;omega
  refine As ?_;rw [A2b (fun p=>h3 p.2.2.1)];exact D4
 have h3:x.aa.length=0:=by have:=Cv h3;omega
 refine As ?_;refine Lf (fun h4=>?_) fun h4=>?_
 ·refine As ?_
  rw [A2b (fun p=>by have:=p.2.2.2;omega)];exact D4
 have h4:0<x.ar.length:=by omega
 have hR:=h2.1.1 _ (Al (d:=default) h4);have hE:=hR.1.2.1;have hcl:x.ai.length=4:=h2.2.1.2.2;have hc:(x.ar.getD 0 default).af.ab.toNat<x.ai.length:=by have:=h2.2.1.2.2;omega
 refine As ?_;refine B4t A0 rfl (⟨by omega,by omega,by omega⟩) (A9 (x.ar.drop 1)) (Ip (k:=1) h4) (Ah ?_);refine Gf (B9o g x.cells (x.ar.getD 0 default) hg A7) ?_;refine Fp (B9k g (x.ar.getD 0 default) hg) ?_;refine C1 (fun h5=>?_) fun h5=>?_
 ·have h5:ao g (x.ar.getD 0 default)=true:=h5
  refine ⟨by (show 0≤(x.ar.getD 0 default).af.ab∧(x.ar.getD 0 default).af.ab<x.ai.length;omega),?_⟩
  conv=>whnf
  refine Bi (j:=(x.ar.getD 0 default).af.ab) A0 rfl (Df (x.ai.set (x.ar.getD 0 default).af.ab.toNat true)) (Cm hc rfl) (Ah ?_);rw [A9d ⟨h1,h2,h3,h4⟩,Pb,Ak h5];exact D4
 have h5:ao g (x.ar.getD 0 default)=false:=h5;rw [A9d ⟨h1,h2,h3,h4⟩,Pb,Ab (by rw [h5];decide)];exact D4
def J7 (w f t:Int):Int:=if 0≤min f t∧max f t<w then IntKind.wrap .i64 (IntKind.wrap .i64 (f * w)+t) else-1
theorem Sm (g:B0)(f t:Int)(hg:Gv .i64 g.aq):Di 241 [.agg g.c,.one (vi f),.one (vi t)] [.one (vi (J7 g.aq f t))]:=by
 have hw:g.aq≤9223372036854775807:=hg.2;have hw1:1≤g.aq→IntKind.wrap .i64 (g.aq-1)=g.aq-1:=fun h=>L0 (by show _∧_;omega)
 refine B85 A0 true Tryz.func241 rfl Bq fun W=>?_;conv=>whnf
 repeat' (first|(refine Ho ?_;conv=>whnf)|(refine Hp ?_;conv=>whnf)|(refine ⟨fun h=>?_,fun h=>?_⟩<;>conv=>whnf)|(refine Aq (Hg _ _ _) rfl (go A0 true ?_);conv=>whnf)|(refine Gn ?_;conv=>whnf)|fail)
 all_goals (refine An A0 rfl rfl ⟨A6 vi ?_,trivial⟩;simp only [Mq,Us,Go.Sx.Cl,Go.Sx.Gd,Np,Ta] at *;unfold J7)
 ·by_cases h1:1≤g.aq
  ·have h2:=hw1 h1;rw [Ab A7]
  rw [Ab A7]
 ·by_cases h1:1≤g.aq
  ·have h2:=hw1 h1;rw [Ab A7]
  rw [Ab A7]
 ·rw [Ab A7]
 have h2:=hw1 A7;rw [Ak A7]
theorem Y8 (g:B0)(f t:Int):Di 226 [.agg g.c,.one (vi f),.one (vi t)] [.one (vi (J7 g.aq f t))]:=by
 refine B85 A0 true Tryz.func226 rfl Bq fun W=>?_;conv=>whnf
 repeat' (first|(refine Ho ?_;conv=>whnf)|(refine Hp ?_;conv=>whnf)|(refine ⟨fun h=>?_,fun h=>?_⟩<;>conv=>whnf)|(refine Gn ?_;conv=>whnf)|fail)
 all_goals (refine An A0 rfl rfl ⟨A6 vi ?_,trivial⟩;simp only [Np,Ta] at *;unfold J7)
 ·rw [Ab A7]
 ·rw [Ab A7]
 rw [Ak A7]
theorem A4z (key n:Int)(hn:n≤9223372036854775807):Di 183 [.one (vi key),.one (vi n)] [.one (vi (Ev key n))]:=by
 refine E7 Tryz.func183 fun W=>?_;refine Dv (fun h=>?_) fun h=>?_
 ·exact An A0 rfl rfl ⟨A6 vi (by rw [Ev,Ak h]),trivial⟩
 have h1:=X2 key (show 0<n by omega)
 have h2:=Int.lt_tmod_of_pos key (show 0<n by omega)
 refine B4 ?_;refine Dv (fun h'=>?_) fun h'=>?_
 ·refine B4 ?_
  exact An A0 rfl rfl ⟨A6 vi (by rw [Ev,Ab h,Ak h']),trivial⟩
 exact An A0 rfl rfl ⟨A6 vi (by rw [Ev,Ab h,Ab h']),trivial⟩
theorem A35 (key n:Int)(hn:n≤9223372036854775807):Di 119 [.one (vi key),.one (vi n)] [.one (vi (Ev key n))]:=by
 refine E7 Tryz.func119 fun W=>?_;refine Dv (fun h=>?_) fun h=>?_
 ·exact An A0 rfl rfl ⟨A6 vi (by rw [Ev,Ak h]),trivial⟩
 have h1:=X2 key (show 0<n by omega)
 have h2:=Int.lt_tmod_of_pos key (show 0<n by omega)
 refine B4 ?_;refine Dv (fun h'=>?_) fun h'=>?_
 ·refine B4 ?_
  exact An A0 rfl rfl ⟨A6 vi (by rw [Ev,Ab h,Ak h']),trivial⟩
 exact An A0 rfl rfl ⟨A6 vi (by rw [Ev,Ab h,Ab h']),trivial⟩
variable {w : Int} {f : Int} {t : Int}
theorem Sd (hw:1≤w∧w≤4)(hf:0≤f∧f<w)(ht:0≤t∧t<w):J7 w f t=f * w+t:=by
 unfold J7;rw [Ak A7];have e:w=1∨w=2∨w=3∨w=4:=by omega
 rcases e with rfl|rfl|rfl|rfl<;>rw [L0 (k:= .i64) (n:=f * _) (by show _∧_;omega),L0 (by show _∧_;omega)]
theorem B3z (h:¬ ((0≤f∧f<w)∧(0≤t∧t<w))):J7 w f t= -1:=by
 unfold J7;rw [Ab A7]
variable {c : A3}
theorem Q1 (h:Ax c)(hf:0≤f∧f<c.az.aq)(ht:0≤t∧t<c.az.aq):0≤Ar c f t∧Ar c f t<c.ay.length:=by
 have hl:=h.1.2.2.1;have hw:=h.1.1.2.1
 clear h
 unfold Ar;generalize c.az.aq=n at *;have e:n=1∨n=2∨n=3∨n=4:=by omega
 rcases e with rfl|rfl|rfl|rfl<;>omega
theorem Sa (x:A3)(w:Int)(h:x.w≤16000000)(hgo:M6 x):Di 221 [.agg x.c,.one (vi w)] [.one (vb (decide (I6 x w)))]:=by
 have hl:=A3.workers_le h;refine E7 Tryz.func221 fun W=>?_;refine Fp (Of x A7 hgo) ?_;refine C1 (fun h1=>?_) fun h1=>?_
 ·refine As ?_
  refine Aq (Hm w 0 (x.aq.length-1)) rfl (Gu ?_);exact An A0 rfl rfl ⟨A6 vb (by rw [S3,Go.Sx.Cl,Np];exact ⟨fun p=>⟨p.2.1,by have:=p.2.2;omega⟩,fun p=>⟨Bn h1,by omega,by omega⟩⟩),trivial⟩
 refine As ?_;exact An A0 rfl rfl ⟨A6 vb (Cd fun p=>absurd p.1 (Cv h1)),trivial⟩
theorem A4m (h:¬ I6 c w):Fy c w=(c,false):=Ab h
theorem U8 (h:I6 c w):Fy c w=(Be c w (Me c.az (A8 c w)).1,(Me c.az (A8 c w)).2):=Ak h
theorem A1t (h:¬ I6 c w):Ez c w=(c,false):=Ab h
theorem Sf (h:I6 c w):Ez c w=(Be c w (H9 c.az (A8 c w)).1,(H9 c.az (A8 c w)).2):=Ak h
set_option maxHeartbeats 2000000 in
theorem B3k (x:A3)(w:Int)(h:x.w≤16000000)(hgo:M6 x):Di 175 [.agg x.c,.one (vi w)] [.agg (Fy x w).1.c,.one (vb (Fy x w).2)]:=by
 refine E7 Tryz.func175 fun W=>?_;refine Gf (Fc x A7) ?_;refine Fp (Sa x w h hgo) ?_;refine C1 (fun h1=>?_) fun h1=>?_
 ·have h1:¬ I6 x w:=Cv (by simpa using h1)
  refine As ?_;rw [A4m h1];exact D4
 have h1:I6 x w:=Bn (show decide (I6 x w)=true by simpa using h1)
 have hC:=h1.1;have hb:=h1.2;have hk:w.toNat<x.aq.length:=by omega
 have hw:=A3.worker_le h hk;have hg:=Tw h;have hWP:=hC.2.1 _ (Al (d:=default) hk);have hww:(A8 x w).w≤16000000:=by show (x.aq.getD w.toNat default).w≤_;omega
 refine As ?_;refine J3 rfl (E5 0 rfl (E5 2 rfl (E5 4 rfl ?_)));refine On 1 ?_;refine On 3 ?_;refine On 5 ?_;refine On 6 ?_;refine zt2 7 11 ?_ ?_
 focus
  refine Gf (A7l x.az (A8 x w) A7 hww) ?_;refine Ec (E5 8 rfl ?_);refine zoF 9 ?_;refine zoF 10 ?_;refine splitB [11] Am ⟨?_,trivial⟩;refine Em ?_;refine Ec ?_
 rotate_left 1
 focus
  refine B4 ?_;refine Ec ?_;refine splitB [7] Am ⟨?_,trivial⟩;refine Ah ?_;refine Gf (A7l x.az (A8 x w) A7 hww) ?_;refine Ec (E5 8 rfl ?_);refine zoF 9 ?_;refine zoF 10 ?_
 all_goals
  refine splitB [12] Am ⟨?_,trivial⟩;refine Em ?_;refine Ec (E5 13 rfl ?_);refine A0z Am (Ah ?_)
 all_goals
  refine B4 ?_;refine Bi (j:=w) A0 rfl (Af (x.aq.set w.toNat (Me x.az (A8 x w)).1)) (Cm hk rfl) (Ah ?_);rw [U8 h1];exact D4
set_option maxHeartbeats 2000000 in
theorem A98 (x:A3)(w:Int)(h:x.w≤16000000)(hgo:M6 x):Di 176 [.agg x.c,.one (vi w)] [.agg (Ez x w).1.c,.one (vb (Ez x w).2)]:=by
 refine E7 Tryz.func176 fun W=>?_;refine Gf (Fc x A7) ?_;refine Fp (Sa x w h hgo) ?_;refine C1 (fun h1=>?_) fun h1=>?_
 ·have h1:¬ I6 x w:=Cv (by simpa using h1)
  refine As ?_;rw [A1t h1];exact D4
 have h1:I6 x w:=Bn (show decide (I6 x w)=true by simpa using h1)
 have hC:=h1.1;have hb:=h1.2;have hk:w.toNat<x.aq.length:=by omega
 have hw:=A3.worker_le h hk;have hg:=Tw h;have hWP:=hC.2.1 _ (Al (d:=default) hk);have hww:(A8 x w).w≤16000000:=by show (x.aq.getD w.toNat default).w≤_;omega
 refine As ?_;refine J3 rfl (E5 0 rfl (E5 2 rfl (E5 4 rfl ?_)));refine On 1 ?_;refine On 3 ?_;refine On 5 ?_;refine On 6 ?_;refine zt2 7 11 ?_ ?_
 focus
  refine Gf (Ya x.az (A8 x w) A7 hww) ?_;refine Ec (E5 8 rfl ?_);refine zoF 9 ?_;refine zoF 10 ?_;refine splitB [11] Am ⟨?_,trivial⟩;refine Em ?_;refine Ec ?_
 rotate_left 1
 focus
  refine B4 ?_;refine Ec ?_;refine splitB [7] Am ⟨?_,trivial⟩;refine Ah ?_;refine Gf (Ya x.az (A8 x w) A7 hww) ?_;refine Ec (E5 8 rfl ?_);refine zoF 9 ?_;refine zoF 10 ?_
 all_goals
  refine splitB [12] Am ⟨?_,trivial⟩;refine Em ?_;refine Ec (E5 13 rfl ?_);refine A0z Am (Ah ?_)
 all_goals
  refine B4 ?_;refine Bi (j:=w) A0 rfl (Af (x.aq.set w.toNat (H9 x.az (A8 x w)).1)) (Cm hk rfl) (Ah ?_);rw [Sf h1];exact D4
theorem Rq (h:¬ (I6 c w∧0<(A8 c w).aa.length)):Ck c w=(c,false):=Ab h
theorem A1u (h:I6 c w∧0<(A8 c w).aa.length)(h1:B1 c w=w):Ck c w=(Be c w (kept (Ew (A8 c w)) (B2 c w)),true):=by
 unfold Ck;rw [Ak h,Ak h1]
theorem Yj (h:I6 c w∧0<(A8 c w).aa.length)(h1:B1 c w≠w)(h2:(D8 (Bg c (Ar c w (B1 c w))) (B2 c w)).2=false):Ck c w=(c,false):=by
 unfold Ck;rw [Ak h,Ab h1,Ab (by rw [h2];decide)]
theorem Yk (h:I6 c w∧0<(A8 c w).aa.length)(h1:B1 c w≠w)(h2:(D8 (Bg c (Ar c w (B1 c w))) (B2 c w)).2=true):Ck c w=(Be (Dd c (Ar c w (B1 c w)) (D8 (Bg c (Ar c w (B1 c w))) (B2 c w)).1) w (Jz (Ew (A8 c w)) (B2 c w).af.ab),true):=by
 unfold Ck;rw [Ak h,Ab h1,Ak h2]
theorem B61 {k n:Int}(hk:0≤k)(hn:1≤n):0≤Ev k n∧Ev k n<n:=by
 have h1:=X2 k (show 0<n by omega)
 have h2:=A3n n hk;unfold Ev
 (repeat' split)<;>omega
theorem C4x (x:Ae):(Ew x).w≤x.w:=by
 simp only [Ae.w,Ew,Ge];omega
set_option maxHeartbeats 4000000 in
theorem B3i (x:A3)(w:Int)(h:x.w≤8000000)(hgo:M6 x):Di 177 [.agg x.c,.one (vi w)] [.agg (Ck x w).1.c,.one (vb (Ck x w).2)]:=by
 have h:x.w≤16000000:=by omega
 refine E7 Tryz.func177 fun W=>?_;refine Gf (Fc x A7) ?_;refine Fp (Sa x w h hgo) ?_;refine C1 (fun h1=>?_) fun h1=>?_
 ·have h1:¬ I6 x w:=Cv (by simpa using h1)
  refine As ?_;rw [(fun q=>Rq (fun p=>q p.1)) h1];exact D4
 have h1:I6 x w:=Bn (show decide (I6 x w)=true by simpa using h1)
 have hC:=h1.1;have hb:=h1.2;have hk:w.toNat<x.aq.length:=by omega
 have hw:=A3.worker_le h hk;have hg:=Tw h;have hWP:=hC.2.1 _ (Al (d:=default) hk);have hww:(A8 x w).w≤16000000:=by show (x.aq.getD w.toNat default).w≤_;omega
 refine As ?_;refine Lf (fun h2=>?_) fun h2=>?_
 ·refine As ?_
  rw [Rq (fun p=>by have:=p.2;simp only [A8] at this;omega)];exact D4
 have h2:0<(A8 x w).aa.length:=by simp only [A8];omega
 have hM:I6 x w∧0<(A8 x w).aa.length:=⟨h1,h2⟩;have hR:H5 (B2 x w)∧(B2 x w).op<x.az.ak.length:=hWP.1.2.1 _ (Al (d:=default) h2);have hgw:=hC.1.1.2.1;have how:=B61 (k:=(B2 x w).key) (n:=x.az.aq) hR.1.2.2.2.1.1 hgw.1;have hwl:=hC.1.2.1;have huw:=C4x (A8 x w);refine As ?_;refine Gf (B3s (A8 x w) hww) ?_;rw [A2a h2];refine Fp (A35 (B2 x w).key x.az.aq A7) ?_;refine Lf (fun h3=>?_) fun h3=>?_
 ·have h3:B1 x w=w:=h3
  first|(refine Aj 7 rfl [0,1,2,3,4,5,6,7] Am (Ah ?_))|(refine Aj 10 rfl [0,1,2,3,4,5,6,7,8,9,10,11,12] Am (Ah ?_))|(refine Aj 14 rfl [0,1,2,3,4,5,6,7,8,9] Am (Ah ?_))
  refine Lo (B6a (Ew (A8 x w)) (B2 x w) A7) rfl (Em ?_);refine Bi (j:=w) A0 rfl (Af (x.aq.set w.toNat (kept (Ew (A8 x w)) (B2 x w)))) (Cm hk rfl) (Ah ?_);rw [A1u hM h3];exact D4
 have h3:B1 x w≠w:=h3;have hmt:0≤B1 x w∧B1 x w<x.az.aq:=how;have hln:=Q1 hC (f:=w) (t:=B1 x w) A7 hmt;have hlk:(Ar x w (B1 x w)).toNat<x.ay.length:=by omega
 have hlw:=A3.link_le h hlk;have hlp:J7 x.az.aq w (Ev (B2 x w).key x.az.aq)=Ar x w (B1 x w):=Sd hgw A7 hmt;refine Fp (Y8 x.az w (Ev (B2 x w).key x.az.aq)) ?_;rw [hlp];refine J3 rfl (E5 0 rfl (E5 2 rfl ?_));refine On 1 ?_;refine On 3 ?_;refine On 4 ?_;refine On 5 ?_;refine zt2 6 10 ?_ ?_
 focus
  refine Lo (A7k (Bg x (Ar x w (B1 x w))) (B2 x w) (by show (x.ay.getD _ default).w≤_;omega) (hgo _ (Al (d:=default) hlk))) rfl (Ah ?_)
  refine Ec (E5 7 rfl ?_);refine zoF 8 ?_;refine zoF 9 ?_;refine splitB [10] Am ⟨?_,trivial⟩;refine Em ?_;refine Ec ?_
 rotate_left 1
 focus
  refine B4 ?_;refine Ec ?_;refine splitB [6] Am ⟨?_,trivial⟩;refine Ah ?_;refine Lo (A7k (Bg x (Ar x w (B1 x w))) (B2 x w) (by show (x.ay.getD _ default).w≤_;omega) (hgo _ (Al (d:=default) hlk))) rfl (Ah ?_)
  refine Ec (E5 7 rfl ?_);refine zoF 8 ?_;refine zoF 9 ?_
 all_goals
  refine splitB [11] Am ⟨?_,trivial⟩;refine Em ?_;refine Ec (E5 12 rfl ?_);refine A0z Am (Ah ?_)
 all_goals
  refine C1 (fun h4=>?_) fun h4=>?_
  ·have h4:(D8 (Bg x (Ar x w (B1 x w))) (B2 x w)).2=false:=by simpa using h4
   refine As ?_;rw [Yj hM h3 h4];exact D4
  have h4:(D8 (Bg x (Ar x w (B1 x w))) (B2 x w)).2=true:=by simpa using h4
  refine As ?_;refine Bi (j:=(Ar x w (B1 x w))) A0 rfl (Ba (x.ay.set (Ar x w (B1 x w)).toNat (D8 (Bg x (Ar x w (B1 x w))) (B2 x w)).1)) (Cm hlk rfl) (Ah ?_)
  first|(refine Aj 7 rfl [0,1,2,3,4,5,6,7] Am (Ah ?_))|(refine Aj 10 rfl [0,1,2,3,4,5,6,7,8,9,10,11,12] Am (Ah ?_))|(refine Aj 14 rfl [0,1,2,3,4,5,6,7,8,9] Am (Ah ?_))
  refine Lo (B3p (Ew (A8 x w)) (B2 x w).af.ab A7 hWP.2.2.2.1) rfl (Em ?_);refine Bi (j:=w) A0 rfl (Af (x.aq.set w.toNat (Jz (Ew (A8 x w)) (B2 x w).af.ab))) (Cm hk rfl) (Ah ?_);rw [Yk hM h3 h4];exact D4
theorem Oz (h:¬ P5 c f t):E9 c f t=(c,false):=Ab fun p=>h p.1
theorem Yl (h:(Bp (Bg c (Ar c f t))).2.2=false):E9 c f t=(c,false):=Ab fun p=>by rw [p.2] at h;cases h
theorem A1v (h:P5 c f t)(h1:(Bp (Bg c (Ar c f t))).2.2=true):E9 c f t=(Be (Dd c (Ar c f t) (Bp (Bg c (Ar c f t))).1) t (Im (A8 c t) (Bp (Bg c (Ar c f t))).2.1),true):=Ak ⟨h,h1⟩
theorem Ls (h:¬ P5 c f t):F6 c f t=(c,false):=Ab h
theorem W6 (h:P5 c f t):F6 c f t=(Dd c (Ar c f t) (Et (Bg c (Ar c f t))).1,(Et (Bg c (Ar c f t))).2):=Ak h
def O3 (c:A3) (f t:Int):Int:=if P5 c f t then Ar c f t else-1
theorem A7s (hC:Ax c)(hne:f≠t):J7 c.az.aq f t=O3 c f t:=by
 unfold O3
 by_cases h:P5 c f t
 ·rw [Ak h,Sd hC.1.1.2.1 h.2.2.1 h.2.2.2]
  rfl
 rw [Ab h,B3z (fun p=>h ⟨hC,hne,p⟩)]
theorem A7g (x:A3)(f t:Int)(h:x.w≤16000000)(hgo:M6 x):Di 229 [.agg x.c,.one (vi f),.one (vi t)] [.one (vi (O3 x f t))]:=by
 refine E7 Tryz.func229 fun W=>?_;refine Fp (Of x A7 hgo) ?_;refine C1 (fun h1=>?_) fun h1=>?_
 ·have h1:¬ Ax x:=Cv (by simpa [Au] using h1)
  refine As ?_;rw [O3,Ab (fun p=>h1 p.1)];exact D4
 have h1:Ax x:=Bn (show Au x=true by simpa using h1)
 refine As ?_;refine Lf (fun h2=>?_) fun h2=>?_
 ·refine As ?_
  rw [O3,Ab (fun p=>p.2.1 h2)];exact D4
 refine As ?_;refine Fp (Y8 x.az f t) ?_;rw [A7s h1 h2];exact D4
set_option maxHeartbeats 4000000 in
theorem A7h (x:A3)(f t:Int)(h:x.w≤16000000)(hgo:M6 x):Di 179 [.agg x.c,.one (vi f),.one (vi t)] [.agg (F6 x f t).1.c,.one (vb (F6 x f t).2)]:=by
 refine E7 Tryz.func179 fun W=>?_;refine Gf (Fc x A7) ?_;refine Fp (A7g x f t h hgo) ?_
 cases hL:decide (P5 x f t)
 ·have hL:¬ P5 x f t:=Cv hL
  rw [O3,Ab hL];refine As ?_;rw [Ls hL];exact D4
 have hL:P5 x f t:=Bn hL;have hC:=hL.1;have hln:=Q1 hC hL.2.2.1 hL.2.2.2;have hlk:(Ar x f t).toNat<x.ay.length:=by omega
 have hlw:=A3.link_le h hlk;have hog:=hgo _ (Al (d:=default) hlk);rw [O3,Ak hL];refine Vy B8l ?_;conv=>whnf
 refine B4 ?_;refine Lo (A7c (Bg x (Ar x f t)) (by show (x.ay.getD _ default).w≤_;omega) hog) rfl (Em ?_)
 refine Bi (j:=(Ar x f t)) A0 rfl (Ba (x.ay.set (Ar x f t).toNat (Et (Bg x (Ar x f t))).1)) (Cm hlk rfl) (Ah ?_);rw [W6 hL];exact D4
set_option maxHeartbeats 4000000 in
theorem B3j (x:A3)(f t:Int)(h:x.w≤8000000)(hgo:M6 x):Di 178 [.agg x.c,.one (vi f),.one (vi t)] [.agg (E9 x f t).1.c,.one (vb (E9 x f t).2)]:=by
 have h8:=h;have h:x.w≤16000000:=by omega
 refine E7 Tryz.func178 fun W=>?_;refine Gf (Fc x A7) ?_;refine Fp (A7g x f t h hgo) ?_
 cases hL:decide (P5 x f t)
 ·have hL:¬ P5 x f t:=Cv hL
  rw [O3,Ab hL];refine As ?_;rw [Oz hL];exact D4
 have hL:P5 x f t:=Bn hL;have hC:=hL.1;have hln:=Q1 hC hL.2.2.1 hL.2.2.2;have hlk:(Ar x f t).toNat<x.ay.length:=by omega
 have hlw:=A3.link_le h hlk;have hog:=hgo _ (Al (d:=default) hlk);rw [O3,Ak hL];refine Vy B8l ?_;conv=>whnf
 refine B4 ?_;refine Lo (B3r (Bg x (Ar x f t)) (by show (x.ay.getD _ default).w≤_;omega) hog) rfl (Ah ?_)
 refine C1 (fun h4=>?_) fun h4=>?_
 ·have h4:(Bp (Bg x (Ar x f t))).2.2=false:=by simpa using h4
  refine As ?_;rw [Yl h4];exact D4
 have h4:(Bp (Bg x (Ar x f t))).2.2=true:=by simpa using h4
 have hT:0<(Bg x (Ar x f t)).ar.length:=by
  rcases Nat.eq_zero_or_pos (Bg x (Ar x f t)).ar.length with e|e
  ·rw [Xx (fun p=>by omega)] at h4;cases h4
  exact e
 have hLA:=hC.2.2.1 _ hlk;have hLP:Hv (Bg x (Ar x f t)):=hLA.1;have hrec:(Bp (Bg x (Ar x f t))).2.1=(Bg x (Ar x f t)).ar.getD 0 default:=by rw [A19 ⟨hLP,hT⟩]
 have hRP:H5 (Bp (Bg x (Ar x f t))).2.1:=by rw [hrec];exact hLP.2 _ (Al hT)
 have hb:=hL.2.2.2;have hwl:=hC.1.2.1;have hk:t.toNat<x.aq.length:=by omega
 have hw:=A3.worker_le h8 hk;have hWP:=hC.2.1 _ (Al (d:=default) hk);refine As ?_;refine Bi (j:=(Ar x f t)) A0 rfl (Ba (x.ay.set (Ar x f t).toNat (Bp (Bg x (Ar x f t))).1)) (Cm hlk rfl) (Ah ?_)
 first|(refine Aj 9 rfl [0,1,2,3,4,5,6,7,8,9,10,11] Am (Ah ?_))
 refine B4 ?_;refine Lo (B3n (A8 x t) (Bp (Bg x (Ar x f t))).2.1 (by show (x.aq.getD _ default).w≤_;omega) hWP.2.2.2.1 hWP.2.1.1 hWP.2.1.2.1 hRP.2.1) rfl (Em ?_)
 refine Bi (j:=t) A0 rfl (Af (x.aq.set t.toNat (Im (A8 x t) (Bp (Bg x (Ar x f t))).2.1))) (Cm hk rfl) (Ah ?_);rw [A1v hL h4];exact D4
end Go.Proofs.YtmhcebdkjgkmlaaGreatDoor
