/- Part 37 of the proof that each of the laws FnScriptsBack returns true for every input. No conditions. -/
import Derived.Test.YtmhcebdkjgkmlaaGreatDoorR26
import Derived.Test.YtmhcebdkjgkmlaaGreatDoorR36
import Derived.Test.YtmhcebdkjgkmlaaGreatDoorR33

set_option linter.unusedSimpArgs false
set_option linter.unusedVariables false
set_option maxRecDepth 100000
namespace Go.Proofs.YtmhcebdkjgkmlaaGreatDoor
open Go.Sx
theorem B8l (x:A3)(w:Int)(h:x.w≤16000000):MtR (fun _=>True) 238 [] (rc x) [.one (vi w)] (fun _:Unit=>True) (fun _=>rc x) (fun _=>[.one (vb (decide (I3 x w)))]):=by
 have hwl:=A3.workers_le h;refine zeP Tryz.func238 fun B b hH hp=>?_;refine C2 (fun h1=>?_) fun h1=>?_
 ·have h1:B1 x:=Bp (show Av x=true from h1)
  refine Ar ?_;refine Ao (Hm w 0 (x.aq.length-1)) rfl (Ft ?_);rw [show F0 w 0 (x.aq.length-1)=decide (I3 x w) by rw [Lf,Go.Sx.Dj,Nq];exact ⟨fun p=>⟨h1,by omega,by omega⟩,fun p=>⟨p.2.1,by have:=p.2.2;omega⟩⟩]
  exact Iy () trivial
 refine Ar ?_;rw [show decide (I3 x w)=false from Cx fun p=>absurd p.1 (Cy (show Av x=false from h1))]
 exact Iy () trivial
set_option maxHeartbeats 4000000 in
theorem C0e (x:A3)(ok:Bool)(w e n:Int)(h0:0≤w)(hk:w.toNat<x.aq.length)(he:0≤e)(hke:e.toNat<(A8 x w).ai.length)(hs:Kb ((A8 x w).ai.getD e.toNat default))(hn: -1≤n∧n≤1):
  MtR (fun _=>True) 243 [] (rcb x ok) [.one (vi w),.one (vi e),.one (vi n)] (fun _:Unit=>True) (fun _=>rcb (Bf x w (J0 (A8 x w) e n)) (ok&&F0 ((A8 x w).ai.getD e.toNat default+n) (-1000000) 1000000)) (fun _=>[]):=by
 obtain ⟨s1,s2⟩:=hs;have hke2:e.toNat<(x.aq.getD w.toNat default).ai.length:=hke;have hg:(x.aq.getD w.toNat default).ai.getD e.toNat default=(A8 x w).ai.getD e.toNat default:=rfl;refine zeP Tryz.func243 fun B b hH hp=>?_
 first|(refine Ae 0 rfl [0,1,2,3,4,5,6,7,8,9,10,11,12,13,14,15,16,17,18,19,20,21,22,23,24,25] Ak (Ag ?_))
 refine B6 ?_;refine Ma A0 rfl (jn:=w.toNat) rfl rfl (fun v=>go A0 false ?_);conv=>whnf
 refine B6 ?_;refine N3 A0 rfl (Cw _ _ _) rfl (Ag ?_);refine He 26 6 rfl (F1 ?_);refine Bi (j:=e) A0 rfl (De ((x.aq.getD w.toNat default).ai.set e.toNat ((x.aq.getD w.toNat default).ai.getD e.toNat default+n))) (Cn hke2 rfl) (Ag ?_)
 cases ok
 ·refine Ar ?_
  refine Rp 2 (w.toNat) [(4,6)] (Ai (x.aq.set w.toNat (J0 (A8 x w) e n))) hk rfl rfl S0 rfl (Hv hk rfl) (I7 ?_);conv=>whnf
  exact D01 (Ke A0 () trivial rfl rfl rfl rfl I1)
 refine Ar ?_;refine N3 A0 rfl (Cw _ _ _) rfl (Ft ?_);refine He 47 6 rfl (Ft ?_);refine ⟨by (rw [K1];show _∧_;omega),?_⟩
 conv=>whnf
 refine Ar ?_;refine Ao (Hm (((x.aq.getD w.toNat default).ai.set e.toNat ((x.aq.getD w.toNat default).ai.getD e.toNat default+n)).getD e.toNat default) (-1000000) 1000000) rfl (Ft ?_);rw [Sx.getD_set_self _ _ _ _ hke2];refine Rp 2 (w.toNat) [(4,6)] (Ai (x.aq.set w.toNat (J0 (A8 x w) e n))) hk rfl rfl S0 rfl (Hv hk rfl) (I7 ?_);conv=>whnf
 exact D01 (Ke A0 () trivial rfl rfl rfl rfl I1)
variable {w : Int}
theorem A3i {x:A3}(hk:w.toNat<x.aq.length):Bf x w (A8 x w)=x:=by
 have e:x.aq.set w.toNat (x.aq.getD w.toNat default)=x.aq:=by
  apply List.ext_getElem
  ·simp
  intro i h1 h2;rw [List.getElem_set]
  split
  ·rename_i h;subst h;simp [List.getD,hk]
  rfl
 unfold Bf A8;rw [e]
variable {c : A3}
theorem Y4 (h:I3 c w)(hk:w.toNat<c.aq.length)(h2:¬ A2m c.az (A8 c w)):Fy c w=(c,false):=by
 rw [Tx h,A03 h2,A3i hk]
theorem Y3 (h:I3 c w)(h2:A2m c.az (A8 c w)):Fy c w=(Bf c w (Pa c.az (A8 c w)),true):=by
 rw [Tx h,A7z h2]
theorem Qn (h:I3 c w)(hk:w.toNat<c.aq.length)(h2:¬ V4 c.az (A8 c w)):Ey c w=(c,false):=by
 rw [S8 h,Sp h2,A3i hk]
theorem A6s (h:I3 c w)(h2:V4 c.az (A8 c w)):Ey c w=(Bf c w (Q6 (A8 c w)),true):=by
 rw [S8 h,B0f h2]
set_option maxHeartbeats 8000000 in
theorem C67 (x:A3)(w:Int)(h:x.w≤16000000):MtR (fun _=>True) 184 [] (rc x) [.one (vi w)] (fun _:Unit=>True) (fun _=>rcb (Fy x w).1 (Av x)) (fun _=>[.one (vb (Fy x w).2)]):=by
 refine zeP Tryz.func184 fun B b hH hp=>?_;refine Ix (B8l x w h) hH hp fun r hr=>?_;refine C2 (fun h1=>?_) fun h1=>?_
 ·have h1:¬ I3 x w:=Cy (by simpa using h1)
  refine Ar ?_;rw [A3c h1];exact Iy () trivial
 have h1:I3 x w:=Bp (show decide (I3 x w)=true by simpa using h1)
 have hC:=h1.1;have hb:=h1.2;have hk:w.toNat<x.aq.length:=by omega
 have hw:=A3.worker_le h hk;have hg:=A0a h;have hWP:=hC.2.1 _ (Am (d:=default) hk);have hww:(A8 x w).w≤16000000:=by show (x.aq.getD w.toNat default).w≤_;omega
 have hlw:=Og (x.aq.getD w.toNat default);refine Ar ?_;refine A3a A0 rfl hk rfl (fun u=>go A0 false ?_);conv=>whnf
 refine C2 (fun h3=>?_) fun h3=>?_
 ·have h3:¬ (A8 x w).bq.length=0:=by have:=Bp h3;simp only [A8];omega
  refine Ar ?_;rw [Y4 h1 hk (fun p=>h3 p.2.2.1)];refine Ge Tryz.prog 7 (w.toNat) [(0,11),(1,12),(2,13),(3,14),(4,15),(5,16),(6,17),(7,18)] (Ai x.aq) hk rfl S0 rfl (Cv rfl) ?_;exact Iy () trivial
 have h3:(A8 x w).bq.length=0:=by have:=Cy h3;simp only [A8];omega
 refine Ar ?_;refine Mf (fun h4=>?_) fun h4=>?_
 ·refine Ar ?_
  rw [Y4 h1 hk (fun p=>by have:=p.2.2.2;simp only [A8] at this;omega)];refine Ge Tryz.prog 7 (w.toNat) [(0,11),(1,12),(2,13),(3,14),(4,15),(5,16),(6,17),(7,18)] (Ai x.aq) hk rfl S0 rfl (Cv rfl) ?_;exact Iy () trivial
 have h4:0<(x.aq.getD w.toNat default).al.length:=by omega
 have hP:A2m x.az (A8 x w):=⟨hC.1.1,hWP,h3,h4⟩;have hR:=hWP.1.1 _ (Am (d:=default) h4);have hE:=hR.1.2.1;have hcl:(x.aq.getD w.toNat default).ao.length=4:=hWP.2.1.2.2;have hc:((x.aq.getD w.toNat default).al.getD 0 default).af.am.toNat<(x.aq.getD w.toNat default).ao.length:=by omega
 refine Ar ?_
 first|(refine Ae 7 rfl [0,1,2,3,4,5,6,7,8,9,10,11,12,13,14,15] Ak (Ag ?_))|(refine Ae 11 rfl [0,1,2,3,4,5,6] Ak (Ag ?_))|(refine Ae 13 rfl [0,1,2,3,4,5,6,7,8] Ak (Ag ?_))
 refine Hp (B8n x.az (x.aq.getD w.toNat default).cells ((x.aq.getD w.toNat default).al.getD 0 default) A7 A7) ?_;refine B24 A0 rfl (⟨by omega,by omega,by omega⟩) (Aa ((x.aq.getD w.toNat default).al.drop 1)) (Im (k:=1) h4) (Ag ?_);refine Bg A0 rfl (Aa ((x.aq.getD w.toNat default).al.drop 1)) (Bw) (fun _=>J1 _) (by (rw [Gm];omega)) (Ag ?_)
 first|(refine Ae 7 rfl [0,1,2,3,4,5,6,7,8,9,10,11,12,13,14,15] Ak (Ag ?_))|(refine Ae 11 rfl [0,1,2,3,4,5,6] Ak (Ag ?_))|(refine Ae 13 rfl [0,1,2,3,4,5,6,7,8] Ak (Ag ?_))
 refine Fh (B8j x.az ((x.aq.getD w.toNat default).al.getD 0 default) A7) ?_;refine C2 (fun h5=>?_) fun h5=>?_
 ·have h5:ae x.az ((A8 x w).al.getD 0 default)=true:=h5
  refine ⟨by (show 0≤((x.aq.getD w.toNat default).al.getD 0 default).af.am∧((x.aq.getD w.toNat default).al.getD 0 default).af.am<(x.aq.getD w.toNat default).ao.length;omega),?_⟩
  conv=>whnf
  refine Bi (j:=((x.aq.getD w.toNat default).al.getD 0 default).af.am) A0 rfl (Dz ((x.aq.getD w.toNat default).ao.set ((x.aq.getD w.toNat default).al.getD 0 default).af.am.toNat true)) (Cn hc rfl) (Ag ?_)
  first|(refine Ae 7 rfl [0,1,2,3,4,5,6,7,8,9,10,11,12,13,14,15] Ak (Ag ?_))|(refine Ae 11 rfl [0,1,2,3,4,5,6] Ak (Ag ?_))|(refine Ae 13 rfl [0,1,2,3,4,5,6,7,8] Ak (Ag ?_))
  refine B6 ?_;refine Bi (j:=w) A0 rfl (Ai (x.aq.set w.toNat (Pa x.az (A8 x w)))) (Ht hk (by rw [Pa,Ah h5];rfl)) (Ag ?_);rw [Y3 h1 hP];exact Iy () trivial
 have h5:ae x.az ((A8 x w).al.getD 0 default)=false:=h5
 first|(refine Ae 7 rfl [0,1,2,3,4,5,6,7,8,9,10,11,12,13,14,15] Ak (Ag ?_))|(refine Ae 11 rfl [0,1,2,3,4,5,6] Ak (Ag ?_))|(refine Ae 13 rfl [0,1,2,3,4,5,6,7,8] Ak (Ag ?_))
 refine B6 ?_;refine Bi (j:=w) A0 rfl (Ai (x.aq.set w.toNat (Pa x.az (A8 x w)))) (Ht hk (by rw [Pa,Ab (by rw [h5];decide)];rfl)) (Ag ?_);rw [Y3 h1 hP];exact Iy () trivial
set_option maxHeartbeats 8000000 in
theorem C24 (x:A3)(w:Int)(h:x.w≤16000000):MtR (fun _=>True) 185 [] (rc x) [.one (vi w)] (fun _:Unit=>True) (fun _=>rcb (Ey x w).1 (Av x)) (fun _=>[.one (vb (Ey x w).2)]):=by
 refine zeP Tryz.func185 fun B b hH hp=>?_;refine Ix (B8l x w h) hH hp fun r hr=>?_;refine C2 (fun h1=>?_) fun h1=>?_
 ·have h1:¬ I3 x w:=Cy (by simpa using h1)
  refine Ar ?_;rw [A0q h1];exact Iy () trivial
 have h1:I3 x w:=Bp (show decide (I3 x w)=true by simpa using h1)
 have hC:=h1.1;have hb:=h1.2;have hk:w.toNat<x.aq.length:=by omega
 have hw:=A3.worker_le h hk;have hg:=A0a h;have hWP:=hC.2.1 _ (Am (d:=default) hk);have hww:(A8 x w).w≤16000000:=by show (x.aq.getD w.toNat default).w≤_;omega
 have hlw:=Og (x.aq.getD w.toNat default);refine Ar ?_;refine A3a A0 rfl hk rfl (fun u=>go A0 false ?_);conv=>whnf
 refine C2 (fun h3=>?_) fun h3=>?_
 ·have h3:¬ (A8 x w).bq.length=0:=by have:=Bp h3;simp only [A8];omega
  refine Ar ?_;rw [Qn h1 hk (fun p=>h3 p.2.2.1)];refine Ge Tryz.prog 7 (w.toNat) [(0,11),(1,12),(2,13),(3,14),(4,15),(5,16),(6,17),(7,18)] (Ai x.aq) hk rfl S0 rfl (Cv rfl) ?_;exact Iy () trivial
 have h3:(A8 x w).bq.length=0:=by have:=Cy h3;simp only [A8];omega
 refine Ar ?_;refine C2 (fun h4=>?_) fun h4=>?_
 ·have h4:¬ (A8 x w).al.length=0:=by have:=Bp h4;simp only [A8];omega
  refine Ar ?_;rw [Qn h1 hk (fun p=>h4 p.2.2.2.1)];refine Ge Tryz.prog 7 (w.toNat) [(0,11),(1,12),(2,13),(3,14),(4,15),(5,16),(6,17),(7,18)] (Ai x.aq) hk rfl S0 rfl (Cv rfl) ?_;exact Iy () trivial
 have h4:(A8 x w).al.length=0:=by have:=Cy h4;simp only [A8];omega
 refine Ar ?_;refine Mf (fun h5=>?_) fun h5=>?_
 ·refine Ar ?_
  rw [Qn h1 hk (fun p=>by have:=p.2.2.2.2;simp only [A8] at this;omega)];refine Ge Tryz.prog 7 (w.toNat) [(0,11),(1,12),(2,13),(3,14),(4,15),(5,16),(6,17),(7,18)] (Ai x.aq) hk rfl S0 rfl (Cv rfl) ?_;exact Iy () trivial
 have h5:0<(x.aq.getD w.toNat default).ap.length:=by omega
 have hP:V4 x.az (A8 x w):=⟨hC.1.1,hWP,h3,h4,h5⟩;have hq0:(A8 x w).al=[]:=Pk h4;refine Ar ?_;refine Fi 20 (Aa [(x.aq.getD w.toNat default).ap.getD 0 default]) rfl (Cc rfl Td) ?_;refine B24 A0 rfl (⟨by omega,by omega,by omega⟩) (Aa ((x.aq.getD w.toNat default).ap.drop 1)) (Im (k:=1) h5) (Ag ?_);refine Bg A0 rfl (Aa ((x.aq.getD w.toNat default).ap.drop 1)) (Bw) (fun _=>J1 _) (by (rw [Gm];omega)) (Ag ?_)
 first|(refine Ae 8 rfl [0,1,2,3,4,5,6,7,8] Ak (Ag ?_))
 refine B6 ?_;refine Bi (j:=w) A0 rfl (Ai (x.aq.set w.toNat (Q6 (A8 x w)))) (Ht hk (by rw [Q6,hq0];rfl)) (Ag ?_);rw [A6s h1 hP];exact Iy () trivial
set_option maxHeartbeats 8000000 in
theorem B8k (x:A3)(f t:Int)(h:x.w≤16000000)(og:Js .i64 x.az.aq):MtR (fun _=>True) 188 [] (rc x) [.one (vi f),.one (vi t)] (fun _:Unit=>True) (fun _=>rcb (F5 x f t).1 (Av x)) (fun _=>[.one (vb (F5 x f t).2)]):=by
 refine zeP Tryz.func188 fun B b hH hp=>?_;refine Fh (Sc x.az f t og) ?_;refine C2 (fun hok=>?_) fun hok=>?_
 ·have hok:¬ B1 x:=Cy (show Av x=false by simpa using hok)
  refine Ar ?_;rw [Lv (fun p=>hok p.1)];exact Iy () trivial
 have hC:B1 x:=Bp (show Av x=true by simpa using hok)
 by_cases hne:f=t
 ·refine Ar ?_
  refine C2 (fun hz=>?_) fun hz=>?_
  ·refine Ar ?_
   rw [Lv (fun p=>p.2.1 hne)];exact Iy () trivial
  refine Ar ?_;refine Mf (fun hft=>?_) fun hft=>?_
  ·refine Ar ?_
   rw [Lv (fun p=>p.2.1 hne)];exact Iy () trivial
  exact absurd hne hft
 rw [A57 hC hne]
 cases hLd:decide (P0 x f t)
 ·have hL:¬ P0 x f t:=Cy hLd
  rw [Nz,Ab hL];refine Ar ?_;rw [Lv hL];exact Iy () trivial
 have hL:P0 x f t:=Bp hLd;have hln:=Q0 hC hL.2.2.1 hL.2.2.2;have hlk:(Ap x f t).toNat<x.ak.length:=by omega
 have hlw:=A3.link_le h hlk;rw [Nz,Ah hL];refine Ar ?_;refine C2 (fun hz=>?_) fun hz=>?_
 ·have:=Bp hz
  omega
 refine Ar ?_;refine Mf (fun hft=>?_) fun hft=>?_
 ·exact absurd hft hne
 refine Ar ?_;refine A3a A0 rfl hlk rfl (fun u=>go A0 false ?_);conv=>whnf
 refine Nm (A7h (Bd x (Ap x f t)) (by show (x.ak.getD _ default).w≤_;omega)) rfl (Ag ?_)
 first|(refine Ae 5 rfl [0,1,2,3,4,5,6,7,8] Ak (Ag ?_))
 refine B6 ?_;refine Bi (j:=(Ap x f t)) A0 rfl (Bo (x.ak.set (Ap x f t).toNat (Eg (Bd x (Ap x f t))).1)) (Ht hlk rfl) (Ag ?_);rw [Vt hL];exact Iy () trivial
theorem B6c (n:Int):F0 n (-1000000) 1000000=decide (Kb n):=by
 rw [Lf,Go.Sx.Dj,Nq];exact Iff.rfl
variable {c : A3}
theorem C7i {f t:Int}(h:B1 c)(h2:(Ek c f t).2=true):Av (Ek c f t).1=decide (Kb (B27 c f t)):=by
 rw [A3b h,Ah h2]
theorem A4a {t:Int}{W:Aj}(hk:t.toNat<c.aq.length):A8 (Bf c t W) t=W:=by
 unfold A8 Bf;exact Sx.getD_set_self _ _ _ _ hk
theorem Q2 {t:Int}{W V:Aj}:Bf (Bf c t W) t V=Bf c t V:=by
 unfold Bf;rw [List.set_set]
set_option maxHeartbeats 8000000 in
theorem C66 (x:A3)(f t:Int)(h:x.w≤8000000)(og:Js .i64 x.az.aq):MtR (fun _=>True) 187 [] (rc x) [.one (vi f),.one (vi t)] (fun _:Unit=>True) (fun _=>rc (Ek x f t).1) (fun _=>[.one (vb (Ek x f t).2)]):=by
 have h8:=h;have h:x.w≤16000000:=by omega
 refine zeP Tryz.func187 fun B b hH hp=>?_;refine Fh (Sc x.az f t og) ?_;refine C2 (fun hok=>?_) fun hok=>?_
 ·have hok:¬ B1 x:=Cy (show Av x=false by simpa using hok)
  refine Ar ?_;rw [On (fun p=>hok p.1)];exact Iy () trivial
 have hC:B1 x:=Bp (show Av x=true by simpa using hok)
 by_cases hne:f=t
 ·refine Ar ?_
  refine C2 (fun hz=>?_) fun hz=>?_
  ·refine Ar ?_
   rw [On (fun p=>p.2.1 hne)];exact Iy () trivial
  refine Ar ?_;refine Mf (fun hft=>?_) fun hft=>?_
  ·refine Ar ?_
   rw [On (fun p=>p.2.1 hne)];exact Iy () trivial
  exact absurd hne hft
 rw [A57 hC hne]
 cases hLd:decide (P0 x f t)
 ·have hL:¬ P0 x f t:=Cy hLd
  rw [Nz,Ab hL];refine Ar ?_;rw [On hL];exact Iy () trivial
 have hL:P0 x f t:=Bp hLd;have hln:=Q0 hC hL.2.2.1 hL.2.2.2;have hlk:(Ap x f t).toNat<x.ak.length:=by omega
 have hlw:=A3.link_le h hlk;rw [Nz,Ah hL];refine Ar ?_;refine C2 (fun hz=>?_) fun hz=>?_
 ·have:=Bp hz
  omega
 refine Ar ?_;refine Mf (fun hft=>?_) fun hft=>?_
 ·exact absurd hft hne
 refine Ar ?_;refine A3a A0 rfl hlk rfl (fun u=>go A0 false ?_);conv=>whnf
 refine Nm (B22 (Bd x (Ap x f t)) (by show (x.ak.getD _ default).w≤_;omega)) rfl (Ag ?_)
 refine C2 (fun h4=>?_) fun h4=>?_
 ·have h4:(Bq (Bd x (Ap x f t))).2.2=false:=by simpa using h4
  refine Ar ?_;rw [Y2 h4];refine Ge Tryz.prog 3 ((Ap x f t).toNat) [(1,6)] (Bo x.ak) hlk rfl S0 rfl (Cv rfl) ?_;exact Iy () trivial
 have h4:(Bq (Bd x (Ap x f t))).2.2=true:=by simpa using h4
 have hT:0<(Bd x (Ap x f t)).al.length:=by
  rcases Nat.eq_zero_or_pos (Bd x (Ap x f t)).al.length with e|e
  ·rw [Xe (fun p=>by omega)] at h4;cases h4
  exact e
 have hLA:=hC.2.2.1 _ hlk;have hLP:It (Bd x (Ap x f t)):=hLA.1;have hrec:(Bq (Bd x (Ap x f t))).2.1=(Bd x (Ap x f t)).al.getD 0 default:=by rw [A01 ⟨hLP,hT⟩]
 have hRP:H8 (Bq (Bd x (Ap x f t))).2.1:=by rw [hrec];exact hLP.2 _ (Am hT)
 have hb:=hL.2.2.2;have hwl:=hC.1.2.1;have hk:t.toNat<x.aq.length:=by omega
 have hw:=A3.worker_le h8 hk;have hWP:=hC.2.1 _ (Am (d:=default) hk);have hql:=(Og (x.aq.getD t.toNat default)).1;have hyes:=A0s hL h4;have hfl:=C7i hC (show (Ek x f t).2=true by rw [hyes])
 refine Ar ?_
 first|(refine Ae 7 rfl [0,1,2,3,4,5,6,7,8] Ak (Ag ?_))|(refine Ae 8 rfl [0,1,2,3,4,5,6,7,8,9,10,11,12,13,14,15,16,17,18,19,20] Ak (Ag ?_))|(refine Ae 9 rfl [0,1,2,3,4,5,6,7,8,9,10,11,12,13] Ak (Ag ?_))
 refine B6 ?_;refine Bi (j:=(Ap x f t)) A0 rfl (Bo (x.ak.set (Ap x f t).toNat (Bq (Bd x (Ap x f t))).1)) (Ht hlk rfl) (Ag ?_);generalize hR:(Bq (Bd x (Ap x f t))).2.1=R at *;generalize hLk:(Bq (Bd x (Ap x f t))).1=LK at *;refine Yt 0 3 2 rfl rfl (fun v2=>?_);refine A6h 0 3 rfl rfl (fun ho_v2=>?_);refine Jd rfl (E4 0 rfl (E4 1 rfl (E4 2 rfl (E4 3 rfl (E4 5 rfl (E4 6 rfl (E4 7 rfl (E4 8 rfl (E4 9 rfl (E4 11 rfl ?_))))))))));refine Lw (s':=?_) 10 rfl Ak ?_ ?_;rotate_left;refine Ag ?_;refine He 66 2 rfl (F1 ?_);exact C8
 refine Pb 12 ?_;refine E4 13 rfl ?_;refine Vw (α:=Value) (s':=?_) 14 rfl Ak ?_ ?_;rotate_left;refine Ag ?_;refine Ma A0 rfl (jn:=t.toNat) rfl rfl (fun v=>go A0 false ?_);conv=>whnf
 exact A2t v
 intro v;refine Pb 15 ?_;refine Np [16,17,18,19,20] [⟨4,60,.rd v2⟩] Ak ?_;refine Mt rfl Dt ?_;refine La (s':=?_) rfl Dt ?_ ?_;rotate_left;refine Ag ?_;refine Bg A0 rfl (Aa ((x.aq.getD t.toNat default).al++[R])) (An rfl) Ij A7 (Ag ?_);exact C8
 refine La (s':=?_) rfl Dt ?_ ?_;rotate_left;refine Ag ?_;refine He 60 2 rfl (F1 ?_);exact C8
 refine Mt rfl Dt ?_;refine La (s':=?_) rfl Dt ?_ ?_;rotate_left;refine Ag ?_;refine Bi (j:=t) A0 rfl (Ai (Bf x t (kept (A8 x t) R)).aq) (Ht hk rfl) (Ag ?_);exact C8
 refine Lt A0 Ak Dt (GW.out (I7 ?_));conv=>whnf
 refine Yr 0 3 2 rfl rfl rfl ?_;have hsl:(Bf x t (kept (A8 x t) R)).aq.length=x.aq.length:=K1;have hk1:t.toNat<(Bf x t (kept (A8 x t) R)).aq.length:=by omega
 have hg1:(Bf x t (kept (A8 x t) R)).aq.getD t.toNat default=kept (A8 x t) R:=A4a hk;have hbl:((Bf x t (kept (A8 x t) R)).aq.getD t.toNat default).ah.length=4:=by rw [hg1];exact hWP.2.1.2.1
 have hE:=hRP.2.1;have hbk:R.af.am.toNat<((Bf x t (kept (A8 x t) R)).aq.getD t.toNat default).ah.length:=by omega
 first|(refine Ae 7 rfl [0,1,2,3,4,5,6,7,8] Ak (Ag ?_))|(refine Ae 8 rfl [0,1,2,3,4,5,6,7,8,9,10,11,12,13,14,15,16,17,18,19,20] Ak (Ag ?_))|(refine Ae 9 rfl [0,1,2,3,4,5,6,7,8,9,10,11,12,13] Ak (Ag ?_))
 refine B6 ?_;refine Ma A0 rfl (jn:=t.toNat) rfl rfl (fun v3=>go A0 false ?_);conv=>whnf
 refine B6 ?_;refine Bi (j:=R.af.am) A0 rfl (Dz (((Bf x t (kept (A8 x t) R)).aq.getD t.toNat default).ah.set R.af.am.toNat true)) (Cn hbk rfl) (Ag ?_);refine B8i 2 (t.toNat) [(5,13)] (Ai (Bf (Bf (Ds x (Ap x f t) LK) t (kept (A8 x t) R)) t (Q8 (kept (A8 x t) R) R.af.am)).aq) hk1 rfl rfl S0 rfl (Hv hk1 (by rw [hg1];rfl)) ?_;have hk0:t.toNat<(Ds x (Ap x f t) LK).aq.length:=hk;have hk2:t.toNat<(Bf (Bf (Ds x (Ap x f t) LK) t (kept (A8 x t) R)) t (Q8 (kept (A8 x t) R) R.af.am)).aq.length:=by rw [Q2];show t.toNat<(x.aq.set _ _).length;rw [K1];exact hk
 have hw2:A8 (Bf (Bf (Ds x (Ap x f t) LK) t (kept (A8 x t) R)) t (Q8 (kept (A8 x t) R) R.af.am)) t=Q8 (kept (A8 x t) R) R.af.am:=by rw [Q2];exact A4a hk0
 have hs4:(A8 x t).ai.length=4:=hWP.2.1.1;refine A2q (C0e (Bf (Bf (Ds x (Ap x f t) LK) t (kept (A8 x t) R)) t (Q8 (kept (A8 x t) R) R.af.am)) (Av x) t R.af.am (-1) A7 hk2 A7 (by rw [hw2];show R.af.am.toNat<(A8 x t).ai.length;omega) (by rw [hw2];exact hWP.2.2.2.1 _ (Am (by show R.af.am.toNat<(A8 x t).ai.length;omega))) Bk) hH hp rfl I1 rfl rfl (fun r hr=>go A0 false ?_)
 conv=>whnf
 rw [hw2,Q2,Q2];have hcs:Av x=true:=D7 hC
 have hz:rc (Ek x f t).1=rcb (Bf (Ds x (Ap x f t) LK) t (J0 (Q8 (kept (A8 x t) R) R.af.am) R.af.am (-1))) (Av x&&F0 ((Q8 (kept (A8 x t) R) R.af.am).ai.getD R.af.am.toNat default+ -1) (-1000000) 1000000):=by
  show rcb (Ek x f t).1 (Av (Ek x f t).1)=_
  rw [hfl,hyes,hcs,Ux,B6c,A3f (w:=A8 x t) hWP.2.1.1 hWP.2.1.2.1 hE]
  show rcb _ (decide (Kb ((A8 x t).ai.getD (U9 x f t).af.am.toNat default+ -1)))=_
  rw [show U9 x f t=R from hR]
  rfl
 rw [hz,hyes];exact Iy () trivial
end Go.Proofs.YtmhcebdkjgkmlaaGreatDoor
