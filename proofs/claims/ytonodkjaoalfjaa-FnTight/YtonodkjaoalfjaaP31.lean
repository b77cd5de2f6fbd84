/- Part 31 of the proof that each of the laws FnTight returns true for every input. No conditions. -/
import Derived.Test.YtonodkjaoalfjaaP28
import Derived.Test.YtonodkjaoalfjaaP30
import Derived.Test.YtonodkjaoalfjaaP16

set_option linter.unusedSimpArgs false
set_option linter.unusedVariables false
set_option maxRecDepth 100000
namespace Go.Proofs.Ytonodkjaoalfjaa
open Go.Sx
theorem Xe (x:A3)(w:Int)(h:x.w≤16000000):Dq Try.prog (fun _=>True) 64 [] (rc x) [.one (vi w)] (fun _:Unit=>True) (fun _=>rc x) (fun _=>[.one (vb (decide (Fi x w)))]):=by
 have hwl:=A3.workers_le h
 refine Ex A0 false Try.func64 rfl Cb fun B b hH hp=>?_
 conv=>whnf
 refine ⟨fun h1=>?_,fun h1=>?_⟩<;>conv=>whnf
 ·have h1:Ar x:=of_decide_eq_true (show Aq x=true from h1)
  repeat refine Bg ?_
  (repeat refine Ak ?_)
  refine B7 (Er w 0 (x.workers.length-1)) rfl (Af ?_)
  repeat refine Bg ?_
  rw [show Ek w 0 (x.workers.length-1)=decide (Fi x w) by rw [Bool.eq_iff_iff,Go.Sx.Al,decide_eq_true_eq];exact ⟨fun p=>⟨h1,by omega,by omega⟩,fun p=>⟨p.2.1,by have:=p.2.2;omega⟩⟩]
  exact C9 A0 () trivial rfl rfl rfl rfl C1
 ·repeat refine Bg ?_
  rw [show decide (Fi x w)=false from decide_eq_false fun p=>absurd p.1 (of_decide_eq_false (show Aq x=false from h1))]
  exact C9 A0 () trivial rfl rfl rfl rfl C1
set_option maxHeartbeats 4000000 in
theorem Z6 (x:A3)(ok:Bool)(w e n:Int)(h0:0≤w)(hk:w.toNat<x.workers.length)(he:0≤e)(hke:e.toNat<(A9 x w).sums.length)(hs:Gu ((A9 x w).sums.getD e.toNat default))(hn: -1≤n∧n≤1):
  Dq Try.prog (fun _=>True) 67 [] (O4 x ok) [.one (vi w),.one (vi e),.one (vi n)] (fun _:Unit=>True) (fun _=>O4 (Av x w (Em (A9 x w) e n)) (ok&&Ek ((A9 x w).sums.getD e.toNat default+n) (-1000000) 1000000)) (fun _=>[]):=by
 obtain ⟨s1,s2⟩:=hs
 have hke2:e.toNat<(x.workers.getD w.toNat default).sums.length:=hke
 have hg:(x.workers.getD w.toNat default).sums.getD e.toNat default=(A9 x w).sums.getD e.toNat default:=rfl
 refine Ex A0 false Try.func67 rfl Cb fun B b hH hp=>?_
 conv=>whnf
 first|(refine At 0 rfl [0,1,2,3,4,5,6,7,8,9,10,11,12,13,14,15,16,17,18,19,20,21,22,23,24,25] A6 (Af ?_))
 (repeat refine Ak ?_)
 refine Gk A0 rfl rfl rfl rfl rfl rfl (jn:=w.toNat) rfl rfl rfl (fun v=>go A0 false ?_)
 conv=>whnf
 (repeat refine Ak ?_)
 refine A2v A0 rfl rfl rfl rfl rfl rfl (jn:=w.toNat) rfl (F7 _ _ _) rfl (Af ?_)
 refine I3 26 6 rfl rfl (Af ?_)
 (repeat refine Ak ?_)
 refine Cu (j:=e) A0 rfl rfl rfl rfl rfl rfl rfl rfl (Ds ((x.workers.getD w.toNat default).sums.set e.toNat ((x.workers.getD w.toNat default).sums.getD e.toNat default+n))) (Do hke2 rfl) (Af ?_)
 cases ok
 ·repeat refine Bg ?_
  refine K8 2 (w.toNat) [(4,6)] (Ap (x.workers.set w.toNat (Em (A9 x w) e n))) hk rfl rfl Lt rfl (Hc hk rfl) (J4 ?_)
  conv=>whnf
  exact A6e (C9 A0 () trivial rfl rfl rfl rfl C1)
 ·repeat refine Bg ?_
  (repeat refine Ak ?_)
  refine A2v A0 rfl rfl rfl rfl rfl rfl (jn:=w.toNat) rfl (F7 _ _ _) rfl (Af ?_)
  repeat refine Bg ?_
  refine I3 47 6 rfl rfl (Af ?_)
  repeat refine Bg ?_
  refine ⟨by (rw [List.length_set];show _∧_;omega),?_⟩
  conv=>whnf
  repeat refine Bg ?_
  refine B7 (Er (((x.workers.getD w.toNat default).sums.set e.toNat ((x.workers.getD w.toNat default).sums.getD e.toNat default+n)).getD e.toNat default) (-1000000) 1000000) rfl (Af ?_)
  repeat refine Bg ?_
  rw [Sx.getD_set_self _ _ _ _ hke2]
  refine K8 2 (w.toNat) [(4,6)] (Ap (x.workers.set w.toNat (Em (A9 x w) e n))) hk rfl rfl Lt rfl (Hc hk rfl) (J4 ?_)
  conv=>whnf
  exact A6e (C9 A0 () trivial rfl rfl rfl rfl C1)
theorem P3 {x:A3}{w:Int}(hk:w.toNat<x.workers.length):Av x w (A9 x w)=x:=by
 have e:x.workers.set w.toNat (x.workers.getD w.toNat default)=x.workers:=by
  apply List.ext_getElem
  ·simp
  ·intro i h1 h2
   rw [List.getElem_set]
   split
   ·rename_i h;subst h;simp [List.getD,hk]
   ·rfl
 unfold Av A9
 rw [e]
theorem Li {c:A3}{w:Int}(h:Fi c w)(hk:w.toNat<c.workers.length)(h2:¬ Of c.graph (A9 c w)):Df c w=(c,false):=by
 rw [N5 h,A5z h2,P3 hk]
theorem Lh {c:A3}{w:Int}(h:Fi c w)(h2:Of c.graph (A9 c w)):Df c w=(Av c w (J3 c.graph (A9 c w)),true):=by
 rw [N5 h,A4c h2]
theorem I6 {c:A3}{w:Int}(h:Fi c w)(hk:w.toNat<c.workers.length)(h2:¬ Kc c.graph (A9 c w)):Ct c w=(c,false):=by
 rw [Lg h,A2k h2,P3 hk]
theorem Qx {c:A3}{w:Int}(h:Fi c w)(h2:Kc c.graph (A9 c w)):Ct c w=(Av c w (Hy (A9 c w)),true):=by
 rw [Lg h,A0f h2]
set_option maxHeartbeats 8000000 in
theorem A3x (x:A3)(w:Int)(h:x.w≤16000000):Dq Try.prog (fun _=>True) 55 [] (rc x) [.one (vi w)] (fun _:Unit=>True) (fun _=>O4 (Df x w).1 (Aq x)) (fun _=>[.one (vb (Df x w).2)]):=by
 refine Ex A0 false Try.func55 rfl Cb fun B b hH hp=>?_
 conv=>whnf
 refine Cm (Xe x w h) hH hp rfl C1 rfl rfl (fun r hr=>go A0 false ?_)
 conv=>whnf
 refine ⟨fun h1=>?_,fun h1=>?_⟩<;>conv=>whnf
 ·have h1:¬ Fi x w:=of_decide_eq_false (by simpa using h1)
  repeat refine Bg ?_
  rw [Vk h1]
  exact C9 A0 () trivial rfl rfl rfl rfl C1
 have h1:Fi x w:=of_decide_eq_true (show decide (Fi x w)=true by simpa using h1)
 have hC:=h1.1
 have hb:=h1.2
 have hk:w.toNat<x.workers.length:=by omega
 have hw:=A3.worker_le h hk
 have hg:=Yf h
 have hWP:=hC.2.1 _ (B9 (d:=default) hk)
 have hww:(A9 x w).w≤16000000:=by show (x.workers.getD w.toNat default).w≤_;omega
 have hlw:=Pj (x.workers.getD w.toNat default)
 repeat refine Bg ?_
 (repeat refine Ak ?_)
 refine Qv A0 rfl rfl rfl rfl rfl (jn:=w.toNat) rfl (r:=Ad.c ((x.workers).getD (w.toNat) default)) rfl hk rfl rfl (fun u=>go A0 false ?_)
 conv=>whnf
 refine ⟨fun h3=>?_,fun h3=>?_⟩<;>conv=>whnf
 ·have h3:¬ (A9 x w).staged.length=0:=by have:=of_decide_eq_true h3;simp only [A9];omega
  repeat refine Bg ?_
  rw [Li h1 hk (fun p=>h3 p.2.2.1)]
  refine Fb Try.prog 7 (w.toNat) [(0,11),(1,12),(2,13),(3,14),(4,15),(5,16),(6,17),(7,18)] (Ap x.workers) hk rfl rfl Lt rfl (C7 rfl) ?_
  exact C9 A0 () trivial rfl rfl rfl rfl C1
 have h3:(A9 x w).staged.length=0:=by have:=of_decide_eq_false h3;simp only [A9];omega
 repeat refine Bg ?_
 refine ⟨fun h4=>have h4:=eq_of_beq h4;?_,fun h4=>have h4:=beq_eq_false_iff_ne.1 h4;?_⟩<;>conv=>whnf
 ·repeat refine Bg ?_
  rw [Li h1 hk (fun p=>by have:=p.2.2.2;simp only [A9] at this;omega)]
  refine Fb Try.prog 7 (w.toNat) [(0,11),(1,12),(2,13),(3,14),(4,15),(5,16),(6,17),(7,18)] (Ap x.workers) hk rfl rfl Lt rfl (C7 rfl) ?_
  exact C9 A0 () trivial rfl rfl rfl rfl C1
 have h4:0<(x.workers.getD w.toNat default).queue.length:=by omega
 have hP:Of x.graph (A9 x w):=⟨hC.1.1,hWP,h3,h4⟩
 have hR:=hWP.1.1 _ (B9 (d:=default) h4)
 have hE:=hR.1.2.1
 have hcl:(x.workers.getD w.toNat default).caps.length=4:=hWP.2.1.2.2
 have hc:((x.workers.getD w.toNat default).queue.getD 0 default).stamp.epoch.toNat<(x.workers.getD w.toNat default).caps.length:=by omega
 repeat refine Bg ?_
 (repeat refine Ak ?_)
 first|(refine At 7 rfl [0,1,2,3,4,5,6,7,8,9,10,11,12,13,14,15] A6 (Af ?_))|(refine At 11 rfl [0,1,2,3,4,5,6] A6 (Af ?_))|(refine At 13 rfl [0,1,2,3,4,5,6,7,8] A6 (Af ?_))
 refine Dk (Xf x.graph (x.workers.getD w.toNat default).cells ((x.workers.getD w.toNat default).queue.getD 0 default) Ag Ag) rfl (Af ?_)
 refine A33 A0 rfl rfl rfl rfl rfl rfl rfl rfl (l:=1) rfl rfl (⟨by omega,by omega,by omega⟩) (A8 ((x.workers.getD w.toNat default).queue.drop 1)) (G5 (k:=1) h4) (Af ?_)
 refine B4 A0 rfl rfl rfl rfl rfl rfl rfl rfl rfl rfl rfl (A8 ((x.workers.getD w.toNat default).queue.drop 1)) (Ah) (fun _=>Aj _) (by (rw [List.length_drop];omega)) (Af ?_)
 first|(refine At 7 rfl [0,1,2,3,4,5,6,7,8,9,10,11,12,13,14,15] A6 (Af ?_))|(refine At 11 rfl [0,1,2,3,4,5,6] A6 (Af ?_))|(refine At 13 rfl [0,1,2,3,4,5,6,7,8] A6 (Af ?_))
 refine B7 (Xc x.graph ((x.workers.getD w.toNat default).queue.getD 0 default) Ag) rfl (Af ?_)
 refine ⟨fun h5=>?_,fun h5=>?_⟩<;>conv=>whnf
 ·have h5:capped x.graph ((A9 x w).queue.getD 0 default)=true:=h5
  refine ⟨by (show 0≤((x.workers.getD w.toNat default).queue.getD 0 default).stamp.epoch∧((x.workers.getD w.toNat default).queue.getD 0 default).stamp.epoch<(x.workers.getD w.toNat default).caps.length;omega),?_⟩
  conv=>whnf
  refine Cu (j:=((x.workers.getD w.toNat default).queue.getD 0 default).stamp.epoch) A0 rfl rfl rfl rfl rfl rfl rfl rfl (Ei ((x.workers.getD w.toNat default).caps.set ((x.workers.getD w.toNat default).queue.getD 0 default).stamp.epoch.toNat true)) (Do hc rfl) (Af ?_)
  first|(refine At 7 rfl [0,1,2,3,4,5,6,7,8,9,10,11,12,13,14,15] A6 (Af ?_))|(refine At 11 rfl [0,1,2,3,4,5,6] A6 (Af ?_))|(refine At 13 rfl [0,1,2,3,4,5,6,7,8] A6 (Af ?_))
  (repeat refine Ak ?_)
  refine Cu (j:=w) A0 rfl rfl rfl rfl rfl rfl rfl rfl (Ap (x.workers.set w.toNat (J3 x.graph (A9 x w)))) (Ee hk (by rw [J3,if_pos h5];rfl)) (Af ?_)
  rw [Lh h1 hP]
  exact C9 A0 () trivial rfl rfl rfl rfl C1
 ·have h5:capped x.graph ((A9 x w).queue.getD 0 default)=false:=h5
  first|(refine At 7 rfl [0,1,2,3,4,5,6,7,8,9,10,11,12,13,14,15] A6 (Af ?_))|(refine At 11 rfl [0,1,2,3,4,5,6] A6 (Af ?_))|(refine At 13 rfl [0,1,2,3,4,5,6,7,8] A6 (Af ?_))
  (repeat refine Ak ?_)
  refine Cu (j:=w) A0 rfl rfl rfl rfl rfl rfl rfl rfl (Ap (x.workers.set w.toNat (J3 x.graph (A9 x w)))) (Ee hk (by rw [J3,if_neg (by rw [h5];decide)];rfl)) (Af ?_)
  rw [Lh h1 hP]
  exact C9 A0 () trivial rfl rfl rfl rfl C1
set_option maxHeartbeats 8000000 in
theorem A01 (x:A3)(w:Int)(h:x.w≤16000000):Dq Try.prog (fun _=>True) 56 [] (rc x) [.one (vi w)] (fun _:Unit=>True) (fun _=>O4 (Ct x w).1 (Aq x)) (fun _=>[.one (vb (Ct x w).2)]):=by
 refine Ex A0 false Try.func56 rfl Cb fun B b hH hp=>?_
 conv=>whnf
 refine Cm (Xe x w h) hH hp rfl C1 rfl rfl (fun r hr=>go A0 false ?_)
 conv=>whnf
 refine ⟨fun h1=>?_,fun h1=>?_⟩<;>conv=>whnf
 ·have h1:¬ Fi x w:=of_decide_eq_false (by simpa using h1)
  repeat refine Bg ?_
  rw [U4 h1]
  exact C9 A0 () trivial rfl rfl rfl rfl C1
 have h1:Fi x w:=of_decide_eq_true (show decide (Fi x w)=true by simpa using h1)
 have hC:=h1.1
 have hb:=h1.2
 have hk:w.toNat<x.workers.length:=by omega
 have hw:=A3.worker_le h hk
 have hg:=Yf h
 have hWP:=hC.2.1 _ (B9 (d:=default) hk)
 have hww:(A9 x w).w≤16000000:=by show (x.workers.getD w.toNat default).w≤_;omega
 have hlw:=Pj (x.workers.getD w.toNat default)
 repeat refine Bg ?_
 (repeat refine Ak ?_)
 refine Qv A0 rfl rfl rfl rfl rfl (jn:=w.toNat) rfl (r:=Ad.c ((x.workers).getD (w.toNat) default)) rfl hk rfl rfl (fun u=>go A0 false ?_)
 conv=>whnf
 refine ⟨fun h3=>?_,fun h3=>?_⟩<;>conv=>whnf
 ·have h3:¬ (A9 x w).staged.length=0:=by have:=of_decide_eq_true h3;simp only [A9];omega
  repeat refine Bg ?_
  rw [I6 h1 hk (fun p=>h3 p.2.2.1)]
  refine Fb Try.prog 7 (w.toNat) [(0,11),(1,12),(2,13),(3,14),(4,15),(5,16),(6,17),(7,18)] (Ap x.workers) hk rfl rfl Lt rfl (C7 rfl) ?_
  exact C9 A0 () trivial rfl rfl rfl rfl C1
 have h3:(A9 x w).staged.length=0:=by have:=of_decide_eq_false h3;simp only [A9];omega
 repeat refine Bg ?_
 refine ⟨fun h4=>?_,fun h4=>?_⟩<;>conv=>whnf
 ·have h4:¬ (A9 x w).queue.length=0:=by have:=of_decide_eq_true h4;simp only [A9];omega
  repeat refine Bg ?_
  rw [I6 h1 hk (fun p=>h4 p.2.2.2.1)]
  refine Fb Try.prog 7 (w.toNat) [(0,11),(1,12),(2,13),(3,14),(4,15),(5,16),(6,17),(7,18)] (Ap x.workers) hk rfl rfl Lt rfl (C7 rfl) ?_
  exact C9 A0 () trivial rfl rfl rfl rfl C1
 have h4:(A9 x w).queue.length=0:=by have:=of_decide_eq_false h4;simp only [A9];omega
 repeat refine Bg ?_
 refine ⟨fun h5=>have h5:=eq_of_beq h5;?_,fun h5=>have h5:=beq_eq_false_iff_ne.1 h5;?_⟩<;>conv=>whnf
 ·repeat refine Bg ?_
  rw [I6 h1 hk (fun p=>by have:=p.2.2.2.2;simp only [A9] at this;omega)]
  refine Fb Try.prog 7 (w.toNat) [(0,11),(1,12),(2,13),(3,14),(4,15),(5,16),(6,17),(7,18)] (Ap x.workers) hk rfl rfl Lt rfl (C7 rfl) ?_
  exact C9 A0 () trivial rfl rfl rfl rfl C1
 have h5:0<(x.workers.getD w.toNat default).inputs.length:=by omega
 have hP:Kc x.graph (A9 x w):=⟨hC.1.1,hWP,h3,h4,h5⟩
 have hq0:(A9 x w).queue=[]:=List.eq_nil_of_length_eq_zero h4
 repeat refine Bg ?_
 (repeat refine Ak ?_)
 refine Du 20 (A8 [(x.workers.getD w.toNat default).inputs.getD 0 default]) rfl (Cn rfl D8) ?_
 refine A33 A0 rfl rfl rfl rfl rfl rfl rfl rfl (l:=1) rfl rfl (⟨by omega,by omega,by omega⟩) (A8 ((x.workers.getD w.toNat default).inputs.drop 1)) (G5 (k:=1) h5) (Af ?_)
 refine B4 A0 rfl rfl rfl rfl rfl rfl rfl rfl rfl rfl rfl (A8 ((x.workers.getD w.toNat default).inputs.drop 1)) (Ah) (fun _=>Aj _) (by (rw [List.length_drop];omega)) (Af ?_)
 first|(refine At 8 rfl [0,1,2,3,4,5,6,7,8] A6 (Af ?_))
 (repeat refine Ak ?_)
 refine Cu (j:=w) A0 rfl rfl rfl rfl rfl rfl rfl rfl (Ap (x.workers.set w.toNat (Hy (A9 x w)))) (Ee hk (by rw [Hy,hq0];rfl)) (Af ?_)
 rw [Qx h1 hP]
 exact C9 A0 () trivial rfl rfl rfl rfl C1
set_option maxHeartbeats 8000000 in
theorem Xd (x:A3)(f t:Int)(h:x.w≤16000000)(og:Gs .i64 x.graph.workers):Dq Try.prog (fun _=>True) 58 [] (rc x) [.one (vi f),.one (vi t)] (fun _:Unit=>True) (fun _=>O4 (Cq x f t).1 (Aq x)) (fun _=>[.one (vb (Cq x f t).2)]):=by
 refine Ex A0 false Try.func58 rfl Cb fun B b hH hp=>?_
 conv=>whnf
 refine B7 (J0 x.graph f t og) rfl (Af ?_)
 refine ⟨fun hok=>?_,fun hok=>?_⟩<;>conv=>whnf
 ·have hok:¬ Ar x:=of_decide_eq_false (show Aq x=false by simpa using hok)
  repeat refine Bg ?_
  rw [H6 (fun p=>hok p.1)]
  exact C9 A0 () trivial rfl rfl rfl rfl C1
 have hC:Ar x:=of_decide_eq_true (show Aq x=true by simpa using hok)
 by_cases hne:f=t
 ·repeat refine Bg ?_
  refine ⟨fun hz=>?_,fun hz=>?_⟩<;>conv=>whnf
  ·repeat refine Bg ?_
   rw [H6 (fun p=>p.2.1 hne)]
   exact C9 A0 () trivial rfl rfl rfl rfl C1
  ·repeat refine Bg ?_
   refine ⟨fun hft=>have hft:=eq_of_beq hft;?_,fun hft=>have hft:=beq_eq_false_iff_ne.1 hft;?_⟩<;>conv=>whnf
   ·repeat refine Bg ?_
    rw [H6 (fun p=>p.2.1 hne)]
    exact C9 A0 () trivial rfl rfl rfl rfl C1
   ·exact absurd hne hft
 rw [Vc hC hne]
 cases hLd:decide (Jb x f t)
 ·have hL:¬ Jb x f t:=of_decide_eq_false hLd
  rw [Nv,if_neg hL]
  repeat refine Bg ?_
  rw [H6 hL]
  exact C9 A0 () trivial rfl rfl rfl rfl C1
 have hL:Jb x f t:=of_decide_eq_true hLd
 have hln:=Nw hC hL.2.2.1 hL.2.2.2
 have hlk:(Ai x f t).toNat<x.links.length:=by omega
 have hlw:=A3.link_le h hlk
 rw [Nv,if_pos hL]
 repeat refine Bg ?_
 refine ⟨fun hz=>?_,fun hz=>?_⟩<;>conv=>whnf
 ·have:=of_decide_eq_true hz
  omega
 repeat refine Bg ?_
 refine ⟨fun hft=>have hft:=eq_of_beq hft;?_,fun hft=>have hft:=beq_eq_false_iff_ne.1 hft;?_⟩<;>conv=>whnf
 ·exact absurd hft hne
 repeat refine Bg ?_
 (repeat refine Ak ?_)
 refine Qv A0 rfl rfl rfl rfl rfl (jn:=(Ai x f t).toNat) rfl (r:=C0.c ((x.links).getD ((Ai x f t).toNat) default)) rfl hlk rfl rfl (fun u=>go A0 false ?_)
 conv=>whnf
 refine Dk (Rd (Bc x (Ai x f t)) (by show (x.links.getD _ default).w≤_;omega)) rfl (Af ?_)
 first|(refine At 5 rfl [0,1,2,3,4,5,6,7,8] A6 (Af ?_))
 (repeat refine Ak ?_)
 refine Cu (j:=(Ai x f t)) A0 rfl rfl rfl rfl rfl rfl rfl rfl (D7 (x.links.set (Ai x f t).toNat (D4 (Bc x (Ai x f t))).1)) (Ee hlk rfl) (Af ?_)
 rw [Qw hL]
 exact C9 A0 () trivial rfl rfl rfl rfl C1
theorem W3 (n:Int):Ek n (-1000000) 1000000=decide (Gu n):=by
 rw [Bool.eq_iff_iff,Go.Sx.Al,decide_eq_true_eq]
 exact Iff.rfl
theorem A34 {c:A3}{f t:Int}(h:Ar c)(h2:(Ck c f t).2=true):Aq (Ck c f t).1=decide (Gu (Ui c f t)):=by
 rw [Ov h,if_pos h2]
theorem Pk {c:A3}{t:Int}{W:Ad}(hk:t.toNat<c.workers.length):A9 (Av c t W) t=W:=by
 unfold A9 Av
 exact Sx.getD_set_self _ _ _ _ hk
theorem Hv {c:A3}{t:Int}{W V:Ad}:Av (Av c t W) t V=Av c t V:=by
 unfold Av
 rw [List.set_set]
set_option maxHeartbeats 8000000 in
theorem A3w (x:A3)(f t:Int)(h:x.w≤8000000)(og:Gs .i64 x.graph.workers):Dq Try.prog (fun _=>True) 57 [] (rc x) [.one (vi f),.one (vi t)] (fun _:Unit=>True) (fun _=>rc (Ck x f t).1) (fun _=>[.one (vb (Ck x f t).2)]):=by
 have h8:=h
 have h:x.w≤16000000:=by omega
 refine Ex A0 false Try.func57 rfl Cb fun B b hH hp=>?_
 conv=>whnf
 refine B7 (J0 x.graph f t og) rfl (Af ?_)
 refine ⟨fun hok=>?_,fun hok=>?_⟩<;>conv=>whnf
 ·have hok:¬ Ar x:=of_decide_eq_false (show Aq x=false by simpa using hok)
  repeat refine Bg ?_
  rw [Iq (fun p=>hok p.1)]
  exact C9 A0 () trivial rfl rfl rfl rfl C1
 have hC:Ar x:=of_decide_eq_true (show Aq x=true by simpa using hok)
 by_cases hne:f=t
 ·repeat refine Bg ?_
  refine ⟨fun hz=>?_,fun hz=>?_⟩<;>conv=>whnf
  ·repeat refine Bg ?_
   rw [Iq (fun p=>p.2.1 hne)]
   exact C9 A0 () trivial rfl rfl rfl rfl C1
  ·repeat refine Bg ?_
   refine ⟨fun hft=>have hft:=eq_of_beq hft;?_,fun hft=>have hft:=beq_eq_false_iff_ne.1 hft;?_⟩<;>conv=>whnf
   ·repeat refine Bg ?_
    rw [Iq (fun p=>p.2.1 hne)]
    exact C9 A0 () trivial rfl rfl rfl rfl C1
   ·exact absurd hne hft
 rw [Vc hC hne]
 cases hLd:decide (Jb x f t)
 ·have hL:¬ Jb x f t:=of_decide_eq_false hLd
  rw [Nv,if_neg hL]
  repeat refine Bg ?_
  rw [Iq hL]
  exact C9 A0 () trivial rfl rfl rfl rfl C1
 have hL:Jb x f t:=of_decide_eq_true hLd
 have hln:=Nw hC hL.2.2.1 hL.2.2.2
 have hlk:(Ai x f t).toNat<x.links.length:=by omega
 have hlw:=A3.link_le h hlk
 rw [Nv,if_pos hL]
 repeat refine Bg ?_
 refine ⟨fun hz=>?_,fun hz=>?_⟩<;>conv=>whnf
 ·have:=of_decide_eq_true hz
  omega
 repeat refine Bg ?_
 refine ⟨fun hft=>have hft:=eq_of_beq hft;?_,fun hft=>have hft:=beq_eq_false_iff_ne.1 hft;?_⟩<;>conv=>whnf
 ·exact absurd hft hne
 repeat refine Bg ?_
 (repeat refine Ak ?_)
 refine Qv A0 rfl rfl rfl rfl rfl (jn:=(Ai x f t).toNat) rfl (r:=C0.c ((x.links).getD ((Ai x f t).toNat) default)) rfl hlk rfl rfl (fun u=>go A0 false ?_)
 conv=>whnf
 refine Dk (Ud (Bc x (Ai x f t)) (by show (x.links.getD _ default).w≤_;omega)) rfl (Af ?_)
 refine ⟨fun h4=>?_,fun h4=>?_⟩<;>conv=>whnf
 ·have h4:(Bn (Bc x (Ai x f t))).2.2=false:=by simpa using h4
  repeat refine Bg ?_
  rw [S3 h4]
  refine Fb Try.prog 3 ((Ai x f t).toNat) [(1,6)] (D7 x.links) hlk rfl rfl Lt rfl (C7 rfl) ?_
  exact C9 A0 () trivial rfl rfl rfl rfl C1
 have h4:(Bn (Bc x (Ai x f t))).2.2=true:=by simpa using h4
 have hT:0<(Bc x (Ai x f t)).queue.length:=by
  rcases Nat.eq_zero_or_pos (Bc x (Ai x f t)).queue.length with e|e
  ·rw [Uk (fun p=>by omega)] at h4;cases h4
  ·exact e
 have hLA:=hC.2.2.1 _ hlk
 have hLP:Fc (Bc x (Ai x f t)):=hLA.1
 have hrec:(Bn (Bc x (Ai x f t))).2.1=(Bc x (Ai x f t)).queue.getD 0 default:=by rw [W6 ⟨hLP,hT⟩]
 have hRP:Gt (Bn (Bc x (Ai x f t))).2.1:=by rw [hrec];exact hLP.2 _ (B9 hT)
 have hb:=hL.2.2.2
 have hwl:=hC.1.2.1
 have hk:t.toNat<x.workers.length:=by omega
 have hw:=A3.worker_le h8 hk
 have hWP:=hC.2.1 _ (B9 (d:=default) hk)
 have hql:=(Pj (x.workers.getD t.toNat default)).1
 have hyes:=U7 hL h4
 have hfl:=A34 hC (show (Ck x f t).2=true by rw [hyes])
 repeat refine Bg ?_
 first|(refine At 7 rfl [0,1,2,3,4,5,6,7,8] A6 (Af ?_))|(refine At 8 rfl [0,1,2,3,4,5,6,7,8,9,10,11,12,13,14,15,16,17,18,19,20] A6 (Af ?_))|(refine At 9 rfl [0,1,2,3,4,5,6,7,8,9,10,11,12,13] A6 (Af ?_))
 (repeat refine Ak ?_)
 refine Cu (j:=(Ai x f t)) A0 rfl rfl rfl rfl rfl rfl rfl rfl (D7 (x.links.set (Ai x f t).toNat (Bn (Bc x (Ai x f t))).1)) (Ee hlk rfl) (Af ?_)
 generalize hR:(Bn (Bc x (Ai x f t))).2.1=R at *
 generalize hLk:(Bn (Bc x (Ai x f t))).1=LK at *
 refine Ny 0 3 2 rfl rfl (fun v2=>?_)
 refine Sw 0 3 rfl rfl (fun ho_v2=>?_)
 refine J7 rfl ?_
 refine Bi A0 false 0 rfl rfl A6 rfl (Aa D3) ?_
 refine Bi A0 false 1 rfl rfl A6 rfl (Aa D3) ?_
 refine Bi A0 false 2 rfl rfl A6 rfl (Aa D3) ?_
 refine Bi A0 false 3 rfl rfl A6 rfl (Aa D3) ?_
 refine Bi A0 false 5 rfl rfl A6 rfl (Aa D3) ?_
 refine Bi A0 false 6 rfl rfl A6 rfl (Aa D3) ?_
 refine Bi A0 false 7 rfl rfl A6 rfl (Aa D3) ?_
 refine Bi A0 false 8 rfl rfl A6 rfl (Aa D3) ?_
 refine Bi A0 false 9 rfl rfl A6 rfl (Aa D3) ?_
 refine Bi A0 false 11 rfl rfl A6 rfl (Aa D3) ?_
 refine Eh (s':=?_) 10 rfl A6 ?_ ?_
 rotate_left
 refine go A0 false ?_
 conv=>whnf
 refine I3 66 2 rfl rfl (Af ?_)
 (repeat refine Ak ?_)
 exact Ay
 refine Eh (s':=?_) 12 rfl A6 ?_ ?_
 rotate_left
 refine go A0 false ?_
 conv=>whnf
 (repeat refine Ak ?_)
 exact Ay
 refine Bi A0 false 13 rfl rfl A6 rfl (Aa D3) ?_
 refine M8 (α:=Value) (s':=?_) 14 rfl A6 ?_ ?_
 rotate_left
 refine go A0 false ?_
 conv=>whnf
 refine Gk A0 rfl rfl rfl rfl rfl rfl (jn:=t.toNat) rfl rfl rfl (fun v=>go A0 false ?_)
 conv=>whnf
 exact Q3 v
 intro v
 refine Eh (s':=?_) 15 rfl A6 ?_ ?_
 rotate_left
 refine go A0 false ?_
 conv=>whnf
 (repeat refine Ak ?_)
 exact Ay
 refine Kt [16,17,18,19,20] [⟨4,60,.rd v2⟩] A6 ?_
 refine B2 (s':=?_) A0 rfl A6 Db ?_ ?_
 rotate_left
 refine go A0 false ?_
 conv=>whnf
 (repeat refine Ak ?_)
 exact Ay
 refine B2 (s':=?_) A0 rfl A6 Db ?_ ?_
 rotate_left
 refine go A0 false ?_
 conv=>whnf
 refine B4 A0 rfl rfl rfl rfl rfl rfl rfl rfl rfl rfl rfl (A8 ((x.workers.getD t.toNat default).queue++[R])) (B5 rfl) Rt Ag (Af ?_)
 exact Ay
 refine B2 (s':=?_) A0 rfl A6 Db ?_ ?_
 rotate_left
 refine go A0 false ?_
 conv=>whnf
 refine I3 60 2 rfl rfl (Af ?_)
 (repeat refine Ak ?_)
 exact Ay
 refine B2 (s':=?_) A0 rfl A6 Db ?_ ?_
 rotate_left
 refine go A0 false ?_
 conv=>whnf
 (repeat refine Ak ?_)
 exact Ay
 refine B2 (s':=?_) A0 rfl A6 Db ?_ ?_
 rotate_left
 refine go A0 false ?_
 conv=>whnf
 refine Cu (j:=t) A0 rfl rfl rfl rfl rfl rfl rfl rfl (Ap (Av x t (kept (A9 x t) R)).workers) (Ee hk rfl) (Af ?_)
 exact Ay
 refine Ix A0 A6 Db (GW.out (J4 ?_))
 conv=>whnf
 refine Nu 0 3 2 rfl rfl rfl ?_
 have hsl:(Av x t (kept (A9 x t) R)).workers.length=x.workers.length:=List.length_set
 have hk1:t.toNat<(Av x t (kept (A9 x t) R)).workers.length:=by omega
 have hg1:(Av x t (kept (A9 x t) R)).workers.getD t.toNat default=kept (A9 x t) R:=Pk hk
 have hbl:((Av x t (kept (A9 x t) R)).workers.getD t.toNat default).black.length=4:=by rw [hg1];exact hWP.2.1.2.1
 have hE:=hRP.2.1
 have hbk:R.stamp.epoch.toNat<((Av x t (kept (A9 x t) R)).workers.getD t.toNat default).black.length:=by omega
 first|(refine At 7 rfl [0,1,2,3,4,5,6,7,8] A6 (Af ?_))|(refine At 8 rfl [0,1,2,3,4,5,6,7,8,9,10,11,12,13,14,15,16,17,18,19,20] A6 (Af ?_))|(refine At 9 rfl [0,1,2,3,4,5,6,7,8,9,10,11,12,13] A6 (Af ?_))
 (repeat refine Ak ?_)
 refine Gk A0 rfl rfl rfl rfl rfl rfl (jn:=t.toNat) rfl rfl rfl (fun v3=>go A0 false ?_)
 conv=>whnf
 (repeat refine Ak ?_)
 refine Cu (j:=R.stamp.epoch) A0 rfl rfl rfl rfl rfl rfl rfl rfl (Ei (((Av x t (kept (A9 x t) R)).workers.getD t.toNat default).black.set R.stamp.epoch.toNat true)) (Do hbk rfl) (Af ?_)
 refine Xb 2 (t.toNat) [(5,13)] (Ap (Av (Av (Bo x (Ai x f t) LK) t (kept (A9 x t) R)) t (I1 (kept (A9 x t) R) R.stamp.epoch)).workers) hk1 rfl rfl Lt rfl (Hc hk1 (by rw [hg1];rfl)) ?_
 have hk0:t.toNat<(Bo x (Ai x f t) LK).workers.length:=hk
 have hk2:t.toNat<(Av (Av (Bo x (Ai x f t) LK) t (kept (A9 x t) R)) t (I1 (kept (A9 x t) R) R.stamp.epoch)).workers.length:=by rw [Hv];show t.toNat<(x.workers.set _ _).length;rw [List.length_set];exact hk
 have hw2:A9 (Av (Av (Bo x (Ai x f t) LK) t (kept (A9 x t) R)) t (I1 (kept (A9 x t) R) R.stamp.epoch)) t=I1 (kept (A9 x t) R) R.stamp.epoch:=by rw [Hv];exact Pk hk0
 have hs4:(A9 x t).sums.length=4:=hWP.2.1.1
 refine Cm (Z6 (Av (Av (Bo x (Ai x f t) LK) t (kept (A9 x t) R)) t (I1 (kept (A9 x t) R) R.stamp.epoch)) (Aq x) t R.stamp.epoch (-1) Ag hk2 Ag (by rw [hw2];show R.stamp.epoch.toNat<(A9 x t).sums.length;omega) (by rw [hw2];exact hWP.2.2.2.1 _ (B9 (by show R.stamp.epoch.toNat<(A9 x t).sums.length;omega))) Cb) hH hp rfl C1 rfl rfl (fun r hr=>go A0 false ?_)
 conv=>whnf
 rw [hw2,Hv,Hv]
 have hcs:Aq x=true:=decide_eq_true hC
 have hz:rc (Ck x f t).1=O4 (Av (Bo x (Ai x f t) LK) t (Em (I1 (kept (A9 x t) R) R.stamp.epoch) R.stamp.epoch (-1))) (Aq x&&Ek ((I1 (kept (A9 x t) R) R.stamp.epoch).sums.getD R.stamp.epoch.toNat default+ -1) (-1000000) 1000000):=by
  show O4 (Ck x f t).1 (Aq (Ck x f t).1)=_
  rw [hfl,hyes,hcs,Bool.true_and,W3,Vn (w:=A9 x t) hWP.2.1.1 hWP.2.1.2.1 hE]
  show O4 _ (decide (Gu ((A9 x t).sums.getD (Jz x f t).stamp.epoch.toNat default+ -1)))=_
  rw [show Jz x f t=R from hR]
  rfl
 rw [hz,hyes]
 exact C9 A0 () trivial rfl rfl rfl rfl C1
end Go.Proofs.Ytonodkjaoalfjaa
