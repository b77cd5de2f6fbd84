/- Part 31 of the proof that each of the laws FnExactRunScriptOf, FnExactSpreadResult returns true for every input. No conditions. -/
import Derived.Test.YtlbmkgkmbjadcaaGreatP17
import Derived.Test.YtlbmkgkmbjadcaaGreatP27
import Derived.Test.YtlbmkgkmbjadcaaGreatP28
import Derived.Test.YtlbmkgkmbjadcaaGreatP30

set_option linter.unusedSimpArgs false
set_option linter.unusedVariables false
set_option maxRecDepth 100000
namespace Go.Proofs.YtlbmkgkmbjadcaaGreat
open Go.Sx
theorem A6h (x:A4)(w:Int)(h:x.w≤16000000):J0 Tryz.prog (fun _=>True) 191 [] (rc x) [.one (vi w)] (fun _:Unit=>True) (fun _=>rc x) (fun _=>[.one (vb (decide (G2 x w)))]):=by
 have hwl:=A4.workers_le h
 refine Kl A0 false Tryz.func191 rfl Bs fun B b hH hp=>?_
 conv=>whnf
 refine ⟨fun h1=>?_,fun h1=>?_⟩<;>conv=>whnf
 ·have h1:Bg x:=of_decide_eq_true (show B8 x=true from h1)
  repeat refine B9 ?_
  (repeat refine An ?_)
  refine Ai (Gv w 0 (x.workers.length-1)) rfl (Ae ?_)
  repeat refine B9 ?_
  rw [show Eg w 0 (x.workers.length-1)=decide (G2 x w) by rw [Bool.eq_iff_iff,Go.Sx.Am,decide_eq_true_eq];exact ⟨fun p=>⟨h1,by omega,by omega⟩,fun p=>⟨p.2.1,by have:=p.2.2;omega⟩⟩]
  exact Ez A0 () trivial rfl rfl rfl rfl C1
 ·repeat refine B9 ?_
  rw [show decide (G2 x w)=false from decide_eq_false fun p=>absurd p.1 (of_decide_eq_false (show B8 x=false from h1))]
  exact Ez A0 () trivial rfl rfl rfl rfl C1
set_option maxHeartbeats 4000000 in
theorem A79 (x:A4)(ok:Bool)(w e n:Int)(h0:0≤w)(hk:w.toNat<x.workers.length)(he:0≤e)(hke:e.toNat<(Ag x w).sums.length)(hs:Hc ((Ag x w).sums.getD e.toNat default))(hn: -1≤n∧n≤1):
  J0 Tryz.prog (fun _=>True) 196 [] (Te x ok) [.one (vi w),.one (vi e),.one (vi n)] (fun _:Unit=>True) (fun _=>Te (C0 x w (Gj (Ag x w) e n)) (ok&&Eg ((Ag x w).sums.getD e.toNat default+n) (-1000000) 1000000)) (fun _=>[]):=by
 obtain ⟨s1,s2⟩:=hs
 have hke2:e.toNat<(x.workers.getD w.toNat default).sums.length:=hke
 have hg:(x.workers.getD w.toNat default).sums.getD e.toNat default=(Ag x w).sums.getD e.toNat default:=rfl
 refine Kl A0 false Tryz.func196 rfl Bs fun B b hH hp=>?_
 conv=>whnf
 first|(refine Ak 0 rfl [0,1,2,3,4,5,6,7,8,9,10,11,12,13,14,15,16,17,18,19,20,21,22,23,24,25] A5 (Ae ?_))
 (repeat refine An ?_)
 refine Ij A0 rfl rfl rfl rfl rfl rfl (jn:=w.toNat) rfl rfl rfl (fun v=>go A0 false ?_)
 conv=>whnf
 (repeat refine An ?_)
 refine Ja A0 rfl rfl rfl rfl rfl rfl (jn:=w.toNat) rfl (Ct _ _ _) rfl (Ae ?_)
 refine A8p 26 6 rfl rfl (Ae ?_)
 (repeat refine An ?_)
 refine Bj (j:=e) A0 rfl rfl rfl rfl rfl rfl rfl rfl (Eu ((x.workers.getD w.toNat default).sums.set e.toNat ((x.workers.getD w.toNat default).sums.getD e.toNat default+n))) (Cz hke2 rfl) (Ae ?_)
 cases ok
 ·repeat refine B9 ?_
  refine Kv 2 (w.toNat) [(4,6)] (Ap (x.workers.set w.toNat (Gj (Ag x w) e n))) hk rfl rfl Lw rfl (Fx hk rfl) (Iy ?_)
  conv=>whnf
  exact B50 (Ez A0 () trivial rfl rfl rfl rfl C1)
 ·repeat refine B9 ?_
  (repeat refine An ?_)
  refine Ja A0 rfl rfl rfl rfl rfl rfl (jn:=w.toNat) rfl (Ct _ _ _) rfl (Ae ?_)
  repeat refine B9 ?_
  refine A8p 47 6 rfl rfl (Ae ?_)
  repeat refine B9 ?_
  refine ⟨by (rw [List.length_set];show _∧_;omega),?_⟩
  conv=>whnf
  repeat refine B9 ?_
  refine Ai (Gv (((x.workers.getD w.toNat default).sums.set e.toNat ((x.workers.getD w.toNat default).sums.getD e.toNat default+n)).getD e.toNat default) (-1000000) 1000000) rfl (Ae ?_)
  repeat refine B9 ?_
  rw [Sx.getD_set_self _ _ _ _ hke2]
  refine Kv 2 (w.toNat) [(4,6)] (Ap (x.workers.set w.toNat (Gj (Ag x w) e n))) hk rfl rfl Lw rfl (Fx hk rfl) (Iy ?_)
  conv=>whnf
  exact B50 (Ez A0 () trivial rfl rfl rfl rfl C1)
theorem Ug {x:A4}{w:Int}(hk:w.toNat<x.workers.length):C0 x w (Ag x w)=x:=by
 have e:x.workers.set w.toNat (x.workers.getD w.toNat default)=x.workers:=by
  apply List.ext_getElem
  ·simp
  ·intro i h1 h2
   rw [List.getElem_set]
   split
   ·rename_i h;subst h;simp [List.getD,hk]
   ·rfl
 unfold C0 Ag
 rw [e]
theorem Qm {c:A4}{w:Int}(h:G2 c w)(hk:w.toNat<c.workers.length)(h2:¬ Tu c.graph (Ag c w)):Es c w=(c,false):=by
 rw [Nx h,So h2,Ug hk]
theorem Ql {c:A4}{w:Int}(h:G2 c w)(h2:Tu c.graph (Ag c w)):Es c w=(C0 c w (Kq c.graph (Ag c w)),true):=by
 rw [Nx h,Y3 h2]
theorem Lr {c:A4}{w:Int}(h:G2 c w)(hk:w.toNat<c.workers.length)(h2:¬ Ol c.graph (Ag c w)):E5 c w=(c,false):=by
 rw [Mn h,Mz h2,Ug hk]
theorem X7 {c:A4}{w:Int}(h:G2 c w)(h2:Ol c.graph (Ag c w)):E5 c w=(C0 c w (Ld (Ag c w)),true):=by
 rw [Mn h,Zg h2]
set_option maxHeartbeats 8000000 in
theorem B3j (x:A4)(w:Int)(h:x.w≤16000000):J0 Tryz.prog (fun _=>True) 144 [] (rc x) [.one (vi w)] (fun _:Unit=>True) (fun _=>Te (Es x w).1 (B8 x)) (fun _=>[.one (vb (Es x w).2)]):=by
 refine Kl A0 false Tryz.func144 rfl Bs fun B b hH hp=>?_
 conv=>whnf
 refine K8 (A6h x w h) hH hp rfl C1 rfl rfl (fun r hr=>go A0 false ?_)
 conv=>whnf
 refine ⟨fun h1=>?_,fun h1=>?_⟩<;>conv=>whnf
 ·have h1:¬ G2 x w:=of_decide_eq_false (by simpa using h1)
  repeat refine B9 ?_
  rw [U9 h1]
  exact Ez A0 () trivial rfl rfl rfl rfl C1
 have h1:G2 x w:=of_decide_eq_true (show decide (G2 x w)=true by simpa using h1)
 have hC:=h1.1
 have hb:=h1.2
 have hk:w.toNat<x.workers.length:=by omega
 have hw:=A4.worker_le h hk
 have hg:=Np h
 have hWP:=hC.2.1 _ (B2 (d:=default) hk)
 have hww:(Ag x w).w≤16000000:=by show (x.workers.getD w.toNat default).w≤_;omega
 have hlw:=K6 (x.workers.getD w.toNat default)
 repeat refine B9 ?_
 (repeat refine An ?_)
 refine Qg A0 rfl rfl rfl rfl rfl (jn:=w.toNat) rfl (r:=A6.c ((x.workers).getD (w.toNat) default)) rfl hk rfl rfl (fun u=>go A0 false ?_)
 conv=>whnf
 refine ⟨fun h3=>?_,fun h3=>?_⟩<;>conv=>whnf
 ·have h3:¬ (Ag x w).staged.length=0:=by have:=of_decide_eq_true h3;simp only [Ag];omega
  repeat refine B9 ?_
  rw [Qm h1 hk (fun p=>h3 p.2.2.1)]
  refine F6 Tryz.prog 7 (w.toNat) [(0,11),(1,12),(2,13),(3,14),(4,15),(5,16),(6,17),(7,18)] (Ap x.workers) hk rfl rfl Lw rfl (Cm rfl) ?_
  exact Ez A0 () trivial rfl rfl rfl rfl C1
 have h3:(Ag x w).staged.length=0:=by have:=of_decide_eq_false h3;simp only [Ag];omega
 repeat refine B9 ?_
 refine ⟨fun h4=>have h4:=eq_of_beq h4;?_,fun h4=>have h4:=beq_eq_false_iff_ne.1 h4;?_⟩<;>conv=>whnf
 ·repeat refine B9 ?_
  rw [Qm h1 hk (fun p=>by have:=p.2.2.2;simp only [Ag] at this;omega)]
  refine F6 Tryz.prog 7 (w.toNat) [(0,11),(1,12),(2,13),(3,14),(4,15),(5,16),(6,17),(7,18)] (Ap x.workers) hk rfl rfl Lw rfl (Cm rfl) ?_
  exact Ez A0 () trivial rfl rfl rfl rfl C1
 have h4:0<(x.workers.getD w.toNat default).queue.length:=by omega
 have hP:Tu x.graph (Ag x w):=⟨hC.1.1,hWP,h3,h4⟩
 have hR:=hWP.1.1 _ (B2 (d:=default) h4)
 have hE:=hR.1.2.1
 have hcl:(x.workers.getD w.toNat default).caps.length=4:=hWP.2.1.2.2
 have hc:((x.workers.getD w.toNat default).queue.getD 0 default).stamp.epoch.toNat<(x.workers.getD w.toNat default).caps.length:=by omega
 repeat refine B9 ?_
 (repeat refine An ?_)
 first|(refine Ak 7 rfl [0,1,2,3,4,5,6,7,8,9,10,11,12,13,14,15] A5 (Ae ?_))|(refine Ak 11 rfl [0,1,2,3,4,5,6] A5 (Ae ?_))|(refine Ak 13 rfl [0,1,2,3,4,5,6,7,8] A5 (Ae ?_))
 refine Av (A6j x.graph (x.workers.getD w.toNat default).cells ((x.workers.getD w.toNat default).queue.getD 0 default) Ad Ad) rfl (Ae ?_)
 refine A11 A0 rfl rfl rfl rfl rfl rfl rfl rfl (l:=1) rfl rfl (⟨by omega,by omega,by omega⟩) (A9 ((x.workers.getD w.toNat default).queue.drop 1)) (G9 (k:=1) h4) (Ae ?_)
 refine Bm A0 rfl rfl rfl rfl rfl rfl rfl rfl rfl rfl rfl (A9 ((x.workers.getD w.toNat default).queue.drop 1)) (B1) (fun _=>Ba _) (by (rw [List.length_drop];omega)) (Ae ?_)
 first|(refine Ak 7 rfl [0,1,2,3,4,5,6,7,8,9,10,11,12,13,14,15] A5 (Ae ?_))|(refine Ak 11 rfl [0,1,2,3,4,5,6] A5 (Ae ?_))|(refine Ak 13 rfl [0,1,2,3,4,5,6,7,8] A5 (Ae ?_))
 refine Ai (A6e x.graph ((x.workers.getD w.toNat default).queue.getD 0 default) Ad) rfl (Ae ?_)
 refine ⟨fun h5=>?_,fun h5=>?_⟩<;>conv=>whnf
 ·have h5:capped x.graph ((Ag x w).queue.getD 0 default)=true:=h5
  refine ⟨by (show 0≤((x.workers.getD w.toNat default).queue.getD 0 default).stamp.epoch∧((x.workers.getD w.toNat default).queue.getD 0 default).stamp.epoch<(x.workers.getD w.toNat default).caps.length;omega),?_⟩
  conv=>whnf
  refine Bj (j:=((x.workers.getD w.toNat default).queue.getD 0 default).stamp.epoch) A0 rfl rfl rfl rfl rfl rfl rfl rfl (Cx ((x.workers.getD w.toNat default).caps.set ((x.workers.getD w.toNat default).queue.getD 0 default).stamp.epoch.toNat true)) (Cz hc rfl) (Ae ?_)
  first|(refine Ak 7 rfl [0,1,2,3,4,5,6,7,8,9,10,11,12,13,14,15] A5 (Ae ?_))|(refine Ak 11 rfl [0,1,2,3,4,5,6] A5 (Ae ?_))|(refine Ak 13 rfl [0,1,2,3,4,5,6,7,8] A5 (Ae ?_))
  (repeat refine An ?_)
  refine Bj (j:=w) A0 rfl rfl rfl rfl rfl rfl rfl rfl (Ap (x.workers.set w.toNat (Kq x.graph (Ag x w)))) (Fj hk (by rw [Kq,if_pos h5];rfl)) (Ae ?_)
  rw [Ql h1 hP]
  exact Ez A0 () trivial rfl rfl rfl rfl C1
 ·have h5:capped x.graph ((Ag x w).queue.getD 0 default)=false:=h5
  first|(refine Ak 7 rfl [0,1,2,3,4,5,6,7,8,9,10,11,12,13,14,15] A5 (Ae ?_))|(refine Ak 11 rfl [0,1,2,3,4,5,6] A5 (Ae ?_))|(refine Ak 13 rfl [0,1,2,3,4,5,6,7,8] A5 (Ae ?_))
  (repeat refine An ?_)
  refine Bj (j:=w) A0 rfl rfl rfl rfl rfl rfl rfl rfl (Ap (x.workers.set w.toNat (Kq x.graph (Ag x w)))) (Fj hk (by rw [Kq,if_neg (by rw [h5];decide)];rfl)) (Ae ?_)
  rw [Ql h1 hP]
  exact Ez A0 () trivial rfl rfl rfl rfl C1
set_option maxHeartbeats 8000000 in
theorem B0a (x:A4)(w:Int)(h:x.w≤16000000):J0 Tryz.prog (fun _=>True) 145 [] (rc x) [.one (vi w)] (fun _:Unit=>True) (fun _=>Te (E5 x w).1 (B8 x)) (fun _=>[.one (vb (E5 x w).2)]):=by
 refine Kl A0 false Tryz.func145 rfl Bs fun B b hH hp=>?_
 conv=>whnf
 refine K8 (A6h x w h) hH hp rfl C1 rfl rfl (fun r hr=>go A0 false ?_)
 conv=>whnf
 refine ⟨fun h1=>?_,fun h1=>?_⟩<;>conv=>whnf
 ·have h1:¬ G2 x w:=of_decide_eq_false (by simpa using h1)
  repeat refine B9 ?_
  rw [Sc h1]
  exact Ez A0 () trivial rfl rfl rfl rfl C1
 have h1:G2 x w:=of_decide_eq_true (show decide (G2 x w)=true by simpa using h1)
 have hC:=h1.1
 have hb:=h1.2
 have hk:w.toNat<x.workers.length:=by omega
 have hw:=A4.worker_le h hk
 have hg:=Np h
 have hWP:=hC.2.1 _ (B2 (d:=default) hk)
 have hww:(Ag x w).w≤16000000:=by show (x.workers.getD w.toNat default).w≤_;omega
 have hlw:=K6 (x.workers.getD w.toNat default)
 repeat refine B9 ?_
 (repeat refine An ?_)
 refine Qg A0 rfl rfl rfl rfl rfl (jn:=w.toNat) rfl (r:=A6.c ((x.workers).getD (w.toNat) default)) rfl hk rfl rfl (fun u=>go A0 false ?_)
 conv=>whnf
 refine ⟨fun h3=>?_,fun h3=>?_⟩<;>conv=>whnf
 ·have h3:¬ (Ag x w).staged.length=0:=by have:=of_decide_eq_true h3;simp only [Ag];omega
  repeat refine B9 ?_
  rw [Lr h1 hk (fun p=>h3 p.2.2.1)]
  refine F6 Tryz.prog 7 (w.toNat) [(0,11),(1,12),(2,13),(3,14),(4,15),(5,16),(6,17),(7,18)] (Ap x.workers) hk rfl rfl Lw rfl (Cm rfl) ?_
  exact Ez A0 () trivial rfl rfl rfl rfl C1
 have h3:(Ag x w).staged.length=0:=by have:=of_decide_eq_false h3;simp only [Ag];omega
 repeat refine B9 ?_
 refine ⟨fun h4=>?_,fun h4=>?_⟩<;>conv=>whnf
 ·have h4:¬ (Ag x w).queue.length=0:=by have:=of_decide_eq_true h4;simp only [Ag];omega
  repeat refine B9 ?_
  rw [Lr h1 hk (fun p=>h4 p.2.2.2.1)]
  refine F6 Tryz.prog 7 (w.toNat) [(0,11),(1,12),(2,13),(3,14),(4,15),(5,16),(6,17),(7,18)] (Ap x.workers) hk rfl rfl Lw rfl (Cm rfl) ?_
  exact Ez A0 () trivial rfl rfl rfl rfl C1
 have h4:(Ag x w).queue.length=0:=by have:=of_decide_eq_false h4;simp only [Ag];omega
 repeat refine B9 ?_
 refine ⟨fun h5=>have h5:=eq_of_beq h5;?_,fun h5=>have h5:=beq_eq_false_iff_ne.1 h5;?_⟩<;>conv=>whnf
 ·repeat refine B9 ?_
  rw [Lr h1 hk (fun p=>by have:=p.2.2.2.2;simp only [Ag] at this;omega)]
  refine F6 Tryz.prog 7 (w.toNat) [(0,11),(1,12),(2,13),(3,14),(4,15),(5,16),(6,17),(7,18)] (Ap x.workers) hk rfl rfl Lw rfl (Cm rfl) ?_
  exact Ez A0 () trivial rfl rfl rfl rfl C1
 have h5:0<(x.workers.getD w.toNat default).inputs.length:=by omega
 have hP:Ol x.graph (Ag x w):=⟨hC.1.1,hWP,h3,h4,h5⟩
 have hq0:(Ag x w).queue=[]:=List.eq_nil_of_length_eq_zero h4
 repeat refine B9 ?_
 (repeat refine An ?_)
 refine Gk 20 (A9 [(x.workers.getD w.toNat default).inputs.getD 0 default]) rfl (L6 rfl Cp) ?_
 refine A11 A0 rfl rfl rfl rfl rfl rfl rfl rfl (l:=1) rfl rfl (⟨by omega,by omega,by omega⟩) (A9 ((x.workers.getD w.toNat default).inputs.drop 1)) (G9 (k:=1) h5) (Ae ?_)
 refine Bm A0 rfl rfl rfl rfl rfl rfl rfl rfl rfl rfl rfl (A9 ((x.workers.getD w.toNat default).inputs.drop 1)) (B1) (fun _=>Ba _) (by (rw [List.length_drop];omega)) (Ae ?_)
 first|(refine Ak 8 rfl [0,1,2,3,4,5,6,7,8] A5 (Ae ?_))
 (repeat refine An ?_)
 refine Bj (j:=w) A0 rfl rfl rfl rfl rfl rfl rfl rfl (Ap (x.workers.set w.toNat (Ld (Ag x w)))) (Fj hk (by rw [Ld,hq0];rfl)) (Ae ?_)
 rw [X7 h1 hP]
 exact Ez A0 () trivial rfl rfl rfl rfl C1
set_option maxHeartbeats 8000000 in
theorem A6f (x:A4)(f t:Int)(h:x.w≤16000000)(og:G8 .i64 x.graph.workers):J0 Tryz.prog (fun _=>True) 148 [] (rc x) [.one (vi f),.one (vi t)] (fun _:Unit=>True) (fun _=>Te (E9 x f t).1 (B8 x)) (fun _=>[.one (vb (E9 x f t).2)]):=by
 refine Kl A0 false Tryz.func148 rfl Bs fun B b hH hp=>?_
 conv=>whnf
 refine Ai (Mq x.graph f t og) rfl (Ae ?_)
 refine ⟨fun hok=>?_,fun hok=>?_⟩<;>conv=>whnf
 ·have hok:¬ Bg x:=of_decide_eq_false (show B8 x=false by simpa using hok)
  repeat refine B9 ?_
  rw [I8 (fun p=>hok p.1)]
  exact Ez A0 () trivial rfl rfl rfl rfl C1
 have hC:Bg x:=of_decide_eq_true (show B8 x=true by simpa using hok)
 by_cases hne:f=t
 ·repeat refine B9 ?_
  refine ⟨fun hz=>?_,fun hz=>?_⟩<;>conv=>whnf
  ·repeat refine B9 ?_
   rw [I8 (fun p=>p.2.1 hne)]
   exact Ez A0 () trivial rfl rfl rfl rfl C1
  ·repeat refine B9 ?_
   refine ⟨fun hft=>have hft:=eq_of_beq hft;?_,fun hft=>have hft:=beq_eq_false_iff_ne.1 hft;?_⟩<;>conv=>whnf
   ·repeat refine B9 ?_
    rw [I8 (fun p=>p.2.1 hne)]
    exact Ez A0 () trivial rfl rfl rfl rfl C1
   ·exact absurd hne hft
 rw [Ws hC hne]
 cases hLd:decide (Kh x f t)
 ·have hL:¬ Kh x f t:=of_decide_eq_false hLd
  rw [Ju,if_neg hL]
  repeat refine B9 ?_
  rw [I8 hL]
  exact Ez A0 () trivial rfl rfl rfl rfl C1
 have hL:Kh x f t:=of_decide_eq_true hLd
 have hln:=L7 hC hL.2.2.1 hL.2.2.2
 have hlk:(Az x f t).toNat<x.links.length:=by omega
 have hlw:=A4.link_le h hlk
 rw [Ju,if_pos hL]
 repeat refine B9 ?_
 refine ⟨fun hz=>?_,fun hz=>?_⟩<;>conv=>whnf
 ·have:=of_decide_eq_true hz
  omega
 repeat refine B9 ?_
 refine ⟨fun hft=>have hft:=eq_of_beq hft;?_,fun hft=>have hft:=beq_eq_false_iff_ne.1 hft;?_⟩<;>conv=>whnf
 ·exact absurd hft hne
 repeat refine B9 ?_
 (repeat refine An ?_)
 refine Qg A0 rfl rfl rfl rfl rfl (jn:=(Az x f t).toNat) rfl (r:=As.c ((x.links).getD ((Az x f t).toNat) default)) rfl hlk rfl rfl (fun u=>go A0 false ?_)
 conv=>whnf
 refine Av (Xq (Bv x (Az x f t)) (by show (x.links.getD _ default).w≤_;omega)) rfl (Ae ?_)
 first|(refine Ak 5 rfl [0,1,2,3,4,5,6,7,8] A5 (Ae ?_))
 (repeat refine An ?_)
 refine Bj (j:=(Az x f t)) A0 rfl rfl rfl rfl rfl rfl rfl rfl (Bu (x.links.set (Az x f t).toNat (Dw (Bv x (Az x f t))).1)) (Fj hlk rfl) (Ae ?_)
 rw [Pb hL]
 exact Ez A0 () trivial rfl rfl rfl rfl C1
theorem A4n (n:Int):Eg n (-1000000) 1000000=decide (Hc n):=by
 rw [Bool.eq_iff_iff,Go.Sx.Am,decide_eq_true_eq]
 exact Iff.rfl
theorem B3r {c:A4}{f t:Int}(h:Bg c)(h2:(Dt c f t).2=true):B8 (Dt c f t).1=decide (Hc (A14 c f t)):=by
 rw [U8 h,if_pos h2]
theorem V6 {c:A4}{t:Int}{W:A6}(hk:t.toNat<c.workers.length):Ag (C0 c t W) t=W:=by
 unfold Ag C0
 exact Sx.getD_set_self _ _ _ _ hk
theorem L9 {c:A4}{t:Int}{W V:A6}:C0 (C0 c t W) t V=C0 c t V:=by
 unfold C0
 rw [List.set_set]
set_option maxHeartbeats 8000000 in
theorem B3i (x:A4)(f t:Int)(h:x.w≤8000000)(og:G8 .i64 x.graph.workers):J0 Tryz.prog (fun _=>True) 147 [] (rc x) [.one (vi f),.one (vi t)] (fun _:Unit=>True) (fun _=>rc (Dt x f t).1) (fun _=>[.one (vb (Dt x f t).2)]):=by
 have h8:=h
 have h:x.w≤16000000:=by omega
 refine Kl A0 false Tryz.func147 rfl Bs fun B b hH hp=>?_
 conv=>whnf
 refine Ai (Mq x.graph f t og) rfl (Ae ?_)
 refine ⟨fun hok=>?_,fun hok=>?_⟩<;>conv=>whnf
 ·have hok:¬ Bg x:=of_decide_eq_false (show B8 x=false by simpa using hok)
  repeat refine B9 ?_
  rw [Ke (fun p=>hok p.1)]
  exact Ez A0 () trivial rfl rfl rfl rfl C1
 have hC:Bg x:=of_decide_eq_true (show B8 x=true by simpa using hok)
 by_cases hne:f=t
 ·repeat refine B9 ?_
  refine ⟨fun hz=>?_,fun hz=>?_⟩<;>conv=>whnf
  ·repeat refine B9 ?_
   rw [Ke (fun p=>p.2.1 hne)]
   exact Ez A0 () trivial rfl rfl rfl rfl C1
  ·repeat refine B9 ?_
   refine ⟨fun hft=>have hft:=eq_of_beq hft;?_,fun hft=>have hft:=beq_eq_false_iff_ne.1 hft;?_⟩<;>conv=>whnf
   ·repeat refine B9 ?_
    rw [Ke (fun p=>p.2.1 hne)]
    exact Ez A0 () trivial rfl rfl rfl rfl C1
   ·exact absurd hne hft
 rw [Ws hC hne]
 cases hLd:decide (Kh x f t)
 ·have hL:¬ Kh x f t:=of_decide_eq_false hLd
  rw [Ju,if_neg hL]
  repeat refine B9 ?_
  rw [Ke hL]
  exact Ez A0 () trivial rfl rfl rfl rfl C1
 have hL:Kh x f t:=of_decide_eq_true hLd
 have hln:=L7 hC hL.2.2.1 hL.2.2.2
 have hlk:(Az x f t).toNat<x.links.length:=by omega
 have hlw:=A4.link_le h hlk
 rw [Ju,if_pos hL]
 repeat refine B9 ?_
 refine ⟨fun hz=>?_,fun hz=>?_⟩<;>conv=>whnf
 ·have:=of_decide_eq_true hz
  omega
 repeat refine B9 ?_
 refine ⟨fun hft=>have hft:=eq_of_beq hft;?_,fun hft=>have hft:=beq_eq_false_iff_ne.1 hft;?_⟩<;>conv=>whnf
 ·exact absurd hft hne
 repeat refine B9 ?_
 (repeat refine An ?_)
 refine Qg A0 rfl rfl rfl rfl rfl (jn:=(Az x f t).toNat) rfl (r:=As.c ((x.links).getD ((Az x f t).toNat) default)) rfl hlk rfl rfl (fun u=>go A0 false ?_)
 conv=>whnf
 refine Av (A1x (Bv x (Az x f t)) (by show (x.links.getD _ default).w≤_;omega)) rfl (Ae ?_)
 refine ⟨fun h4=>?_,fun h4=>?_⟩<;>conv=>whnf
 ·have h4:(C6 (Bv x (Az x f t))).2.2=false:=by simpa using h4
  repeat refine B9 ?_
  rw [Qk h4]
  refine F6 Tryz.prog 3 ((Az x f t).toNat) [(1,6)] (Bu x.links) hlk rfl rfl Lw rfl (Cm rfl) ?_
  exact Ez A0 () trivial rfl rfl rfl rfl C1
 have h4:(C6 (Bv x (Az x f t))).2.2=true:=by simpa using h4
 have hT:0<(Bv x (Az x f t)).queue.length:=by
  rcases Nat.eq_zero_or_pos (Bv x (Az x f t)).queue.length with e|e
  ·rw [Q5 (fun p=>by omega)] at h4;cases h4
  ·exact e
 have hLA:=hC.2.2.1 _ hlk
 have hLP:Gd (Bv x (Az x f t)):=hLA.1
 have hrec:(C6 (Bv x (Az x f t))).2.1=(Bv x (Az x f t)).queue.getD 0 default:=by rw [Sk ⟨hLP,hT⟩]
 have hRP:Gx (C6 (Bv x (Az x f t))).2.1:=by rw [hrec];exact hLP.2 _ (B2 hT)
 have hb:=hL.2.2.2
 have hwl:=hC.1.2.1
 have hk:t.toNat<x.workers.length:=by omega
 have hw:=A4.worker_le h8 hk
 have hWP:=hC.2.1 _ (B2 (d:=default) hk)
 have hql:=(K6 (x.workers.getD t.toNat default)).1
 have hyes:=Se hL h4
 have hfl:=B3r hC (show (Dt x f t).2=true by rw [hyes])
 repeat refine B9 ?_
 first|(refine Ak 7 rfl [0,1,2,3,4,5,6,7,8] A5 (Ae ?_))|(refine Ak 8 rfl [0,1,2,3,4,5,6,7,8,9,10,11,12,13,14,15,16,17,18,19,20] A5 (Ae ?_))|(refine Ak 9 rfl [0,1,2,3,4,5,6,7,8,9,10,11,12,13] A5 (Ae ?_))
 (repeat refine An ?_)
 refine Bj (j:=(Az x f t)) A0 rfl rfl rfl rfl rfl rfl rfl rfl (Bu (x.links.set (Az x f t).toNat (C6 (Bv x (Az x f t))).1)) (Fj hlk rfl) (Ae ?_)
 generalize hR:(C6 (Bv x (Az x f t))).2.1=R at *
 generalize hLk:(C6 (Bv x (Az x f t))).1=LK at *
 refine R5 0 3 2 rfl rfl (fun v2=>?_)
 refine Wy 0 3 rfl rfl (fun ho_v2=>?_)
 refine Gl rfl ?_
 refine Bk A0 false 0 rfl rfl A5 rfl (Af D7) ?_
 refine Bk A0 false 1 rfl rfl A5 rfl (Af D7) ?_
 refine Bk A0 false 2 rfl rfl A5 rfl (Af D7) ?_
 refine Bk A0 false 3 rfl rfl A5 rfl (Af D7) ?_
 refine Bk A0 false 5 rfl rfl A5 rfl (Af D7) ?_
 refine Bk A0 false 6 rfl rfl A5 rfl (Af D7) ?_
 refine Bk A0 false 7 rfl rfl A5 rfl (Af D7) ?_
 refine Bk A0 false 8 rfl rfl A5 rfl (Af D7) ?_
 refine Bk A0 false 9 rfl rfl A5 rfl (Af D7) ?_
 refine Bk A0 false 11 rfl rfl A5 rfl (Af D7) ?_
 refine Cj (s':=?_) 10 rfl A5 ?_ ?_
 rotate_left
 refine go A0 false ?_
 conv=>whnf
 refine A8p 66 2 rfl rfl (Ae ?_)
 (repeat refine An ?_)
 exact Ax
 refine Cj (s':=?_) 12 rfl A5 ?_ ?_
 rotate_left
 refine go A0 false ?_
 conv=>whnf
 (repeat refine An ?_)
 exact Ax
 refine Bk A0 false 13 rfl rfl A5 rfl (Af D7) ?_
 refine Pe (α:=Value) (s':=?_) 14 rfl A5 ?_ ?_
 rotate_left
 refine go A0 false ?_
 conv=>whnf
 refine Ij A0 rfl rfl rfl rfl rfl rfl (jn:=t.toNat) rfl rfl rfl (fun v=>go A0 false ?_)
 conv=>whnf
 exact Tx v
 intro v
 refine Cj (s':=?_) 15 rfl A5 ?_ ?_
 rotate_left
 refine go A0 false ?_
 conv=>whnf
 (repeat refine An ?_)
 exact Ax
 refine Jo [16,17,18,19,20] [⟨4,60,.rd v2⟩] A5 ?_
 refine Bf (s':=?_) A0 rfl A5 Jk ?_ ?_
 rotate_left
 refine go A0 false ?_
 conv=>whnf
 (repeat refine An ?_)
 exact Ax
 refine Bf (s':=?_) A0 rfl A5 Jk ?_ ?_
 rotate_left
 refine go A0 false ?_
 conv=>whnf
 refine Bm A0 rfl rfl rfl rfl rfl rfl rfl rfl rfl rfl rfl (A9 ((x.workers.getD t.toNat default).queue++[R])) (Bh rfl) Ef Ad (Ae ?_)
 exact Ax
 refine Bf (s':=?_) A0 rfl A5 Jk ?_ ?_
 rotate_left
 refine go A0 false ?_
 conv=>whnf
 refine A8p 60 2 rfl rfl (Ae ?_)
 (repeat refine An ?_)
 exact Ax
 refine Bf (s':=?_) A0 rfl A5 Jk ?_ ?_
 rotate_left
 refine go A0 false ?_
 conv=>whnf
 (repeat refine An ?_)
 exact Ax
 refine Bf (s':=?_) A0 rfl A5 Jk ?_ ?_
 rotate_left
 refine go A0 false ?_
 conv=>whnf
 refine Bj (j:=t) A0 rfl rfl rfl rfl rfl rfl rfl rfl (Ap (C0 x t (kept (Ag x t) R)).workers) (Fj hk rfl) (Ae ?_)
 exact Ax
 refine I7 A0 A5 Jk (GW.out (Iy ?_))
 conv=>whnf
 refine R4 0 3 2 rfl rfl rfl ?_
 have hsl:(C0 x t (kept (Ag x t) R)).workers.length=x.workers.length:=List.length_set
 have hk1:t.toNat<(C0 x t (kept (Ag x t) R)).workers.length:=by omega
 have hg1:(C0 x t (kept (Ag x t) R)).workers.getD t.toNat default=kept (Ag x t) R:=V6 hk
 have hbl:((C0 x t (kept (Ag x t) R)).workers.getD t.toNat default).black.length=4:=by rw [hg1];exact hWP.2.1.2.1
 have hE:=hRP.2.1
 have hbk:R.stamp.epoch.toNat<((C0 x t (kept (Ag x t) R)).workers.getD t.toNat default).black.length:=by omega
 first|(refine Ak 7 rfl [0,1,2,3,4,5,6,7,8] A5 (Ae ?_))|(refine Ak 8 rfl [0,1,2,3,4,5,6,7,8,9,10,11,12,13,14,15,16,17,18,19,20] A5 (Ae ?_))|(refine Ak 9 rfl [0,1,2,3,4,5,6,7,8,9,10,11,12,13] A5 (Ae ?_))
 (repeat refine An ?_)
 refine Ij A0 rfl rfl rfl rfl rfl rfl (jn:=t.toNat) rfl rfl rfl (fun v3=>go A0 false ?_)
 conv=>whnf
 (repeat refine An ?_)
 refine Bj (j:=R.stamp.epoch) A0 rfl rfl rfl rfl rfl rfl rfl rfl (Cx (((C0 x t (kept (Ag x t) R)).workers.getD t.toNat default).black.set R.stamp.epoch.toNat true)) (Cz hbk rfl) (Ae ?_)
 refine A6d 2 (t.toNat) [(5,13)] (Ap (C0 (C0 (Df x (Az x f t) LK) t (kept (Ag x t) R)) t (Lf (kept (Ag x t) R) R.stamp.epoch)).workers) hk1 rfl rfl Lw rfl (Fx hk1 (by rw [hg1];rfl)) ?_
 have hk0:t.toNat<(Df x (Az x f t) LK).workers.length:=hk
 have hk2:t.toNat<(C0 (C0 (Df x (Az x f t) LK) t (kept (Ag x t) R)) t (Lf (kept (Ag x t) R) R.stamp.epoch)).workers.length:=by rw [L9];show t.toNat<(x.workers.set _ _).length;rw [List.length_set];exact hk
 have hw2:Ag (C0 (C0 (Df x (Az x f t) LK) t (kept (Ag x t) R)) t (Lf (kept (Ag x t) R) R.stamp.epoch)) t=Lf (kept (Ag x t) R) R.stamp.epoch:=by rw [L9];exact V6 hk0
 have hs4:(Ag x t).sums.length=4:=hWP.2.1.1
 refine K8 (A79 (C0 (C0 (Df x (Az x f t) LK) t (kept (Ag x t) R)) t (Lf (kept (Ag x t) R) R.stamp.epoch)) (B8 x) t R.stamp.epoch (-1) Ad hk2 Ad (by rw [hw2];show R.stamp.epoch.toNat<(Ag x t).sums.length;omega) (by rw [hw2];exact hWP.2.2.2.1 _ (B2 (by show R.stamp.epoch.toNat<(Ag x t).sums.length;omega))) Bs) hH hp rfl C1 rfl rfl (fun r hr=>go A0 false ?_)
 conv=>whnf
 rw [hw2,L9,L9]
 have hcs:B8 x=true:=decide_eq_true hC
 have hz:rc (Dt x f t).1=Te (C0 (Df x (Az x f t) LK) t (Gj (Lf (kept (Ag x t) R) R.stamp.epoch) R.stamp.epoch (-1))) (B8 x&&Eg ((Lf (kept (Ag x t) R) R.stamp.epoch).sums.getD R.stamp.epoch.toNat default+ -1) (-1000000) 1000000):=by
  show Te (Dt x f t).1 (B8 (Dt x f t).1)=_
  rw [hfl,hyes,hcs,Bool.true_and,A4n,Uc (w:=Ag x t) hWP.2.1.1 hWP.2.1.2.1 hE]
  show Te _ (decide (Hc ((Ag x t).sums.getD (O8 x f t).stamp.epoch.toNat default+ -1)))=_
  rw [show O8 x f t=R from hR]
  rfl
 rw [hz,hyes]
 exact Ez A0 () trivial rfl rfl rfl rfl C1
end Go.Proofs.YtlbmkgkmbjadcaaGreat
