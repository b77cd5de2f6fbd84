/- Part 26 of the proof that each of the laws FnStalls returns true for every input. No conditions. -/
import Derived.Test.YtonodkjaoalfjaaGreatP25
import Derived.Test.YtonodkjaoalfjaaGreatP13
import Derived.Test.YtonodkjaoalfjaaGreatP24

set_option linter.unusedSimpArgs false
set_option linter.unusedVariables false
set_option maxRecDepth 100000
namespace Go.Proofs.YtonodkjaoalfjaaGreat
open Go.Sx
theorem C3u (x:A3)(w:Int)(h:x.w≤16000000):Iv Tryz.prog (fun _=>True) 126 [] (rc x) [.one (vi w)] (fun _:Unit=>True) (fun _=>rc x) (fun _=>[.one (vb (decide (Hh x w)))]):=by
 have hwl:=A3.workers_le h
 refine Ol A0 false Tryz.func126 rfl Bu fun B b hH hp=>?_
 conv=>whnf
 refine ⟨fun h1=>?_,fun h1=>?_⟩<;>conv=>whnf
 ·have h1:Ap x:=of_decide_eq_true (show Fp x=true from h1)
  repeat refine Bi ?_
  (repeat refine Ar ?_)
  refine Aw (Jo w 0 (x.workers.length-1)) rfl (Al ?_)
  repeat refine Bi ?_
  rw [show Eg w 0 (x.workers.length-1)=decide (Hh x w) by rw [Bool.eq_iff_iff,Go.Sx.Am,decide_eq_true_eq];exact ⟨fun p=>⟨h1,by omega,by omega⟩,fun p=>⟨p.2.1,by have:=p.2.2;omega⟩⟩]
  exact Kk A0 () trivial rfl rfl rfl rfl Ca
 ·repeat refine Bi ?_
  rw [show decide (Hh x w)=false from decide_eq_false fun p=>absurd p.1 (of_decide_eq_false (show Fp x=false from h1))]
  exact Kk A0 () trivial rfl rfl rfl rfl Ca
set_option maxHeartbeats 4000000 in
theorem C36 (x:A3)(ok:Bool)(w e n:Int)(h0:0≤w)(hk:w.toNat<x.workers.length)(he:0≤e)(hke:e.toNat<(A6 x w).sums.length)(hs:Jy ((A6 x w).sums.getD e.toNat default))(hn: -1≤n∧n≤1):
  Iv Tryz.prog (fun _=>True) 128 [] (rcb x ok) [.one (vi w),.one (vi e),.one (vi n)] (fun _:Unit=>True) (fun _=>rcb (Av x w (Ib (A6 x w) e n)) (ok&&Eg ((A6 x w).sums.getD e.toNat default+n) (-1000000) 1000000)) (fun _=>[]):=by
 obtain ⟨s1,s2⟩:=hs
 have hke2:e.toNat<(x.workers.getD w.toNat default).sums.length:=hke
 have hg:(x.workers.getD w.toNat default).sums.getD e.toNat default=(A6 x w).sums.getD e.toNat default:=rfl
 refine Ol A0 false Tryz.func128 rfl Bu fun B b hH hp=>?_
 conv=>whnf
 first|(refine B9 0 rfl [0,1,2,3,4,5,6,7,8,9,10,11,12,13,14,15,16,17,18,19,20,21,22,23,24,25] Aa (Al ?_))
 (repeat refine Ar ?_)
 refine B8f A0 rfl rfl rfl rfl rfl rfl (jn:=w.toNat) rfl rfl rfl (fun v=>go A0 false ?_)
 conv=>whnf
 (repeat refine Ar ?_)
 refine Ke A0 rfl rfl rfl rfl rfl rfl (jn:=w.toNat) rfl (Cv _ _ _) rfl (Al ?_)
 refine Je 26 6 rfl rfl (Al ?_)
 (repeat refine Ar ?_)
 refine D7 (j:=e) A0 rfl rfl rfl rfl rfl rfl rfl rfl (F1 ((x.workers.getD w.toNat default).sums.set e.toNat ((x.workers.getD w.toNat default).sums.getD e.toNat default+n))) (E4 hke2 rfl) (Al ?_)
 cases ok
 ·repeat refine Bi ?_
  refine B5c 2 (w.toNat) [(4,6)] (Be (x.workers.set w.toNat (Ib (A6 x w) e n))) hk rfl rfl Kc rfl (Kz hk rfl) (Tt ?_)
  conv=>whnf
  exact C5v (Kk A0 () trivial rfl rfl rfl rfl Ca)
 ·repeat refine Bi ?_
  (repeat refine Ar ?_)
  refine Ke A0 rfl rfl rfl rfl rfl rfl (jn:=w.toNat) rfl (Cv _ _ _) rfl (Al ?_)
  repeat refine Bi ?_
  refine Je 47 6 rfl rfl (Al ?_)
  repeat refine Bi ?_
  refine ⟨by (rw [List.length_set];show _∧_;omega),?_⟩
  conv=>whnf
  repeat refine Bi ?_
  refine Aw (Jo (((x.workers.getD w.toNat default).sums.set e.toNat ((x.workers.getD w.toNat default).sums.getD e.toNat default+n)).getD e.toNat default) (-1000000) 1000000) rfl (Al ?_)
  repeat refine Bi ?_
  rw [Sx.getD_set_self _ _ _ _ hke2]
  refine B5c 2 (w.toNat) [(4,6)] (Be (x.workers.set w.toNat (Ib (A6 x w) e n))) hk rfl rfl Kc rfl (Kz hk rfl) (Tt ?_)
  conv=>whnf
  exact C5v (Kk A0 () trivial rfl rfl rfl rfl Ca)
theorem C10 {x:A3}{w:Int}(hk:w.toNat<x.workers.length):Av x w (A6 x w)=x:=by
 have e:x.workers.set w.toNat (x.workers.getD w.toNat default)=x.workers:=by
  apply List.ext_getElem
  ·simp
  ·intro i h1 h2
   rw [List.getElem_set]
   split
   ·rename_i h;subst h;simp [List.getD,hk]
   ·rfl
 unfold Av A6
 rw [e]
theorem C1e {c:A3}{w:Int}(h:Hh c w)(hk:w.toNat<c.workers.length)(h2:¬ V5 c.graph (A6 c w)):Cr c w=(c,false):=by
 rw [A1t h,Ur h2,C10 hk]
theorem C1d {c:A3}{w:Int}(h:Hh c w)(h2:V5 c.graph (A6 c w)):Cr c w=(Av c w (Fx c.graph (A6 c w)),true):=by
 rw [A1t h,A5o h2]
theorem C0q {c:A3}{w:Int}(h:Hh c w)(hk:w.toNat<c.workers.length)(h2:¬ Sl c.graph (A6 c w)):Cg c w=(c,false):=by
 rw [Y9 h,Ov h2,C10 hk]
theorem C2c {c:A3}{w:Int}(h:Hh c w)(h2:Sl c.graph (A6 c w)):Cg c w=(Av c w (Jz (A6 c w)),true):=by
 rw [Y9 h,B0j h2]
set_option maxHeartbeats 8000000 in
theorem C44 (x:A3)(w:Int)(h:x.w≤16000000):Iv Tryz.prog (fun _=>True) 210 [] (rc x) [.one (vi w)] (fun _:Unit=>True) (fun _=>rcb (Cr x w).1 (Fp x)) (fun _=>[.one (vb (Cr x w).2)]):=by
 refine Ol A0 false Tryz.func210 rfl Bu fun B b hH hp=>?_
 conv=>whnf
 refine Fg (C3u x w h) hH hp rfl Ca rfl rfl (fun r hr=>go A0 false ?_)
 conv=>whnf
 refine ⟨fun h1=>?_,fun h1=>?_⟩<;>conv=>whnf
 ·have h1:¬ Hh x w:=of_decide_eq_false (by simpa using h1)
  repeat refine Bi ?_
  rw [A4h h1]
  exact Kk A0 () trivial rfl rfl rfl rfl Ca
 have h1:Hh x w:=of_decide_eq_true (show decide (Hh x w)=true by simpa using h1)
 have hC:=h1.1
 have hb:=h1.2
 have hk:w.toNat<x.workers.length:=by omega
 have hw:=A3.worker_le h hk
 have hg:=Ui h
 have hWP:=hC.2.1 _ (Aq (d:=default) hk)
 have hww:(A6 x w).w≤16000000:=by show (x.workers.getD w.toNat default).w≤_;omega
 have hlw:=Q6 (x.workers.getD w.toNat default)
 repeat refine Bi ?_
 (repeat refine Ar ?_)
 refine B90 A0 rfl rfl rfl rfl rfl (jn:=w.toNat) rfl (r:=Ab.c ((x.workers).getD (w.toNat) default)) rfl hk rfl rfl (fun u=>go A0 false ?_)
 conv=>whnf
 refine ⟨fun h3=>?_,fun h3=>?_⟩<;>conv=>whnf
 ·have h3:¬ (A6 x w).staged.length=0:=by have:=of_decide_eq_true h3;simp only [A6];omega
  repeat refine Bi ?_
  rw [C1e h1 hk (fun p=>h3 p.2.2.1)]
  refine M9 Tryz.prog 7 (w.toNat) [(0,11),(1,12),(2,13),(3,14),(4,15),(5,16),(6,17),(7,18)] (Be x.workers) hk rfl rfl Kc rfl (Mg rfl) ?_
  exact Kk A0 () trivial rfl rfl rfl rfl Ca
 have h3:(A6 x w).staged.length=0:=by have:=of_decide_eq_false h3;simp only [A6];omega
 repeat refine Bi ?_
 refine ⟨fun h4=>have h4:=eq_of_beq h4;?_,fun h4=>have h4:=beq_eq_false_iff_ne.1 h4;?_⟩<;>conv=>whnf
 ·repeat refine Bi ?_
  rw [C1e h1 hk (fun p=>by have:=p.2.2.2;simp only [A6] at this;omega)]
  refine M9 Tryz.prog 7 (w.toNat) [(0,11),(1,12),(2,13),(3,14),(4,15),(5,16),(6,17),(7,18)] (Be x.workers) hk rfl rfl Kc rfl (Mg rfl) ?_
  exact Kk A0 () trivial rfl rfl rfl rfl Ca
 have h4:0<(x.workers.getD w.toNat default).queue.length:=by omega
 have hP:V5 x.graph (A6 x w):=⟨hC.1.1,hWP,h3,h4⟩
 have hR:=hWP.1.1 _ (Aq (d:=default) h4)
 have hE:=hR.1.2.1
 have hcl:(x.workers.getD w.toNat default).caps.length=4:=hWP.2.1.2.2
 have hc:((x.workers.getD w.toNat default).queue.getD 0 default).stamp.epoch.toNat<(x.workers.getD w.toNat default).caps.length:=by omega
 repeat refine Bi ?_
 (repeat refine Ar ?_)
 first|(refine B9 7 rfl [0,1,2,3,4,5,6,7,8,9,10,11,12,13,14,15] Aa (Al ?_))|(refine B9 11 rfl [0,1,2,3,4,5,6] Aa (Al ?_))|(refine B9 13 rfl [0,1,2,3,4,5,6,7,8] Aa (Al ?_))
 refine B4 (C2h x.graph (x.workers.getD w.toNat default).cells ((x.workers.getD w.toNat default).queue.getD 0 default) Ac Ac) rfl (Al ?_)
 refine B5k A0 rfl rfl rfl rfl rfl rfl rfl rfl (l:=1) rfl rfl (⟨by omega,by omega,by omega⟩) (Ax ((x.workers.getD w.toNat default).queue.drop 1)) (Lf (k:=1) h4) (Al ?_)
 refine Dp A0 rfl rfl rfl rfl rfl rfl rfl rfl rfl rfl rfl (Ax ((x.workers.getD w.toNat default).queue.drop 1)) (Eh) (fun _=>B0d _) (by (rw [List.length_drop];omega)) (Al ?_)
 first|(refine B9 7 rfl [0,1,2,3,4,5,6,7,8,9,10,11,12,13,14,15] Aa (Al ?_))|(refine B9 11 rfl [0,1,2,3,4,5,6] Aa (Al ?_))|(refine B9 13 rfl [0,1,2,3,4,5,6,7,8] Aa (Al ?_))
 refine Aw (C2f x.graph ((x.workers.getD w.toNat default).queue.getD 0 default) Ac) rfl (Al ?_)
 refine ⟨fun h5=>?_,fun h5=>?_⟩<;>conv=>whnf
 ·have h5:capped x.graph ((A6 x w).queue.getD 0 default)=true:=h5
  refine ⟨by (show 0≤((x.workers.getD w.toNat default).queue.getD 0 default).stamp.epoch∧((x.workers.getD w.toNat default).queue.getD 0 default).stamp.epoch<(x.workers.getD w.toNat default).caps.length;omega),?_⟩
  conv=>whnf
  refine D7 (j:=((x.workers.getD w.toNat default).queue.getD 0 default).stamp.epoch) A0 rfl rfl rfl rfl rfl rfl rfl rfl (Gm ((x.workers.getD w.toNat default).caps.set ((x.workers.getD w.toNat default).queue.getD 0 default).stamp.epoch.toNat true)) (E4 hc rfl) (Al ?_)
  first|(refine B9 7 rfl [0,1,2,3,4,5,6,7,8,9,10,11,12,13,14,15] Aa (Al ?_))|(refine B9 11 rfl [0,1,2,3,4,5,6] Aa (Al ?_))|(refine B9 13 rfl [0,1,2,3,4,5,6,7,8] Aa (Al ?_))
  (repeat refine Ar ?_)
  refine D7 (j:=w) A0 rfl rfl rfl rfl rfl rfl rfl rfl (Be (x.workers.set w.toNat (Fx x.graph (A6 x w)))) (B1i hk (by rw [Fx,if_pos h5];rfl)) (Al ?_)
  rw [C1d h1 hP]
  exact Kk A0 () trivial rfl rfl rfl rfl Ca
 ·have h5:capped x.graph ((A6 x w).queue.getD 0 default)=false:=h5
  first|(refine B9 7 rfl [0,1,2,3,4,5,6,7,8,9,10,11,12,13,14,15] Aa (Al ?_))|(refine B9 11 rfl [0,1,2,3,4,5,6] Aa (Al ?_))|(refine B9 13 rfl [0,1,2,3,4,5,6,7,8] Aa (Al ?_))
  (repeat refine Ar ?_)
  refine D7 (j:=w) A0 rfl rfl rfl rfl rfl rfl rfl rfl (Be (x.workers.set w.toNat (Fx x.graph (A6 x w)))) (B1i hk (by rw [Fx,if_neg (by rw [h5];decide)];rfl)) (Al ?_)
  rw [C1d h1 hP]
  exact Kk A0 () trivial rfl rfl rfl rfl Ca
set_option maxHeartbeats 8000000 in
theorem C4i (x:A3)(w:Int)(h:x.w≤16000000):Iv Tryz.prog (fun _=>True) 211 [] (rc x) [.one (vi w)] (fun _:Unit=>True) (fun _=>rcb (Cg x w).1 (Fp x)) (fun _=>[.one (vb (Cg x w).2)]):=by
 refine Ol A0 false Tryz.func211 rfl Bu fun B b hH hp=>?_
 conv=>whnf
 refine Fg (C3u x w h) hH hp rfl Ca rfl rfl (fun r hr=>go A0 false ?_)
 conv=>whnf
 refine ⟨fun h1=>?_,fun h1=>?_⟩<;>conv=>whnf
 ·have h1:¬ Hh x w:=of_decide_eq_false (by simpa using h1)
  repeat refine Bi ?_
  rw [A1p h1]
  exact Kk A0 () trivial rfl rfl rfl rfl Ca
 have h1:Hh x w:=of_decide_eq_true (show decide (Hh x w)=true by simpa using h1)
 have hC:=h1.1
 have hb:=h1.2
 have hk:w.toNat<x.workers.length:=by omega
 have hw:=A3.worker_le h hk
 have hg:=Ui h
 have hWP:=hC.2.1 _ (Aq (d:=default) hk)
 have hww:(A6 x w).w≤16000000:=by show (x.workers.getD w.toNat default).w≤_;omega
 have hlw:=Q6 (x.workers.getD w.toNat default)
 repeat refine Bi ?_
 (repeat refine Ar ?_)
 refine B90 A0 rfl rfl rfl rfl rfl (jn:=w.toNat) rfl (r:=Ab.c ((x.workers).getD (w.toNat) default)) rfl hk rfl rfl (fun u=>go A0 false ?_)
 conv=>whnf
 refine ⟨fun h3=>?_,fun h3=>?_⟩<;>conv=>whnf
 ·have h3:¬ (A6 x w).staged.length=0:=by have:=of_decide_eq_true h3;simp only [A6];omega
  repeat refine Bi ?_
  rw [C0q h1 hk (fun p=>h3 p.2.2.1)]
  refine M9 Tryz.prog 7 (w.toNat) [(0,11),(1,12),(2,13),(3,14),(4,15),(5,16),(6,17),(7,18)] (Be x.workers) hk rfl rfl Kc rfl (Mg rfl) ?_
  exact Kk A0 () trivial rfl rfl rfl rfl Ca
 have h3:(A6 x w).staged.length=0:=by have:=of_decide_eq_false h3;simp only [A6];omega
 repeat refine Bi ?_
 refine ⟨fun h4=>?_,fun h4=>?_⟩<;>conv=>whnf
 ·have h4:¬ (A6 x w).queue.length=0:=by have:=of_decide_eq_true h4;simp only [A6];omega
  repeat refine Bi ?_
  rw [C0q h1 hk (fun p=>h4 p.2.2.2.1)]
  refine M9 Tryz.prog 7 (w.toNat) [(0,11),(1,12),(2,13),(3,14),(4,15),(5,16),(6,17),(7,18)] (Be x.workers) hk rfl rfl Kc rfl (Mg rfl) ?_
  exact Kk A0 () trivial rfl rfl rfl rfl Ca
 have h4:(A6 x w).queue.length=0:=by have:=of_decide_eq_false h4;simp only [A6];omega
 repeat refine Bi ?_
 refine ⟨fun h5=>have h5:=eq_of_beq h5;?_,fun h5=>have h5:=beq_eq_false_iff_ne.1 h5;?_⟩<;>conv=>whnf
 ·repeat refine Bi ?_
  rw [C0q h1 hk (fun p=>by have:=p.2.2.2.2;simp only [A6] at this;omega)]
  refine M9 Tryz.prog 7 (w.toNat) [(0,11),(1,12),(2,13),(3,14),(4,15),(5,16),(6,17),(7,18)] (Be x.workers) hk rfl rfl Kc rfl (Mg rfl) ?_
  exact Kk A0 () trivial rfl rfl rfl rfl Ca
 have h5:0<(x.workers.getD w.toNat default).inputs.length:=by omega
 have hP:Sl x.graph (A6 x w):=⟨hC.1.1,hWP,h3,h4,h5⟩
 have hq0:(A6 x w).queue=[]:=List.eq_nil_of_length_eq_zero h4
 repeat refine Bi ?_
 (repeat refine Ar ?_)
 refine G4 20 (Ax [(x.workers.getD w.toNat default).inputs.getD 0 default]) rfl (Db rfl F3) ?_
 refine B5k A0 rfl rfl rfl rfl rfl rfl rfl rfl (l:=1) rfl rfl (⟨by omega,by omega,by omega⟩) (Ax ((x.workers.getD w.toNat default).inputs.drop 1)) (Lf (k:=1) h5) (Al ?_)
 refine Dp A0 rfl rfl rfl rfl rfl rfl rfl rfl rfl rfl rfl (Ax ((x.workers.getD w.toNat default).inputs.drop 1)) (Eh) (fun _=>B0d _) (by (rw [List.length_drop];omega)) (Al ?_)
 first|(refine B9 8 rfl [0,1,2,3,4,5,6,7,8] Aa (Al ?_))
 (repeat refine Ar ?_)
 refine D7 (j:=w) A0 rfl rfl rfl rfl rfl rfl rfl rfl (Be (x.workers.set w.toNat (Jz (A6 x w)))) (B1i hk (by rw [Jz,hq0];rfl)) (Al ?_)
 rw [C2c h1 hP]
 exact Kk A0 () trivial rfl rfl rfl rfl Ca
set_option maxHeartbeats 8000000 in
theorem C3t (x:A3)(f t:Int)(h:x.w≤16000000)(og:K9 .i64 x.graph.workers):Iv Tryz.prog (fun _=>True) 213 [] (rc x) [.one (vi f),.one (vi t)] (fun _:Unit=>True) (fun _=>rcb (Br x f t).1 (Fp x)) (fun _=>[.one (vb (Br x f t).2)]):=by
 refine Ol A0 false Tryz.func213 rfl Bu fun B b hH hp=>?_
 conv=>whnf
 refine Aw (B6u x.graph f t og) rfl (Al ?_)
 refine ⟨fun hok=>?_,fun hok=>?_⟩<;>conv=>whnf
 ·have hok:¬ Ap x:=of_decide_eq_false (show Fp x=false by simpa using hok)
  repeat refine Bi ?_
  rw [Y8 (fun p=>hok p.1)]
  exact Kk A0 () trivial rfl rfl rfl rfl Ca
 have hC:Ap x:=of_decide_eq_true (show Fp x=true by simpa using hok)
 by_cases hne:f=t
 ·repeat refine Bi ?_
  refine ⟨fun hz=>?_,fun hz=>?_⟩<;>conv=>whnf
  ·repeat refine Bi ?_
   rw [Y8 (fun p=>p.2.1 hne)]
   exact Kk A0 () trivial rfl rfl rfl rfl Ca
  ·repeat refine Bi ?_
   refine ⟨fun hft=>have hft:=eq_of_beq hft;?_,fun hft=>have hft:=beq_eq_false_iff_ne.1 hft;?_⟩<;>conv=>whnf
   ·repeat refine Bi ?_
    rw [Y8 (fun p=>p.2.1 hne)]
    exact Kk A0 () trivial rfl rfl rfl rfl Ca
   ·exact absurd hne hft
 rw [B32 hC hne]
 cases hLd:decide (Jw x f t)
 ·have hL:¬ Jw x f t:=of_decide_eq_false hLd
  rw [Nl,if_neg hL]
  repeat refine Bi ?_
  rw [Y8 hL]
  exact Kk A0 () trivial rfl rfl rfl rfl Ca
 have hL:Jw x f t:=of_decide_eq_true hLd
 have hln:=T6 hC hL.2.2.1 hL.2.2.2
 have hlk:(Ae x f t).toNat<x.links.length:=by omega
 have hlw:=A3.link_le h hlk
 rw [Nl,if_pos hL]
 repeat refine Bi ?_
 refine ⟨fun hz=>?_,fun hz=>?_⟩<;>conv=>whnf
 ·have:=of_decide_eq_true hz
  omega
 repeat refine Bi ?_
 refine ⟨fun hft=>have hft:=eq_of_beq hft;?_,fun hft=>have hft:=beq_eq_false_iff_ne.1 hft;?_⟩<;>conv=>whnf
 ·exact absurd hft hne
 repeat refine Bi ?_
 (repeat refine Ar ?_)
 refine B90 A0 rfl rfl rfl rfl rfl (jn:=(Ae x f t).toNat) rfl (r:=C2.c ((x.links).getD ((Ae x f t).toNat) default)) rfl hlk rfl rfl (fun u=>go A0 false ?_)
 conv=>whnf
 refine B4 (C07 (An x (Ae x f t)) (by show (x.links.getD _ default).w≤_;omega)) rfl (Al ?_)
 first|(refine B9 5 rfl [0,1,2,3,4,5,6,7,8] Aa (Al ?_))
 (repeat refine Ar ?_)
 refine D7 (j:=(Ae x f t)) A0 rfl rfl rfl rfl rfl rfl rfl rfl (Dt (x.links.set (Ae x f t).toNat (Bn (An x (Ae x f t))).1)) (B1i hlk rfl) (Al ?_)
 rw [Wz hL]
 exact Kk A0 () trivial rfl rfl rfl rfl Ca
theorem C3l (n:Int):Eg n (-1000000) 1000000=decide (Jy n):=by
 rw [Bool.eq_iff_iff,Go.Sx.Am,decide_eq_true_eq]
 exact Iff.rfl
theorem C45 {c:A3}{f t:Int}(h:Ap c)(h2:(Cd c f t).2=true):Fp (Cd c f t).1=decide (Jy (A2e c f t)):=by
 rw [A4g h,if_pos h2]
theorem C17 {c:A3}{t:Int}{W:Ab}(hk:t.toNat<c.workers.length):A6 (Av c t W) t=W:=by
 unfold A6 Av
 exact Sx.getD_set_self _ _ _ _ hk
theorem B99 {c:A3}{t:Int}{W V:Ab}:Av (Av c t W) t V=Av c t V:=by
 unfold Av
 rw [List.set_set]
set_option maxHeartbeats 8000000 in
theorem C43 (x:A3)(f t:Int)(h:x.w≤8000000)(og:K9 .i64 x.graph.workers):Iv Tryz.prog (fun _=>True) 212 [] (rc x) [.one (vi f),.one (vi t)] (fun _:Unit=>True) (fun _=>rc (Cd x f t).1) (fun _=>[.one (vb (Cd x f t).2)]):=by
 have h8:=h
 have h:x.w≤16000000:=by omega
 refine Ol A0 false Tryz.func212 rfl Bu fun B b hH hp=>?_
 conv=>whnf
 refine Aw (B6u x.graph f t og) rfl (Al ?_)
 refine ⟨fun hok=>?_,fun hok=>?_⟩<;>conv=>whnf
 ·have hok:¬ Ap x:=of_decide_eq_false (show Fp x=false by simpa using hok)
  repeat refine Bi ?_
  rw [A4f (fun p=>hok p.1)]
  exact Kk A0 () trivial rfl rfl rfl rfl Ca
 have hC:Ap x:=of_decide_eq_true (show Fp x=true by simpa using hok)
 by_cases hne:f=t
 ·repeat refine Bi ?_
  refine ⟨fun hz=>?_,fun hz=>?_⟩<;>conv=>whnf
  ·repeat refine Bi ?_
   rw [A4f (fun p=>p.2.1 hne)]
   exact Kk A0 () trivial rfl rfl rfl rfl Ca
  ·repeat refine Bi ?_
   refine ⟨fun hft=>have hft:=eq_of_beq hft;?_,fun hft=>have hft:=beq_eq_false_iff_ne.1 hft;?_⟩<;>conv=>whnf
   ·repeat refine Bi ?_
    rw [A4f (fun p=>p.2.1 hne)]
    exact Kk A0 () trivial rfl rfl rfl rfl Ca
   ·exact absurd hne hft
 rw [B32 hC hne]
 cases hLd:decide (Jw x f t)
 ·have hL:¬ Jw x f t:=of_decide_eq_false hLd
  rw [Nl,if_neg hL]
  repeat refine Bi ?_
  rw [A4f hL]
  exact Kk A0 () trivial rfl rfl rfl rfl Ca
 have hL:Jw x f t:=of_decide_eq_true hLd
 have hln:=T6 hC hL.2.2.1 hL.2.2.2
 have hlk:(Ae x f t).toNat<x.links.length:=by omega
 have hlw:=A3.link_le h hlk
 rw [Nl,if_pos hL]
 repeat refine Bi ?_
 refine ⟨fun hz=>?_,fun hz=>?_⟩<;>conv=>whnf
 ·have:=of_decide_eq_true hz
  omega
 repeat refine Bi ?_
 refine ⟨fun hft=>have hft:=eq_of_beq hft;?_,fun hft=>have hft:=beq_eq_false_iff_ne.1 hft;?_⟩<;>conv=>whnf
 ·exact absurd hft hne
 repeat refine Bi ?_
 (repeat refine Ar ?_)
 refine B90 A0 rfl rfl rfl rfl rfl (jn:=(Ae x f t).toNat) rfl (r:=C2.c ((x.links).getD ((Ae x f t).toNat) default)) rfl hlk rfl rfl (fun u=>go A0 false ?_)
 conv=>whnf
 refine B4 (C1t (An x (Ae x f t)) (by show (x.links.getD _ default).w≤_;omega)) rfl (Al ?_)
 refine ⟨fun h4=>?_,fun h4=>?_⟩<;>conv=>whnf
 ·have h4:(At (An x (Ae x f t))).2.2=false:=by simpa using h4
  repeat refine Bi ?_
  rw [Yc h4]
  refine M9 Tryz.prog 3 ((Ae x f t).toNat) [(1,6)] (Dt x.links) hlk rfl rfl Kc rfl (Mg rfl) ?_
  exact Kk A0 () trivial rfl rfl rfl rfl Ca
 have h4:(At (An x (Ae x f t))).2.2=true:=by simpa using h4
 have hT:0<(An x (Ae x f t)).queue.length:=by
  rcases Nat.eq_zero_or_pos (An x (Ae x f t)).queue.length with e|e
  ·rw [A2g (fun p=>by omega)] at h4;cases h4
  ·exact e
 have hLA:=hC.2.2.1 _ hlk
 have hLP:Gy (An x (Ae x f t)):=hLA.1
 have hrec:(At (An x (Ae x f t))).2.1=(An x (Ae x f t)).queue.getD 0 default:=by rw [A5j ⟨hLP,hT⟩]
 have hRP:Ja (At (An x (Ae x f t))).2.1:=by rw [hrec];exact hLP.2 _ (Aq hT)
 have hb:=hL.2.2.2
 have hwl:=hC.1.2.1
 have hk:t.toNat<x.workers.length:=by omega
 have hw:=A3.worker_le h8 hk
 have hWP:=hC.2.1 _ (Aq (d:=default) hk)
 have hql:=(Q6 (x.workers.getD t.toNat default)).1
 have hyes:=A1s hL h4
 have hfl:=C45 hC (show (Cd x f t).2=true by rw [hyes])
 repeat refine Bi ?_
 first|(refine B9 7 rfl [0,1,2,3,4,5,6,7,8] Aa (Al ?_))|(refine B9 8 rfl [0,1,2,3,4,5,6,7,8,9,10,11,12,13,14,15,16,17,18,19,20] Aa (Al ?_))|(refine B9 9 rfl [0,1,2,3,4,5,6,7,8,9,10,11,12,13] Aa (Al ?_))
 (repeat refine Ar ?_)
 refine D7 (j:=(Ae x f t)) A0 rfl rfl rfl rfl rfl rfl rfl rfl (Dt (x.links.set (Ae x f t).toNat (At (An x (Ae x f t))).1)) (B1i hlk rfl) (Al ?_)
 generalize hR:(At (An x (Ae x f t))).2.1=R at *
 generalize hLk:(At (An x (Ae x f t))).1=LK at *
 refine B8m 0 3 2 rfl rfl (fun v2=>?_)
 refine B9u 0 3 rfl rfl (fun ho_v2=>?_)
 refine Jc rfl ?_
 refine Ct A0 false 0 rfl rfl Aa rfl (Af D0) ?_
 refine Ct A0 false 1 rfl rfl Aa rfl (Af D0) ?_
 refine Ct A0 false 2 rfl rfl Aa rfl (Af D0) ?_
 refine Ct A0 false 3 rfl rfl Aa rfl (Af D0) ?_
 refine Ct A0 false 5 rfl rfl Aa rfl (Af D0) ?_
 refine Ct A0 false 6 rfl rfl Aa rfl (Af D0) ?_
 refine Ct A0 false 7 rfl rfl Aa rfl (Af D0) ?_
 refine Ct A0 false 8 rfl rfl Aa rfl (Af D0) ?_
 refine Ct A0 false 9 rfl rfl Aa rfl (Af D0) ?_
 refine Ct A0 false 11 rfl rfl Aa rfl (Af D0) ?_
 refine Do (s':=?_) 10 rfl Aa ?_ ?_
 rotate_left
 refine go A0 false ?_
 conv=>whnf
 refine Je 66 2 rfl rfl (Al ?_)
 (repeat refine Ar ?_)
 exact Bd
 refine Do (s':=?_) 12 rfl Aa ?_ ?_
 rotate_left
 refine go A0 false ?_
 conv=>whnf
 (repeat refine Ar ?_)
 exact Bd
 refine Ct A0 false 13 rfl rfl Aa rfl (Af D0) ?_
 refine B8p (α:=Value) (s':=?_) 14 rfl Aa ?_ ?_
 rotate_left
 refine go A0 false ?_
 conv=>whnf
 refine B8f A0 rfl rfl rfl rfl rfl rfl (jn:=t.toNat) rfl rfl rfl (fun v=>go A0 false ?_)
 conv=>whnf
 exact B9f v
 intro v
 refine Do (s':=?_) 15 rfl Aa ?_ ?_
 rotate_left
 refine go A0 false ?_
 conv=>whnf
 (repeat refine Ar ?_)
 exact Bd
 refine S7 [16,17,18,19,20] [⟨4,60,.rd v2⟩] Aa ?_
 refine D5 (s':=?_) A0 rfl Aa Gp ?_ ?_
 rotate_left
 refine go A0 false ?_
 conv=>whnf
 (repeat refine Ar ?_)
 exact Bd
 refine D5 (s':=?_) A0 rfl Aa Gp ?_ ?_
 rotate_left
 refine go A0 false ?_
 conv=>whnf
 refine Dp A0 rfl rfl rfl rfl rfl rfl rfl rfl rfl rfl rfl (Ax ((x.workers.getD t.toNat default).queue++[R])) (Bf rfl) M1 Ac (Al ?_)
 exact Bd
 refine D5 (s':=?_) A0 rfl Aa Gp ?_ ?_
 rotate_left
 refine go A0 false ?_
 conv=>whnf
 refine Je 60 2 rfl rfl (Al ?_)
 (repeat refine Ar ?_)
 exact Bd
 refine D5 (s':=?_) A0 rfl Aa Gp ?_ ?_
 rotate_left
 refine go A0 false ?_
 conv=>whnf
 (repeat refine Ar ?_)
 exact Bd
 refine D5 (s':=?_) A0 rfl Aa Gp ?_ ?_
 rotate_left
 refine go A0 false ?_
 conv=>whnf
 refine D7 (j:=t) A0 rfl rfl rfl rfl rfl rfl rfl rfl (Be (Av x t (kept (A6 x t) R)).workers) (B1i hk rfl) (Al ?_)
 exact Bd
 refine P5 A0 Aa Gp (GW.out (Tt ?_))
 conv=>whnf
 refine B8j 0 3 2 rfl rfl rfl ?_
 have hsl:(Av x t (kept (A6 x t) R)).workers.length=x.workers.length:=List.length_set
 have hk1:t.toNat<(Av x t (kept (A6 x t) R)).workers.length:=by omega
 have hg1:(Av x t (kept (A6 x t) R)).workers.getD t.toNat default=kept (A6 x t) R:=C17 hk
 have hbl:((Av x t (kept (A6 x t) R)).workers.getD t.toNat default).black.length=4:=by rw [hg1];exact hWP.2.1.2.1
 have hE:=hRP.2.1
 have hbk:R.stamp.epoch.toNat<((Av x t (kept (A6 x t) R)).workers.getD t.toNat default).black.length:=by omega
 first|(refine B9 7 rfl [0,1,2,3,4,5,6,7,8] Aa (Al ?_))|(refine B9 8 rfl [0,1,2,3,4,5,6,7,8,9,10,11,12,13,14,15,16,17,18,19,20] Aa (Al ?_))|(refine B9 9 rfl [0,1,2,3,4,5,6,7,8,9,10,11,12,13] Aa (Al ?_))
 (repeat refine Ar ?_)
 refine B8f A0 rfl rfl rfl rfl rfl rfl (jn:=t.toNat) rfl rfl rfl (fun v3=>go A0 false ?_)
 conv=>whnf
 (repeat refine Ar ?_)
 refine D7 (j:=R.stamp.epoch) A0 rfl rfl rfl rfl rfl rfl rfl rfl (Gm (((Av x t (kept (A6 x t) R)).workers.getD t.toNat default).black.set R.stamp.epoch.toNat true)) (E4 hbk rfl) (Al ?_)
 refine C3s 2 (t.toNat) [(5,13)] (Be (Av (Av (B6 x (Ae x f t) LK) t (kept (A6 x t) R)) t (N2 (kept (A6 x t) R) R.stamp.epoch)).workers) hk1 rfl rfl Kc rfl (Kz hk1 (by rw [hg1];rfl)) ?_
 have hk0:t.toNat<(B6 x (Ae x f t) LK).workers.length:=hk
 have hk2:t.toNat<(Av (Av (B6 x (Ae x f t) LK) t (kept (A6 x t) R)) t (N2 (kept (A6 x t) R) R.stamp.epoch)).workers.length:=by rw [B99];show t.toNat<(x.workers.set _ _).length;rw [List.length_set];exact hk
 have hw2:A6 (Av (Av (B6 x (Ae x f t) LK) t (kept (A6 x t) R)) t (N2 (kept (A6 x t) R) R.stamp.epoch)) t=N2 (kept (A6 x t) R) R.stamp.epoch:=by rw [B99];exact C17 hk0
 have hs4:(A6 x t).sums.length=4:=hWP.2.1.1
 refine Fg (C36 (Av (Av (B6 x (Ae x f t) LK) t (kept (A6 x t) R)) t (N2 (kept (A6 x t) R) R.stamp.epoch)) (Fp x) t R.stamp.epoch (-1) Ac hk2 Ac (by rw [hw2];show R.stamp.epoch.toNat<(A6 x t).sums.length;omega) (by rw [hw2];exact hWP.2.2.2.1 _ (Aq (by show R.stamp.epoch.toNat<(A6 x t).sums.length;omega))) Bu) hH hp rfl Ca rfl rfl (fun r hr=>go A0 false ?_)
 conv=>whnf
 rw [hw2,B99,B99]
 have hcs:Fp x=true:=decide_eq_true hC
 have hz:rc (Cd x f t).1=rcb (Av (B6 x (Ae x f t) LK) t (Ib (N2 (kept (A6 x t) R) R.stamp.epoch) R.stamp.epoch (-1))) (Fp x&&Eg ((N2 (kept (A6 x t) R) R.stamp.epoch).sums.getD R.stamp.epoch.toNat default+ -1) (-1000000) 1000000):=by
  show rcb (Cd x f t).1 (Fp (Cd x f t).1)=_
  rw [hfl,hyes,hcs,Bool.true_and,C3l,A4p (w:=A6 x t) hWP.2.1.1 hWP.2.1.2.1 hE]
  show rcb _ (decide (Jy ((A6 x t).sums.getD (I8 x f t).stamp.epoch.toNat default+ -1)))=_
  rw [show I8 x f t=R from hR]
  rfl
 rw [hz,hyes]
 exact Kk A0 () trivial rfl rfl rfl rfl Ca
end Go.Proofs.YtonodkjaoalfjaaGreat
