/- Part 20 of the proof that each of the laws FnColours returns true for every input. No conditions. -/
import Derived.Test.YtdendlkeiaccpaaGreatDoorP19
import Derived.Test.YtdendlkeiaccpaaGreatDoorP9
import Derived.Test.YtdendlkeiaccpaaGreatDoorP14
import Derived.Test.YtdendlkeiaccpaaGreatDoorP5

set_option linter.unusedSimpArgs false
set_option linter.unusedVariables false
set_option maxRecDepth 100000
namespace Go.Proofs.YtdendlkeiaccpaaGreatDoor
open Go.Sx
theorem A7s {c:A3}{w:Int}(h:¬ (As c∧c.news.any (Kb w)=true)):D5 c w=(c,false):=if_neg h
theorem B2w {c:A3}{w:Int}(h:As c∧c.news.any (Kb w)=true)(h1:Bf (Ab c w) (Dt c w).epoch=true):D5 c w=(I8 c w,true):=by
 unfold D5
 rw [if_pos h,if_pos h1]
theorem B2v {c:A3}{w:Int}(h:As c∧c.news.any (Kb w)=true)(h1:Bf (Ab c w) (Dt c w).epoch=false):D5 c w=(B3 (I8 c w) w (Ct (Ab c w) ⟨(Dt c w).epoch,(Dt c w).capped⟩),true):=by
 unfold D5
 rw [if_pos h,if_neg (by rw [h1];decide)]
theorem Ta (e:Int)(b:Bool)(k:Nat):(Gd e b k).length=k:=by rw [Gd,List.length_map,List.length_range]
theorem R1 (e:Int)(b:Bool)(k:Nat):Gd e b (k+1)=Gd e b k++[⟨(k:Int)+1,e,b⟩]:=by
 rw [Gd,List.range_succ,List.map_append]
 rfl
set_option maxHeartbeats 4000000 in
theorem A4p (x:A3)(e:Int)(cap ok:Bool)(h:x.w≤16000000)(h0:0<x.workers.length):
  Dd Tryz.prog (fun _=>True) 131 [] (Td x ok) [.one (vi e),.one (vb cap)] (fun _:Unit=>True) (fun _=>Td (Gk (B3 x 0 (Ct (x.workers.getD 0 default) ⟨e,cap⟩)) (Gd e cap (x.workers.length-1))) ok) (fun _=>[]):=by
 have hw:=A3.worker_le h h0
 have hnl:=A3.news_le h
 have hwl:=A3.workers_le h
 have hdl:(x.workers.getD 0 default).dones.length≤16000000:=by simp only [Aa.w] at hw;omega
 refine Dp A0 false Tryz.func131 rfl Az fun B b hH hp=>?_
 conv=>whnf
 refine T9 0 3 2 rfl rfl (fun v2=>?_)
 refine Zg 0 3 rfl rfl (fun ho_v2=>?_)
 refine Ks rfl ?_
 refine Ca A0 false 0 rfl rfl A7 rfl (A5 Bb) ?_
 refine Ca A0 false 1 rfl rfl A7 rfl (A5 Bb) ?_
 refine Ca A0 false 2 rfl rfl A7 rfl (A5 Bb) ?_
 refine Ca A0 false 3 rfl rfl A7 rfl (A5 Bb) ?_
 refine Ca A0 false 5 rfl rfl A7 rfl (A5 Bb) ?_
 refine Ca A0 false 6 rfl rfl A7 rfl (A5 Bb) ?_
 refine Ca A0 false 7 rfl rfl A7 rfl (A5 Bb) ?_
 refine Ca A0 false 8 rfl rfl A7 rfl (A5 Bb) ?_
 refine Ca A0 false 13 rfl rfl A7 rfl (A5 Bb) ?_
 refine Ca A0 false 14 rfl rfl A7 rfl (A5 Bb) ?_
 refine G0 (s':=?_) 9 rfl A7 ?_ ?_
 rotate_left
 refine A8 ?_
 (repeat refine An ?_)
 exact Bh
 refine G0 (s':=?_) 10 rfl A7 ?_ ?_
 rotate_left
 refine A8 ?_
 refine Fz 16 2 rfl rfl (A8 ?_)
 (repeat refine An ?_)
 exact Bh
 refine Ca A0 false 11 rfl rfl A7 rfl (A5 Bb) ?_
 refine R3 (α:=Value) (s':=?_) 12 rfl A7 ?_ ?_
 rotate_left
 refine A8 ?_
 refine Jc A0 rfl rfl rfl rfl rfl rfl (jn:=0) rfl rfl rfl (fun v=>go A0 false ?_)
 conv=>whnf
 exact Vv v
 intro v
 refine G0 (s':=?_) 15 rfl A7 ?_ ?_
 rotate_left
 refine A8 ?_
 (repeat refine An ?_)
 exact Bh
 refine Mq [16,17,18,19,20] [⟨4,11,.rd v2⟩] A7 ?_
 refine Bk (s':=?_) A0 rfl A7 Dl ?_ ?_
 rotate_left
 refine A8 ?_
 (repeat refine An ?_)
 exact Bh
 refine Bk (s':=?_) A0 rfl A7 Dl ?_ ?_
 rotate_left
 refine A8 ?_
 refine B6 A0 rfl rfl rfl rfl rfl rfl rfl rfl rfl rfl rfl (G1 ((x.workers.getD 0 default).dones++[⟨e,cap⟩])) (Ad rfl) Bp Ac (A8 ?_)
 exact Bh
 refine Bk (s':=?_) A0 rfl A7 Dl ?_ ?_
 rotate_left
 refine A8 ?_
 refine Fz 11 2 rfl rfl (A8 ?_)
 (repeat refine An ?_)
 exact Bh
 refine Bk (s':=?_) A0 rfl A7 Dl ?_ ?_
 rotate_left
 refine A8 ?_
 (repeat refine An ?_)
 exact Bh
 refine Bk (s':=?_) A0 rfl A7 Dl ?_ ?_
 rotate_left
 refine A8 ?_
 refine Am (j:=0) A0 rfl rfl rfl rfl rfl rfl rfl rfl (Al (x.workers.set 0 (Ct (x.workers.getD 0 default) ⟨e,cap⟩))) (G8 h0 rfl) (A8 ?_)
 exact Bh
 refine Jt A0 A7 Dl (GW.out (I5 ?_))
 conv=>whnf
 refine T3 0 3 2 rfl rfl rfl ?_
 refine C0 A0 false [7,8,9,10,11,12,13,14,15,16,17,18,19,20,21,22,23,24,25,26] (fun k:Nat=>[(6,.c (vi (k+1)))]) (fun k=>[⟨0,[.own 1,.c (vi x.graph.workers),.c (vi x.graph.cap),.own 2,.own 3,.own 4,.own 5,.c (vb ok)]⟩]) (fun k=>[⟨1,Bn x.graph.nodes⟩,⟨2,Al (x.workers.set 0 (Ct (x.workers.getD 0 default) ⟨e,cap⟩))⟩,⟨3,Cf x.links⟩,⟨4,Bo x.tokens⟩,⟨5,C5 (x.news++Gd e cap k)⟩])
  (fun k=>k≤(x.workers.length-1)) (fun k=>(x.workers.length-1)-k) 0 (Nat.zero_le _) ⟨G3,trivial⟩ Cg ⟨Ek,Ek,Ek,Ek,Ek,trivial⟩ Co A7 (fun k hk=>?_)
 conv=>whnf
 refine F4 (fun hg=>?_) fun hg=>?_<;>conv=>whnf
 ·rw [List.length_set] at hg
  refine B6 A0 rfl rfl rfl rfl rfl rfl rfl rfl rfl rfl rfl (C5 (x.news++Gd e cap k++[⟨k+1,e,cap⟩])) (Ad rfl) Bp (by rw [List.length_append,Ta];omega) (A8 ?_)
  (repeat refine An ?_)
  refine B8 [(0,0),(1,1),(2,2),(3,3),(4,4),(5,10)] (k+1) Ac Ac ⟨by rw [Int.natCast_add];rfl,trivial⟩ ⟨rfl,rfl,rfl,rfl,by show (_:Af)=_;rw [R1,←List.append_assoc],trivial⟩ Cg A7 Co A7
 rw [List.length_set] at hg
 repeat refine Bd ?_
 obtain rfl:k=x.workers.length-1:=by omega
 exact B7z (Bu A0 () trivial rfl rfl rfl rfl B1)
theorem B62 (c:A3)(e:Int)(t:Cu):(C9 c e t).w=c.w:=by simp only [A3.w,C9,List.length_set]
set_option maxHeartbeats 4000000 in
theorem Zy (x:A3)(e:Int)(h:x.w≤16000000):Dd Tryz.prog (fun _=>True) 92 [] (rc x) [.one (vi e)] (fun _:Unit=>True) (fun _=>Td (Bc x e).1 (B9 x)) (fun _=>[.one (vb (Bc x e).2)]):=by
 refine Dp A0 false Tryz.func92 rfl Az fun B b hH hp=>?_
 conv=>whnf
 refine ⟨fun hC=>?_,fun hC=>?_⟩<;>conv=>whnf
 ·repeat refine Bd ?_
  rw [Nx (fun p=>by rw [show B9 x=true from decide_eq_true p.1] at hC;exact absurd hC Az)]
  exact Bu A0 () trivial rfl rfl rfl rfl B1
 have hC:As x:=of_decide_eq_true (show B9 x=true by simpa using hC)
 have hl0:1≤x.workers.length:=by have:=hC.1.2.1;have:=hC.1.1.2.1;omega
 have htl:x.tokens.length=4:=hC.1.2.2.2
 have hwl4:x.workers.length≤4:=by have:=hC.1.2.1;have:=hC.1.1.2.1;omega
 repeat refine Bd ?_
 refine At (Fc e 0 3) rfl (A8 ?_)
 repeat refine Bd ?_
 refine ⟨fun hE=>?_,fun hE=>?_⟩<;>conv=>whnf
 ·repeat refine Bd ?_
  rw [Nx (fun p=>by have:=p.2.1;clear hC p;simp only [beq_iff_eq,beq_eq_false_iff_ne,bne_iff_ne,bne_eq_false_iff_eq,Bool.not_eq_true',Bool.not_eq_false',Go.Sx.Ah,Go.Sx.Aw,decide_eq_true_eq,decide_eq_false_iff_not,ne_eq,Int.not_lt,Int.not_le,ge_iff_le,gt_iff_lt,Int.toNat_zero,Int.toNat_one,Int.toNat_natCast] at *;omega)]
  exact Bu A0 () trivial rfl rfl rfl rfl B1
 have hE:0≤e∧e≤3:=by clear hC;simp only [beq_iff_eq,beq_eq_false_iff_ne,bne_iff_ne,bne_eq_false_iff_eq,Bool.not_eq_true',Bool.not_eq_false',Go.Sx.Ah,Go.Sx.Aw,decide_eq_true_eq,decide_eq_false_iff_not,ne_eq,Int.not_lt,Int.not_le,ge_iff_le,gt_iff_lt,Int.toNat_zero,Int.toNat_one,Int.toNat_natCast] at *;omega
 repeat refine Bd ?_
 refine At (Pd x e Ac) rfl (A8 ?_)
 repeat refine Bd ?_
 refine ⟨fun hD=>?_,fun hD=>?_⟩<;>conv=>whnf
 ·rw [Nx (fun p=>by have hd:Bf (x.workers.getD 0 default) e=false:=p.2.2.1;rw [Gh,if_pos Ac,hd] at hD;cases hD)]
  exact Bu A0 () trivial rfl rfl rfl rfl B1
 have hD:Bf (Ab x 0) e=false:=by rw [Gh,if_pos Ac] at hD;exact hD
 have hTP:=hC.2.2.2.1 _ (Ay (d:=default) (show e.toNat<x.tokens.length by omega))
 have hat:0≤(x.tokens.getD e.toNat default).at_∧(x.tokens.getD e.toNat default).at_<x.workers.length:=by
  have:=hC.1.2.1
  have:=hTP.1
  omega
 have hj:(x.tokens.getD e.toNat default).at_.toNat<x.workers.length:=by omega
 have hWP:=hC.2.1 _ (Ay (d:=default) hj)
 (repeat refine An ?_)
 refine S9 A0 rfl rfl rfl rfl rfl (jn:=(x.tokens.getD e.toNat default).at_.toNat) rfl (r:=Aa.c ((x.workers).getD ((x.tokens.getD e.toNat default).at_.toNat) default)) rfl hj rfl rfl (fun u=>go A0 false ?_)
 conv=>whnf
 refine At (Mg (x.workers.getD (x.tokens.getD e.toNat default).at_.toNat default) e (by have:=A3.worker_le h hj;omega)) rfl ?_
 cases hP:Ch (x.workers.getD (x.tokens.getD e.toNat default).at_.toNat default) e
 ·refine M4 2 ((x.tokens.getD e.toNat default).at_.toNat) [(0,7),(1,8),(2,9),(3,10),(4,11),(5,12),(6,13),(7,14)] (Al x.workers) hj rfl rfl G2 rfl (Ck rfl) (I5 ?_)
  conv=>whnf
  repeat refine Bd ?_
  rw [Nx (fun p=>by have q:=p.2.2.2;rw [show Ab x (A9 x e).at_=x.workers.getD (x.tokens.getD e.toNat default).at_.toNat default from rfl,hP] at q;cases q)]
  exact Bu A0 () trivial rfl rfl rfl rfl B1
 have hT:K7 x e:=⟨hC,hE,hD,hP⟩
 obtain ⟨hL1,hL2,hL3⟩:=hWP.2.1
 have hs1:=hTP.2.2
 have htk:e.toNat<x.tokens.length:=by omega
 have hbl:e.toNat<(Ab x (A9 x e).at_).black.length:=by
  show e.toNat<(x.workers.getD (x.tokens.getD e.toNat default).at_.toNat default).black.length
  omega
 have hs2:Gj ((x.workers.getD (x.tokens.getD e.toNat default).at_.toNat default).sums.getD e.toNat default):=hWP.2.2.2.1 _ (Ay Ac)
 simp only [Gj] at hs2
 refine A8 ?_
 repeat refine Bd ?_
 first|(refine Ax 8 rfl [0,1,2,3,4,5,6,7,8] A7 (A8 ?_))|(refine Ax 14 rfl [0,1,2,3,4,5,6,7,8,9,10,11,12,13,14,15,16,17,18,19,20] A7 (A8 ?_))|(refine Ax 19 rfl [0,1,2,3,4,5,6,7,8,9,10,11,12,13,14,15,16,17,18,19,20,21,22,23,24,25,26,27,28,29] A7 (A8 ?_))|(refine Ax 10 rfl [0,1,2,3,4,5,6,7,8] A7 (A8 ?_))
 refine ⟨by (show _∧_;omega),?_⟩
 conv=>whnf
 refine ⟨by (show _∧_;omega),?_⟩
 conv=>whnf
 refine ⟨fun hg=>?_,fun hg=>?_⟩<;>conv=>whnf
 ·have hg:(A9 x e).going=false:=by simpa [A9] using hg
  have hA:(A9 x e).at_=0:=hTP.2.1 hg
  first|(refine Ax 8 rfl [0,1,2,3,4,5,6,7,8] A7 (A8 ?_))|(refine Ax 14 rfl [0,1,2,3,4,5,6,7,8,9,10,11,12,13,14,15,16,17,18,19,20] A7 (A8 ?_))|(refine Ax 19 rfl [0,1,2,3,4,5,6,7,8,9,10,11,12,13,14,15,16,17,18,19,20,21,22,23,24,25,26,27,28,29] A7 (A8 ?_))|(refine Ax 10 rfl [0,1,2,3,4,5,6,7,8] A7 (A8 ?_))
  (repeat refine An ?_)
  refine Am (j:=e) A0 rfl rfl rfl rfl rfl rfl rfl rfl (Bo (x.tokens.set e.toNat ⟨true,(x.workers.length:Int)-1,0,false,(Ab x (A9 x e).at_).caps.getD e.toNat default⟩)) (C6 htk rfl) ?_
  refine M4 2 ((x.tokens.getD e.toNat default).at_.toNat) [(0,7),(1,8),(2,9),(3,10),(4,11),(5,12),(6,13),(7,14)] (Al x.workers) hj rfl rfl G2 rfl (Ck rfl) (I5 ?_)
  conv=>whnf
  refine ⟨by exact ⟨Int.le_refl 0,by show (0:Int)<(x.workers.length:Int);omega⟩,?_⟩
  conv=>whnf
  refine Jc A0 rfl rfl rfl rfl rfl rfl (jn:=(x.tokens.getD e.toNat default).at_.toNat) (by rw [show (x.tokens.getD e.toNat default).at_=0 from hA]) rfl rfl (fun v=>go A0 false ?_)
  conv=>whnf
  (repeat refine An ?_)
  refine Am (j:=e) A0 rfl rfl rfl rfl rfl rfl rfl rfl (Dq ((Ab x (A9 x e).at_).black.set e.toNat false)) (C6 hbl rfl) (A8 ?_)
  rw [Tm hT hg]
  refine Ej Tryz.prog 2 ((x.tokens.getD e.toNat default).at_.toNat) [(5,16)] (Al (x.workers.set (x.tokens.getD e.toNat default).at_.toNat (Ef (Ab x (A9 x e).at_) e))) hj rfl rfl G2 rfl (Fw hj rfl) ?_
  exact Bu A0 () trivial rfl rfl rfl rfl B1
 have hg:(A9 x e).going=true:=by simpa [A9] using hg
 refine ⟨fun hA=>?_,fun hA=>?_⟩<;>conv=>whnf
 ·have hA:(A9 x e).at_>0:=of_decide_eq_true hA
  refine At (Fc ((x.tokens.getD e.toNat default).sum+(x.workers.getD (x.tokens.getD e.toNat default).at_.toNat default).sums.getD e.toNat default) (-1000000) 1000000) rfl (A8 ?_)
  repeat refine Bd ?_
  refine ⟨fun hS=>?_,fun hS=>?_⟩<;>conv=>whnf
  ·rw [A8s hT hg hA (fun p=>by simp only [Gj,A9,Ab] at p;simp only [beq_iff_eq,beq_eq_false_iff_ne,bne_iff_ne,bne_eq_false_iff_eq,Bool.not_eq_true',Bool.not_eq_false',Go.Sx.Ah,Go.Sx.Aw,decide_eq_true_eq,decide_eq_false_iff_not,ne_eq,Int.not_lt,Int.not_le,ge_iff_le,gt_iff_lt,Int.toNat_zero,Int.toNat_one,Int.toNat_natCast] at *;omega)]
   refine Ej Tryz.prog 2 ((x.tokens.getD e.toNat default).at_.toNat) [(0,7),(1,8),(2,9),(3,10),(4,11),(5,12),(6,13),(7,14)] (Al x.workers) hj rfl rfl G2 rfl (Ck rfl) ?_
   exact Bu A0 () trivial rfl rfl rfl rfl B1
  have hS:Gj ((A9 x e).sum+(Ab x (A9 x e).at_).sums.getD e.toNat default):=by simp only [Gj,A9,Ab];simp only [beq_iff_eq,beq_eq_false_iff_ne,bne_iff_ne,bne_eq_false_iff_eq,Bool.not_eq_true',Bool.not_eq_false',Go.Sx.Ah,Go.Sx.Aw,decide_eq_true_eq,decide_eq_false_iff_not,ne_eq,Int.not_lt,Int.not_le,ge_iff_le,gt_iff_lt,Int.toNat_zero,Int.toNat_one,Int.toNat_natCast] at *;omega
  first|(refine Ax 8 rfl [0,1,2,3,4,5,6,7,8] A7 (A8 ?_))|(refine Ax 14 rfl [0,1,2,3,4,5,6,7,8,9,10,11,12,13,14,15,16,17,18,19,20] A7 (A8 ?_))|(refine Ax 19 rfl [0,1,2,3,4,5,6,7,8,9,10,11,12,13,14,15,16,17,18,19,20,21,22,23,24,25,26,27,28,29] A7 (A8 ?_))|(refine Ax 10 rfl [0,1,2,3,4,5,6,7,8] A7 (A8 ?_))
  (repeat refine An ?_)
  refine ⟨fun hb=>?_,fun hb=>?_⟩<;>conv=>whnf
  ·have hb:(A9 x e).black=true:=hb
   repeat refine Bd ?_
   refine ⟨fun hc=>?_,fun hc=>?_⟩<;>conv=>whnf
   ·have hc:(A9 x e).capped=true:=hc
    repeat refine Bd ?_
    (repeat refine An ?_)
    refine Am (j:=e) A0 rfl rfl rfl rfl rfl rfl rfl rfl (Bo (x.tokens.set e.toNat ⟨true,(A9 x e).at_-1,(A9 x e).sum+(Ab x (A9 x e).at_).sums.getD e.toNat default,(A9 x e).black||(Ab x (A9 x e).at_).black.getD e.toNat default,(A9 x e).capped||(Ab x (A9 x e).at_).caps.getD e.toNat default⟩)) (C6 htk (by rw [hb,hc];rfl)) ?_
    refine M4 2 ((x.tokens.getD e.toNat default).at_.toNat) [(0,7),(1,8),(2,9),(3,10),(4,11),(5,12),(6,13),(7,14)] (Al x.workers) hj rfl rfl G2 rfl (Ck rfl) (I5 ?_)
    conv=>whnf
    (repeat refine An ?_)
    refine Jc A0 rfl rfl rfl rfl rfl rfl (jn:=(x.tokens.getD e.toNat default).at_.toNat) rfl rfl rfl (fun v=>go A0 false ?_)
    conv=>whnf
    (repeat refine An ?_)
    refine Am (j:=e) A0 rfl rfl rfl rfl rfl rfl rfl rfl (Dq ((Ab x (A9 x e).at_).black.set e.toNat false)) (C6 hbl rfl) (A8 ?_)
    rw [Jk hT hg hA hS]
    refine Ej Tryz.prog 2 ((x.tokens.getD e.toNat default).at_.toNat) [(5,16)] (Al (x.workers.set (x.tokens.getD e.toNat default).at_.toNat (Ef (Ab x (A9 x e).at_) e))) hj rfl rfl G2 rfl (Fw hj rfl) ?_
    exact Bu A0 () trivial rfl rfl rfl rfl B1
   have hc:(A9 x e).capped=false:=hc
   repeat refine Bd ?_
   (repeat refine An ?_)
   refine Am (j:=e) A0 rfl rfl rfl rfl rfl rfl rfl rfl (Bo (x.tokens.set e.toNat ⟨true,(A9 x e).at_-1,(A9 x e).sum+(Ab x (A9 x e).at_).sums.getD e.toNat default,(A9 x e).black||(Ab x (A9 x e).at_).black.getD e.toNat default,(A9 x e).capped||(Ab x (A9 x e).at_).caps.getD e.toNat default⟩)) (C6 htk (by rw [hb,hc];rfl)) ?_
   refine M4 2 ((x.tokens.getD e.toNat default).at_.toNat) [(0,7),(1,8),(2,9),(3,10),(4,11),(5,12),(6,13),(7,14)] (Al x.workers) hj rfl rfl G2 rfl (Ck rfl) (I5 ?_)
   conv=>whnf
   (repeat refine An ?_)
   refine Jc A0 rfl rfl rfl rfl rfl rfl (jn:=(x.tokens.getD e.toNat default).at_.toNat) rfl rfl rfl (fun v=>go A0 false ?_)
   conv=>whnf
   (repeat refine An ?_)
   refine Am (j:=e) A0 rfl rfl rfl rfl rfl rfl rfl rfl (Dq ((Ab x (A9 x e).at_).black.set e.toNat false)) (C6 hbl rfl) (A8 ?_)
   rw [Jk hT hg hA hS]
   refine Ej Tryz.prog 2 ((x.tokens.getD e.toNat default).at_.toNat) [(5,16)] (Al (x.workers.set (x.tokens.getD e.toNat default).at_.toNat (Ef (Ab x (A9 x e).at_) e))) hj rfl rfl G2 rfl (Fw hj rfl) ?_
   exact Bu A0 () trivial rfl rfl rfl rfl B1
  have hb:(A9 x e).black=false:=hb
  repeat refine Bd ?_
  refine ⟨fun hc=>?_,fun hc=>?_⟩<;>conv=>whnf
  ·have hc:(A9 x e).capped=true:=hc
   repeat refine Bd ?_
   (repeat refine An ?_)
   refine Am (j:=e) A0 rfl rfl rfl rfl rfl rfl rfl rfl (Bo (x.tokens.set e.toNat ⟨true,(A9 x e).at_-1,(A9 x e).sum+(Ab x (A9 x e).at_).sums.getD e.toNat default,(A9 x e).black||(Ab x (A9 x e).at_).black.getD e.toNat default,(A9 x e).capped||(Ab x (A9 x e).at_).caps.getD e.toNat default⟩)) (C6 htk (by rw [hb,hc];rfl)) ?_
   refine M4 2 ((x.tokens.getD e.toNat default).at_.toNat) [(0,7),(1,8),(2,9),(3,10),(4,11),(5,12),(6,13),(7,14)] (Al x.workers) hj rfl rfl G2 rfl (Ck rfl) (I5 ?_)
   conv=>whnf
   (repeat refine An ?_)
   refine Jc A0 rfl rfl rfl rfl rfl rfl (jn:=(x.tokens.getD e.toNat default).at_.toNat) rfl rfl rfl (fun v=>go A0 false ?_)
   conv=>whnf
   (repeat refine An ?_)
   refine Am (j:=e) A0 rfl rfl rfl rfl rfl rfl rfl rfl (Dq ((Ab x (A9 x e).at_).black.set e.toNat false)) (C6 hbl rfl) (A8 ?_)
   rw [Jk hT hg hA hS]
   refine Ej Tryz.prog 2 ((x.tokens.getD e.toNat default).at_.toNat) [(5,16)] (Al (x.workers.set (x.tokens.getD e.toNat default).at_.toNat (Ef (Ab x (A9 x e).at_) e))) hj rfl rfl G2 rfl (Fw hj rfl) ?_
   exact Bu A0 () trivial rfl rfl rfl rfl B1
  have hc:(A9 x e).capped=false:=hc
  repeat refine Bd ?_
  (repeat refine An ?_)
  refine Am (j:=e) A0 rfl rfl rfl rfl rfl rfl rfl rfl (Bo (x.tokens.set e.toNat ⟨true,(A9 x e).at_-1,(A9 x e).sum+(Ab x (A9 x e).at_).sums.getD e.toNat default,(A9 x e).black||(Ab x (A9 x e).at_).black.getD e.toNat default,(A9 x e).capped||(Ab x (A9 x e).at_).caps.getD e.toNat default⟩)) (C6 htk (by rw [hb,hc];rfl)) ?_
  refine M4 2 ((x.tokens.getD e.toNat default).at_.toNat) [(0,7),(1,8),(2,9),(3,10),(4,11),(5,12),(6,13),(7,14)] (Al x.workers) hj rfl rfl G2 rfl (Ck rfl) (I5 ?_)
  conv=>whnf
  (repeat refine An ?_)
  refine Jc A0 rfl rfl rfl rfl rfl rfl (jn:=(x.tokens.getD e.toNat default).at_.toNat) rfl rfl rfl (fun v=>go A0 false ?_)
  conv=>whnf
  (repeat refine An ?_)
  refine Am (j:=e) A0 rfl rfl rfl rfl rfl rfl rfl rfl (Dq ((Ab x (A9 x e).at_).black.set e.toNat false)) (C6 hbl rfl) (A8 ?_)
  rw [Jk hT hg hA hS]
  refine Ej Tryz.prog 2 ((x.tokens.getD e.toNat default).at_.toNat) [(5,16)] (Al (x.workers.set (x.tokens.getD e.toNat default).at_.toNat (Ef (Ab x (A9 x e).at_) e))) hj rfl rfl G2 rfl (Fw hj rfl) ?_
  exact Bu A0 () trivial rfl rfl rfl rfl B1
 have hA:¬ (A9 x e).at_>0:=of_decide_eq_false hA
 have hz:(x.tokens.getD e.toNat default).at_=0:=by
  have:¬ (x.tokens.getD e.toNat default).at_>0:=hA
  omega
 have hsw:(C9 x e ⟨false,(A9 x e).at_,(A9 x e).sum,(A9 x e).black,(A9 x e).capped⟩).w≤16000000:=by rw [B62];exact h
 first|(refine Ax 8 rfl [0,1,2,3,4,5,6,7,8] A7 (A8 ?_))|(refine Ax 14 rfl [0,1,2,3,4,5,6,7,8,9,10,11,12,13,14,15,16,17,18,19,20] A7 (A8 ?_))|(refine Ax 19 rfl [0,1,2,3,4,5,6,7,8,9,10,11,12,13,14,15,16,17,18,19,20,21,22,23,24,25,26,27,28,29] A7 (A8 ?_))|(refine Ax 10 rfl [0,1,2,3,4,5,6,7,8] A7 (A8 ?_))
 (repeat refine An ?_)
 refine Am (j:=e) A0 rfl rfl rfl rfl rfl rfl rfl rfl (Bo (x.tokens.set e.toNat ⟨false,(A9 x e).at_,(A9 x e).sum,(A9 x e).black,(A9 x e).capped⟩)) (C6 htk rfl) ?_
 refine A8 ?_
 refine ⟨fun hb=>?_,fun hb=>?_⟩<;>conv=>whnf
 ·have hb:(A9 x e).black=false:=by simpa [A9] using hb
  repeat refine Bd ?_
  (repeat refine An ?_)
  refine ⟨fun hw=>?_,fun hw=>?_⟩<;>conv=>whnf
  ·have hw:(Ab x (A9 x e).at_).black.getD e.toNat default=false:=by simpa [A9,Ab] using hw
   repeat refine Bd ?_
   refine ⟨fun hs=>?_,fun hs=>?_⟩<;>conv=>whnf
   ·have hs:(A9 x e).sum+(Ab x (A9 x e).at_).sums.getD e.toNat default=0:=eq_of_beq hs
    have hyes:=And.intro hb (And.intro hw hs)
    repeat refine Bd ?_
    have hw0:Ab x (A9 x e).at_=x.workers.getD 0 default:=by
     show x.workers.getD (x.tokens.getD e.toNat default).at_.toNat default=_
     rw [hz]
     rfl
    refine ⟨fun hc=>?_,fun hc=>?_⟩<;>conv=>whnf
    ·have hc:(A9 x e).capped=true:=hc
     have hcap:((A9 x e).capped||(Ab x (A9 x e).at_).caps.getD e.toNat default)=true:=by rw [hc];rfl
     repeat refine Bd ?_
     (repeat refine An ?_)
     refine A1x 2 ((x.tokens.getD e.toNat default).at_.toNat) [(0,7),(1,8),(2,9),(3,10),(4,11),(5,12),(6,13),(7,14)] (Al x.workers) hj rfl rfl G2 rfl (Ck rfl) ?_
     refine Ak (A4p (C9 x e ⟨false,(A9 x e).at_,(A9 x e).sum,(A9 x e).black,(A9 x e).capped⟩) e true (B9 x) hsw hl0) hH hp rfl B1 rfl rfl (fun r hr=>go A0 false ?_)
     conv=>whnf
     rw [Jj hT hg hA,F2,if_pos hyes,hcap,show Ct (Ab x (A9 x e).at_)=Ct (x.workers.getD 0 default) by rw [hw0]]
     exact Bu A0 () trivial rfl rfl rfl rfl B1
    have hc:(A9 x e).capped=false:=hc
    have hcap:((A9 x e).capped||(Ab x (A9 x e).at_).caps.getD e.toNat default)=(Ab x (A9 x e).at_).caps.getD e.toNat default:=by rw [hc];rfl
    repeat refine Bd ?_
    (repeat refine An ?_)
    refine A1x 2 ((x.tokens.getD e.toNat default).at_.toNat) [(0,7),(1,8),(2,9),(3,10),(4,11),(5,12),(6,13),(7,14)] (Al x.workers) hj rfl rfl G2 rfl (Ck rfl) ?_
    refine Ak (A4p (C9 x e ⟨false,(A9 x e).at_,(A9 x e).sum,(A9 x e).black,(A9 x e).capped⟩) e ((Ab x (A9 x e).at_).caps.getD e.toNat default) (B9 x) hsw hl0) hH hp rfl B1 rfl rfl (fun r hr=>go A0 false ?_)
    conv=>whnf
    rw [Jj hT hg hA,F2,if_pos hyes,hcap,show Ct (Ab x (A9 x e).at_)=Ct (x.workers.getD 0 default) by rw [hw0]]
    exact Bu A0 () trivial rfl rfl rfl rfl B1
   have hs:(A9 x e).sum+(Ab x (A9 x e).at_).sums.getD e.toNat default≠0:=beq_eq_false_iff_ne.1 hs
   have hno:¬ ((A9 x e).black=false∧(Ab x (A9 x e).at_).black.getD e.toNat default=false∧(A9 x e).sum+(Ab x (A9 x e).at_).sums.getD e.toNat default=0):=fun p=>hs p.2.2
   repeat refine Bd ?_
   rw [Jj hT hg hA,F2,if_neg hno]
   refine Ej Tryz.prog 2 ((x.tokens.getD e.toNat default).at_.toNat) [(0,7),(1,8),(2,9),(3,10),(4,11),(5,12),(6,13),(7,14)] (Al x.workers) hj rfl rfl G2 rfl (Ck rfl) ?_
   exact Bu A0 () trivial rfl rfl rfl rfl B1
  have hw:(Ab x (A9 x e).at_).black.getD e.toNat default=true:=by simpa [A9,Ab] using hw
  have hno:¬ ((A9 x e).black=false∧(Ab x (A9 x e).at_).black.getD e.toNat default=false∧(A9 x e).sum+(Ab x (A9 x e).at_).sums.getD e.toNat default=0):=fun p=>by rw [hw] at p;exact absurd p.2.1 Az
  repeat refine Bd ?_
  rw [Jj hT hg hA,F2,if_neg hno]
  refine Ej Tryz.prog 2 ((x.tokens.getD e.toNat default).at_.toNat) [(0,7),(1,8),(2,9),(3,10),(4,11),(5,12),(6,13),(7,14)] (Al x.workers) hj rfl rfl G2 rfl (Ck rfl) ?_
  exact Bu A0 () trivial rfl rfl rfl rfl B1
 have hb:(A9 x e).black=true:=by simpa [A9] using hb
 have hno:¬ ((A9 x e).black=false∧(Ab x (A9 x e).at_).black.getD e.toNat default=false∧(A9 x e).sum+(Ab x (A9 x e).at_).sums.getD e.toNat default=0):=fun p=>by rw [hb] at p;exact absurd p.1 Az
 repeat refine Bd ?_
 rw [Jj hT hg hA,F2,if_neg hno]
 refine Ej Tryz.prog 2 ((x.tokens.getD e.toNat default).at_.toNat) [(0,7),(1,8),(2,9),(3,10),(4,11),(5,12),(6,13),(7,14)] (Al x.workers) hj rfl rfl G2 rfl (Ck rfl) ?_
 exact Bu A0 () trivial rfl rfl rfl rfl B1
theorem Ti (x:A3)(h:x.w≤16000000):A0f Tryz.prog 64 [] [.agg x.c] (fun _:Unit=>True) (fun _=>rc x):=by
 refine B2f A0 false Tryz.func64 rfl Az fun W hp=>?_
 conv=>whnf
 first|(refine Ax 1 rfl [0,2,1,3,4,5,6] A7 (A8 ?_))
 refine Cn (Um x Ac) rfl (A8 ?_)
 refine At (Yd x Ac) rfl (A8 ?_)
 exact B8e A0 () trivial rfl rfl rfl (by repeat' (first|exact trivial|exact rfl|exact .inr ⟨rfl,rfl,_,_,rfl⟩|refine ⟨?_,?_⟩))
theorem Yg (x:A3)(e:Int)(h:x.w≤16000000):Be Tryz.prog 53 [.agg x.c,.one (vi e)] [.agg (Bc x e).1.c,.one (vb (Bc x e).2)]:=by
 refine B5 A0 false Tryz.func53 rfl Az fun W=>?_
 conv=>whnf
 have hp:Kv ⟨W,fun _=>False⟩ []:=fun _ h=>by cases h
 have hH:∀w,Ba.rel ⟨W,fun _=>False⟩ w→True:=fun _ _=>trivial
 refine Tp (Ti x h) hp rfl (fun r hr=>go A0 false ?_)
 conv=>whnf
 refine Ak (Zy x e h) hH hp rfl B1 rfl rfl (fun r2 hr2=>go A0 false ?_)
 conv=>whnf
 refine Ap A0 rfl rfl ?_
 exact B1
end Go.Proofs.YtdendlkeiaccpaaGreatDoor
