/- Part 19 of the proof that each of the laws FnTold returns true for every input. No conditions. -/
import Derived.Test.YtdendlkeiaccpaaGreatDoorP5
import Derived.Test.YtdendlkeiaccpaaGreatDoorP10
import Derived.Test.YtdendlkeiaccpaaGreatDoorP18
import Derived.Test.YtdendlkeiaccpaaGreatDoorP16

set_option linter.unusedSimpArgs false
set_option linter.unusedVariables false
set_option maxRecDepth 100000
namespace Go.Proofs.YtdendlkeiaccpaaGreatDoor
open Go.Sx
theorem A7m (e:Int)(b:Bool)(k:Nat):(Mp e b k).length=k:=by rw [Mp,List.length_map,List.length_range]
theorem A3x (e:Int)(b:Bool)(k:Nat):Mp e b (k+1)=Mp e b k++[⟨(k:Int)+1,e,b⟩]:=by
 rw [Mp,List.range_succ,List.map_append]
 rfl
set_option maxHeartbeats 4000000 in
theorem A2n (x:A5)(e:Int)(cap ok:Bool)(h:x.w≤16000000)(h0:0<x.workers.length):
  Cw Tryz.prog (fun _=>True) 131 [] (Ru x ok) [.one (vi e),.one (vb cap)] (fun _:Unit=>True) (fun _=>Ru (Px (Bb x 0 (H2 (x.workers.getD 0 default) ⟨e,cap⟩)) (Mp e cap (x.workers.length-1))) ok) (fun _=>[]):=by
 have hw:=A5.worker_le h h0
 have hnl:=A5.news_le h
 have hwl:=A5.workers_le h
 have hdl:(x.workers.getD 0 default).dones.length≤16000000:=by simp only [A9.w] at hw;omega
 refine Dn A0 false Tryz.func131 rfl Aw fun B b hH hp=>?_
 conv=>whnf
 refine Rq 0 3 2 rfl rfl (fun v2=>?_)
 refine Xv 0 3 rfl rfl (fun ho_v2=>?_)
 refine J8 rfl ?_
 refine Bu A0 false 0 rfl rfl A7 rfl (A4 B2) ?_
 refine Bu A0 false 1 rfl rfl A7 rfl (A4 B2) ?_
 refine Bu A0 false 2 rfl rfl A7 rfl (A4 B2) ?_
 refine Bu A0 false 3 rfl rfl A7 rfl (A4 B2) ?_
 refine Bu A0 false 5 rfl rfl A7 rfl (A4 B2) ?_
 refine Bu A0 false 6 rfl rfl A7 rfl (A4 B2) ?_
 refine Bu A0 false 7 rfl rfl A7 rfl (A4 B2) ?_
 refine Bu A0 false 8 rfl rfl A7 rfl (A4 B2) ?_
 refine Bu A0 false 13 rfl rfl A7 rfl (A4 B2) ?_
 refine Bu A0 false 14 rfl rfl A7 rfl (A4 B2) ?_
 refine Ej (s':=?_) 9 rfl A7 ?_ ?_
 rotate_left
 refine A8 ?_
 (repeat refine An ?_)
 exact Bf
 refine Ej (s':=?_) 10 rfl A7 ?_ ?_
 rotate_left
 refine A8 ?_
 refine K0 16 2 rfl rfl (A8 ?_)
 (repeat refine An ?_)
 exact Bf
 refine Bu A0 false 11 rfl rfl A7 rfl (A4 B2) ?_
 refine Pj (α:=Value) (s':=?_) 12 rfl A7 ?_ ?_
 rotate_left
 refine A8 ?_
 refine I9 A0 rfl rfl rfl rfl rfl rfl (jn:=0) rfl rfl rfl (fun v=>go A0 false ?_)
 conv=>whnf
 exact Tz v
 intro v
 refine Ej (s':=?_) 15 rfl A7 ?_ ?_
 rotate_left
 refine A8 ?_
 (repeat refine An ?_)
 exact Bf
 refine Lf [16,17,18,19,20] [⟨4,11,.rd v2⟩] A7 ?_
 refine Bm (s':=?_) A0 rfl A7 E5 ?_ ?_
 rotate_left
 refine A8 ?_
 (repeat refine An ?_)
 exact Bf
 refine Bm (s':=?_) A0 rfl A7 E5 ?_ ?_
 rotate_left
 refine A8 ?_
 refine B1 A0 rfl rfl rfl rfl rfl rfl rfl rfl rfl rfl rfl (Hv ((x.workers.getD 0 default).dones++[⟨e,cap⟩])) (Aa rfl) Bg Ab (A8 ?_)
 exact Bf
 refine Bm (s':=?_) A0 rfl A7 E5 ?_ ?_
 rotate_left
 refine A8 ?_
 refine K0 11 2 rfl rfl (A8 ?_)
 (repeat refine An ?_)
 exact Bf
 refine Bm (s':=?_) A0 rfl A7 E5 ?_ ?_
 rotate_left
 refine A8 ?_
 (repeat refine An ?_)
 exact Bf
 refine Bm (s':=?_) A0 rfl A7 E5 ?_ ?_
 rotate_left
 refine A8 ?_
 refine Ao (j:=0) A0 rfl rfl rfl rfl rfl rfl rfl rfl (Av (x.workers.set 0 (H2 (x.workers.getD 0 default) ⟨e,cap⟩))) (Fo h0 rfl) (A8 ?_)
 exact Bf
 refine K3 A0 A7 E5 (GW.out (Ji ?_))
 conv=>whnf
 refine Rm 0 3 2 rfl rfl rfl ?_
 refine C0 A0 false [7,8,9,10,11,12,13,14,15,16,17,18,19,20,21,22,23,24,25,26] (fun k:Nat=>[(6,.c (vi (k+1)))]) (fun k=>[⟨0,[.own 1,.c (vi x.graph.workers),.c (vi x.graph.cap),.own 2,.own 3,.own 4,.own 5,.c (vb ok)]⟩]) (fun k=>[⟨1,Bp x.graph.nodes⟩,⟨2,Av (x.workers.set 0 (H2 (x.workers.getD 0 default) ⟨e,cap⟩))⟩,⟨3,Cy x.links⟩,⟨4,C9 x.tokens⟩,⟨5,Cj (x.news++Mp e cap k)⟩])
  (fun k=>k≤(x.workers.length-1)) (fun k=>(x.workers.length-1)-k) 0 (Nat.zero_le _) ⟨G9,trivial⟩ Cf ⟨Eu,Eu,Eu,Eu,Eu,trivial⟩ Cr A7 (fun k hk=>?_)
 conv=>whnf
 refine Fi (fun hg=>?_) fun hg=>?_<;>conv=>whnf
 ·rw [List.length_set] at hg
  refine B1 A0 rfl rfl rfl rfl rfl rfl rfl rfl rfl rfl rfl (Cj (x.news++Mp e cap k++[⟨k+1,e,cap⟩])) (Aa rfl) Bg (by rw [List.length_append,A7m];omega) (A8 ?_)
  (repeat refine An ?_)
  refine B9 [(0,0),(1,1),(2,2),(3,3),(4,4),(5,10)] (k+1) Ab Ab ⟨by rw [Int.natCast_add];rfl,trivial⟩ ⟨rfl,rfl,rfl,rfl,by show (_:Ac)=_;rw [A3x,←List.append_assoc],trivial⟩ Cf A7 Cr A7
 rw [List.length_set] at hg
 repeat refine Bj ?_
 obtain rfl:k=x.workers.length-1:=by omega
 exact B5h (Bl A0 () trivial rfl rfl rfl rfl Ay)
theorem B4f (c:A5)(e:Int)(t:D0):(Da c e t).w=c.w:=by simp only [A5.w,Da,List.length_set]
set_option maxHeartbeats 4000000 in
theorem A76 (x:A5)(e:Int)(h:x.w≤16000000):Cw Tryz.prog (fun _=>True) 92 [] (rc x) [.one (vi e)] (fun _:Unit=>True) (fun _=>Ru (Cu x e).1 (B4 x)) (fun _=>[.one (vb (Cu x e).2)]):=by
 refine Dn A0 false Tryz.func92 rfl Aw fun B b hH hp=>?_
 conv=>whnf
 refine ⟨fun hC=>?_,fun hC=>?_⟩<;>conv=>whnf
 ·repeat refine Bj ?_
  rw [Vz (fun p=>by rw [show B4 x=true from decide_eq_true p.1] at hC;exact absurd hC Aw)]
  exact Bl A0 () trivial rfl rfl rfl rfl Ay
 have hC:B6 x:=of_decide_eq_true (show B4 x=true by simpa using hC)
 have hl0:1≤x.workers.length:=by have:=hC.1.2.1;have:=hC.1.1.2.1;omega
 have htl:x.tokens.length=4:=hC.1.2.2.2
 have hwl4:x.workers.length≤4:=by have:=hC.1.2.1;have:=hC.1.1.2.1;omega
 repeat refine Bj ?_
 refine B5 (Fh e 0 3) rfl (A8 ?_)
 repeat refine Bj ?_
 refine ⟨fun hE=>?_,fun hE=>?_⟩<;>conv=>whnf
 ·repeat refine Bj ?_
  rw [Vz (fun p=>by have:=p.2.1;clear hC p;simp only [beq_iff_eq,beq_eq_false_iff_ne,bne_iff_ne,bne_eq_false_iff_eq,Bool.not_eq_true',Bool.not_eq_false',Go.Sx.As,Go.Sx.Bn,decide_eq_true_eq,decide_eq_false_iff_not,ne_eq,Int.not_lt,Int.not_le,ge_iff_le,gt_iff_lt,Int.toNat_zero,Int.toNat_one,Int.toNat_natCast] at *;omega)]
  exact Bl A0 () trivial rfl rfl rfl rfl Ay
 have hE:0≤e∧e≤3:=by clear hC;simp only [beq_iff_eq,beq_eq_false_iff_ne,bne_iff_ne,bne_eq_false_iff_eq,Bool.not_eq_true',Bool.not_eq_false',Go.Sx.As,Go.Sx.Bn,decide_eq_true_eq,decide_eq_false_iff_not,ne_eq,Int.not_lt,Int.not_le,ge_iff_le,gt_iff_lt,Int.toNat_zero,Int.toNat_one,Int.toNat_natCast] at *;omega
 repeat refine Bj ?_
 refine B5 (Vr x e Ab) rfl (A8 ?_)
 repeat refine Bj ?_
 refine ⟨fun hD=>?_,fun hD=>?_⟩<;>conv=>whnf
 ·rw [Vz (fun p=>by have hd:Gf (x.workers.getD 0 default) e=false:=p.2.2.1;rw [K6,if_pos Ab,hd] at hD;cases hD)]
  exact Bl A0 () trivial rfl rfl rfl rfl Ay
 have hD:Gf (Ad x 0) e=false:=by rw [K6,if_pos Ab] at hD;exact hD
 have hTP:=hC.2.2.2.1 _ (B8 (d:=default) (show e.toNat<x.tokens.length by omega))
 have hat:0≤(x.tokens.getD e.toNat default).at_∧(x.tokens.getD e.toNat default).at_<x.workers.length:=by
  have:=hC.1.2.1
  have:=hTP.1
  omega
 have hj:(x.tokens.getD e.toNat default).at_.toNat<x.workers.length:=by omega
 have hWP:=hC.2.1 _ (B8 (d:=default) hj)
 (repeat refine An ?_)
 refine V1 A0 rfl rfl rfl rfl rfl (jn:=(x.tokens.getD e.toNat default).at_.toNat) rfl (r:=A9.c ((x.workers).getD ((x.tokens.getD e.toNat default).at_.toNat) default)) rfl hj rfl rfl (fun u=>go A0 false ?_)
 conv=>whnf
 refine B5 (Wo (x.workers.getD (x.tokens.getD e.toNat default).at_.toNat default) e (by have:=A5.worker_le h hj;omega)) rfl ?_
 cases hP:Jr (x.workers.getD (x.tokens.getD e.toNat default).at_.toNat default) e
 ·refine Mr 2 ((x.tokens.getD e.toNat default).at_.toNat) [(0,7),(1,8),(2,9),(3,10),(4,11),(5,12),(6,13),(7,14)] (Av x.workers) hj rfl rfl Ht rfl (D5 rfl) (Ji ?_)
  conv=>whnf
  repeat refine Bj ?_
  rw [Vz (fun p=>by have q:=p.2.2.2;rw [show Ad x (Af x e).at_=x.workers.getD (x.tokens.getD e.toNat default).at_.toNat default from rfl,hP] at q;cases q)]
  exact Bl A0 () trivial rfl rfl rfl rfl Ay
 have hT:Pv x e:=⟨hC,hE,hD,hP⟩
 obtain ⟨hL1,hL2,hL3⟩:=hWP.2.1
 have hs1:=hTP.2.2
 have htk:e.toNat<x.tokens.length:=by omega
 have hbl:e.toNat<(Ad x (Af x e).at_).black.length:=by
  show e.toNat<(x.workers.getD (x.tokens.getD e.toNat default).at_.toNat default).black.length
  omega
 have hs2:I4 ((x.workers.getD (x.tokens.getD e.toNat default).at_.toNat default).sums.getD e.toNat default):=hWP.2.2.2.1 _ (B8 Ab)
 simp only [I4] at hs2
 refine A8 ?_
 repeat refine Bj ?_
 first|(refine B7 8 rfl [0,1,2,3,4,5,6,7,8] A7 (A8 ?_))|(refine B7 14 rfl [0,1,2,3,4,5,6,7,8,9,10,11,12,13,14,15,16,17,18,19,20] A7 (A8 ?_))|(refine B7 19 rfl [0,1,2,3,4,5,6,7,8,9,10,11,12,13,14,15,16,17,18,19,20,21,22,23,24,25,26,27,28,29] A7 (A8 ?_))|(refine B7 10 rfl [0,1,2,3,4,5,6,7,8] A7 (A8 ?_))
 refine ⟨by (show _∧_;omega),?_⟩
 conv=>whnf
 refine ⟨by (show _∧_;omega),?_⟩
 conv=>whnf
 refine ⟨fun hg=>?_,fun hg=>?_⟩<;>conv=>whnf
 ·have hg:(Af x e).going=false:=by simpa [Af] using hg
  have hA:(Af x e).at_=0:=hTP.2.1 hg
  first|(refine B7 8 rfl [0,1,2,3,4,5,6,7,8] A7 (A8 ?_))|(refine B7 14 rfl [0,1,2,3,4,5,6,7,8,9,10,11,12,13,14,15,16,17,18,19,20] A7 (A8 ?_))|(refine B7 19 rfl [0,1,2,3,4,5,6,7,8,9,10,11,12,13,14,15,16,17,18,19,20,21,22,23,24,25,26,27,28,29] A7 (A8 ?_))|(refine B7 10 rfl [0,1,2,3,4,5,6,7,8] A7 (A8 ?_))
  (repeat refine An ?_)
  refine Ao (j:=e) A0 rfl rfl rfl rfl rfl rfl rfl rfl (C9 (x.tokens.set e.toNat ⟨true,(x.workers.length:Int)-1,0,false,(Ad x (Af x e).at_).caps.getD e.toNat default⟩)) (Cb htk rfl) ?_
  refine Mr 2 ((x.tokens.getD e.toNat default).at_.toNat) [(0,7),(1,8),(2,9),(3,10),(4,11),(5,12),(6,13),(7,14)] (Av x.workers) hj rfl rfl Ht rfl (D5 rfl) (Ji ?_)
  conv=>whnf
  refine ⟨by exact ⟨Int.le_refl 0,by show (0:Int)<(x.workers.length:Int);omega⟩,?_⟩
  conv=>whnf
  refine I9 A0 rfl rfl rfl rfl rfl rfl (jn:=(x.tokens.getD e.toNat default).at_.toNat) (by rw [show (x.tokens.getD e.toNat default).at_=0 from hA]) rfl rfl (fun v=>go A0 false ?_)
  conv=>whnf
  (repeat refine An ?_)
  refine Ao (j:=e) A0 rfl rfl rfl rfl rfl rfl rfl rfl (Ek ((Ad x (Af x e).at_).black.set e.toNat false)) (Cb hbl rfl) (A8 ?_)
  rw [A8c hT hg]
  refine Gu Tryz.prog 2 ((x.tokens.getD e.toNat default).at_.toNat) [(5,16)] (Av (x.workers.set (x.tokens.getD e.toNat default).at_.toNat (Iu (Ad x (Af x e).at_) e))) hj rfl rfl Ht rfl (J5 hj rfl) ?_
  exact Bl A0 () trivial rfl rfl rfl rfl Ay
 have hg:(Af x e).going=true:=by simpa [Af] using hg
 refine ⟨fun hA=>?_,fun hA=>?_⟩<;>conv=>whnf
 ·have hA:(Af x e).at_>0:=of_decide_eq_true hA
  refine B5 (Fh ((x.tokens.getD e.toNat default).sum+(x.workers.getD (x.tokens.getD e.toNat default).at_.toNat default).sums.getD e.toNat default) (-1000000) 1000000) rfl (A8 ?_)
  repeat refine Bj ?_
  refine ⟨fun hS=>?_,fun hS=>?_⟩<;>conv=>whnf
  ·rw [B4l hT hg hA (fun p=>by simp only [I4,Af,Ad] at p;simp only [beq_iff_eq,beq_eq_false_iff_ne,bne_iff_ne,bne_eq_false_iff_eq,Bool.not_eq_true',Bool.not_eq_false',Go.Sx.As,Go.Sx.Bn,decide_eq_true_eq,decide_eq_false_iff_not,ne_eq,Int.not_lt,Int.not_le,ge_iff_le,gt_iff_lt,Int.toNat_zero,Int.toNat_one,Int.toNat_natCast] at *;omega)]
   refine Gu Tryz.prog 2 ((x.tokens.getD e.toNat default).at_.toNat) [(0,7),(1,8),(2,9),(3,10),(4,11),(5,12),(6,13),(7,14)] (Av x.workers) hj rfl rfl Ht rfl (D5 rfl) ?_
   exact Bl A0 () trivial rfl rfl rfl rfl Ay
  have hS:I4 ((Af x e).sum+(Ad x (Af x e).at_).sums.getD e.toNat default):=by simp only [I4,Af,Ad];simp only [beq_iff_eq,beq_eq_false_iff_ne,bne_iff_ne,bne_eq_false_iff_eq,Bool.not_eq_true',Bool.not_eq_false',Go.Sx.As,Go.Sx.Bn,decide_eq_true_eq,decide_eq_false_iff_not,ne_eq,Int.not_lt,Int.not_le,ge_iff_le,gt_iff_lt,Int.toNat_zero,Int.toNat_one,Int.toNat_natCast] at *;omega
  first|(refine B7 8 rfl [0,1,2,3,4,5,6,7,8] A7 (A8 ?_))|(refine B7 14 rfl [0,1,2,3,4,5,6,7,8,9,10,11,12,13,14,15,16,17,18,19,20] A7 (A8 ?_))|(refine B7 19 rfl [0,1,2,3,4,5,6,7,8,9,10,11,12,13,14,15,16,17,18,19,20,21,22,23,24,25,26,27,28,29] A7 (A8 ?_))|(refine B7 10 rfl [0,1,2,3,4,5,6,7,8] A7 (A8 ?_))
  (repeat refine An ?_)
  refine ⟨fun hb=>?_,fun hb=>?_⟩<;>conv=>whnf
  ·have hb:(Af x e).black=true:=hb
   repeat refine Bj ?_
   refine ⟨fun hc=>?_,fun hc=>?_⟩<;>conv=>whnf
   ·have hc:(Af x e).capped=true:=hc
    repeat refine Bj ?_
    (repeat refine An ?_)
    refine Ao (j:=e) A0 rfl rfl rfl rfl rfl rfl rfl rfl (C9 (x.tokens.set e.toNat ⟨true,(Af x e).at_-1,(Af x e).sum+(Ad x (Af x e).at_).sums.getD e.toNat default,(Af x e).black||(Ad x (Af x e).at_).black.getD e.toNat default,(Af x e).capped||(Ad x (Af x e).at_).caps.getD e.toNat default⟩)) (Cb htk (by rw [hb,hc];rfl)) ?_
    refine Mr 2 ((x.tokens.getD e.toNat default).at_.toNat) [(0,7),(1,8),(2,9),(3,10),(4,11),(5,12),(6,13),(7,14)] (Av x.workers) hj rfl rfl Ht rfl (D5 rfl) (Ji ?_)
    conv=>whnf
    (repeat refine An ?_)
    refine I9 A0 rfl rfl rfl rfl rfl rfl (jn:=(x.tokens.getD e.toNat default).at_.toNat) rfl rfl rfl (fun v=>go A0 false ?_)
    conv=>whnf
    (repeat refine An ?_)
    refine Ao (j:=e) A0 rfl rfl rfl rfl rfl rfl rfl rfl (Ek ((Ad x (Af x e).at_).black.set e.toNat false)) (Cb hbl rfl) (A8 ?_)
    rw [R6 hT hg hA hS]
    refine Gu Tryz.prog 2 ((x.tokens.getD e.toNat default).at_.toNat) [(5,16)] (Av (x.workers.set (x.tokens.getD e.toNat default).at_.toNat (Iu (Ad x (Af x e).at_) e))) hj rfl rfl Ht rfl (J5 hj rfl) ?_
    exact Bl A0 () trivial rfl rfl rfl rfl Ay
   have hc:(Af x e).capped=false:=hc
   repeat refine Bj ?_
   (repeat refine An ?_)
   refine Ao (j:=e) A0 rfl rfl rfl rfl rfl rfl rfl rfl (C9 (x.tokens.set e.toNat ⟨true,(Af x e).at_-1,(Af x e).sum+(Ad x (Af x e).at_).sums.getD e.toNat default,(Af x e).black||(Ad x (Af x e).at_).black.getD e.toNat default,(Af x e).capped||(Ad x (Af x e).at_).caps.getD e.toNat default⟩)) (Cb htk (by rw [hb,hc];rfl)) ?_
   refine Mr 2 ((x.tokens.getD e.toNat default).at_.toNat) [(0,7),(1,8),(2,9),(3,10),(4,11),(5,12),(6,13),(7,14)] (Av x.workers) hj rfl rfl Ht rfl (D5 rfl) (Ji ?_)
   conv=>whnf
   (repeat refine An ?_)
   refine I9 A0 rfl rfl rfl rfl rfl rfl (jn:=(x.tokens.getD e.toNat default).at_.toNat) rfl rfl rfl (fun v=>go A0 false ?_)
   conv=>whnf
   (repeat refine An ?_)
   refine Ao (j:=e) A0 rfl rfl rfl rfl rfl rfl rfl rfl (Ek ((Ad x (Af x e).at_).black.set e.toNat false)) (Cb hbl rfl) (A8 ?_)
   rw [R6 hT hg hA hS]
   refine Gu Tryz.prog 2 ((x.tokens.getD e.toNat default).at_.toNat) [(5,16)] (Av (x.workers.set (x.tokens.getD e.toNat default).at_.toNat (Iu (Ad x (Af x e).at_) e))) hj rfl rfl Ht rfl (J5 hj rfl) ?_
   exact Bl A0 () trivial rfl rfl rfl rfl Ay
  have hb:(Af x e).black=false:=hb
  repeat refine Bj ?_
  refine ⟨fun hc=>?_,fun hc=>?_⟩<;>conv=>whnf
  ·have hc:(Af x e).capped=true:=hc
   repeat refine Bj ?_
   (repeat refine An ?_)
   refine Ao (j:=e) A0 rfl rfl rfl rfl rfl rfl rfl rfl (C9 (x.tokens.set e.toNat ⟨true,(Af x e).at_-1,(Af x e).sum+(Ad x (Af x e).at_).sums.getD e.toNat default,(Af x e).black||(Ad x (Af x e).at_).black.getD e.toNat default,(Af x e).capped||(Ad x (Af x e).at_).caps.getD e.toNat default⟩)) (Cb htk (by rw [hb,hc];rfl)) ?_
   refine Mr 2 ((x.tokens.getD e.toNat default).at_.toNat) [(0,7),(1,8),(2,9),(3,10),(4,11),(5,12),(6,13),(7,14)] (Av x.workers) hj rfl rfl Ht rfl (D5 rfl) (Ji ?_)
   conv=>whnf
   (repeat refine An ?_)
   refine I9 A0 rfl rfl rfl rfl rfl rfl (jn:=(x.tokens.getD e.toNat default).at_.toNat) rfl rfl rfl (fun v=>go A0 false ?_)
   conv=>whnf
   (repeat refine An ?_)
   refine Ao (j:=e) A0 rfl rfl rfl rfl rfl rfl rfl rfl (Ek ((Ad x (Af x e).at_).black.set e.toNat false)) (Cb hbl rfl) (A8 ?_)
   rw [R6 hT hg hA hS]
   refine Gu Tryz.prog 2 ((x.tokens.getD e.toNat default).at_.toNat) [(5,16)] (Av (x.workers.set (x.tokens.getD e.toNat default).at_.toNat (Iu (Ad x (Af x e).at_) e))) hj rfl rfl Ht rfl (J5 hj rfl) ?_
   exact Bl A0 () trivial rfl rfl rfl rfl Ay
  have hc:(Af x e).capped=false:=hc
  repeat refine Bj ?_
  (repeat refine An ?_)
  refine Ao (j:=e) A0 rfl rfl rfl rfl rfl rfl rfl rfl (C9 (x.tokens.set e.toNat ⟨true,(Af x e).at_-1,(Af x e).sum+(Ad x (Af x e).at_).sums.getD e.toNat default,(Af x e).black||(Ad x (Af x e).at_).black.getD e.toNat default,(Af x e).capped||(Ad x (Af x e).at_).caps.getD e.toNat default⟩)) (Cb htk (by rw [hb,hc];rfl)) ?_
  refine Mr 2 ((x.tokens.getD e.toNat default).at_.toNat) [(0,7),(1,8),(2,9),(3,10),(4,11),(5,12),(6,13),(7,14)] (Av x.workers) hj rfl rfl Ht rfl (D5 rfl) (Ji ?_)
  conv=>whnf
  (repeat refine An ?_)
  refine I9 A0 rfl rfl rfl rfl rfl rfl (jn:=(x.tokens.getD e.toNat default).at_.toNat) rfl rfl rfl (fun v=>go A0 false ?_)
  conv=>whnf
  (repeat refine An ?_)
  refine Ao (j:=e) A0 rfl rfl rfl rfl rfl rfl rfl rfl (Ek ((Ad x (Af x e).at_).black.set e.toNat false)) (Cb hbl rfl) (A8 ?_)
  rw [R6 hT hg hA hS]
  refine Gu Tryz.prog 2 ((x.tokens.getD e.toNat default).at_.toNat) [(5,16)] (Av (x.workers.set (x.tokens.getD e.toNat default).at_.toNat (Iu (Ad x (Af x e).at_) e))) hj rfl rfl Ht rfl (J5 hj rfl) ?_
  exact Bl A0 () trivial rfl rfl rfl rfl Ay
 have hA:¬ (Af x e).at_>0:=of_decide_eq_false hA
 have hz:(x.tokens.getD e.toNat default).at_=0:=by
  have:¬ (x.tokens.getD e.toNat default).at_>0:=hA
  omega
 have hsw:(Da x e ⟨false,(Af x e).at_,(Af x e).sum,(Af x e).black,(Af x e).capped⟩).w≤16000000:=by rw [B4f];exact h
 first|(refine B7 8 rfl [0,1,2,3,4,5,6,7,8] A7 (A8 ?_))|(refine B7 14 rfl [0,1,2,3,4,5,6,7,8,9,10,11,12,13,14,15,16,17,18,19,20] A7 (A8 ?_))|(refine B7 19 rfl [0,1,2,3,4,5,6,7,8,9,10,11,12,13,14,15,16,17,18,19,20,21,22,23,24,25,26,27,28,29] A7 (A8 ?_))|(refine B7 10 rfl [0,1,2,3,4,5,6,7,8] A7 (A8 ?_))
 (repeat refine An ?_)
 refine Ao (j:=e) A0 rfl rfl rfl rfl rfl rfl rfl rfl (C9 (x.tokens.set e.toNat ⟨false,(Af x e).at_,(Af x e).sum,(Af x e).black,(Af x e).capped⟩)) (Cb htk rfl) ?_
 refine A8 ?_
 refine ⟨fun hb=>?_,fun hb=>?_⟩<;>conv=>whnf
 ·have hb:(Af x e).black=false:=by simpa [Af] using hb
  repeat refine Bj ?_
  (repeat refine An ?_)
  refine ⟨fun hw=>?_,fun hw=>?_⟩<;>conv=>whnf
  ·have hw:(Ad x (Af x e).at_).black.getD e.toNat default=false:=by simpa [Af,Ad] using hw
   repeat refine Bj ?_
   refine ⟨fun hs=>?_,fun hs=>?_⟩<;>conv=>whnf
   ·have hs:(Af x e).sum+(Ad x (Af x e).at_).sums.getD e.toNat default=0:=eq_of_beq hs
    have hyes:=And.intro hb (And.intro hw hs)
    repeat refine Bj ?_
    have hw0:Ad x (Af x e).at_=x.workers.getD 0 default:=by
     show x.workers.getD (x.tokens.getD e.toNat default).at_.toNat default=_
     rw [hz]
     rfl
    refine ⟨fun hc=>?_,fun hc=>?_⟩<;>conv=>whnf
    ·have hc:(Af x e).capped=true:=hc
     have hcap:((Af x e).capped||(Ad x (Af x e).at_).caps.getD e.toNat default)=true:=by rw [hc];rfl
     repeat refine Bj ?_
     (repeat refine An ?_)
     refine A4d 2 ((x.tokens.getD e.toNat default).at_.toNat) [(0,7),(1,8),(2,9),(3,10),(4,11),(5,12),(6,13),(7,14)] (Av x.workers) hj rfl rfl Ht rfl (D5 rfl) ?_
     refine Aj (A2n (Da x e ⟨false,(Af x e).at_,(Af x e).sum,(Af x e).black,(Af x e).capped⟩) e true (B4 x) hsw hl0) hH hp rfl Ay rfl rfl (fun r hr=>go A0 false ?_)
     conv=>whnf
     rw [R5 hT hg hA,It,if_pos hyes,hcap,show H2 (Ad x (Af x e).at_)=H2 (x.workers.getD 0 default) by rw [hw0]]
     exact Bl A0 () trivial rfl rfl rfl rfl Ay
    have hc:(Af x e).capped=false:=hc
    have hcap:((Af x e).capped||(Ad x (Af x e).at_).caps.getD e.toNat default)=(Ad x (Af x e).at_).caps.getD e.toNat default:=by rw [hc];rfl
    repeat refine Bj ?_
    (repeat refine An ?_)
    refine A4d 2 ((x.tokens.getD e.toNat default).at_.toNat) [(0,7),(1,8),(2,9),(3,10),(4,11),(5,12),(6,13),(7,14)] (Av x.workers) hj rfl rfl Ht rfl (D5 rfl) ?_
    refine Aj (A2n (Da x e ⟨false,(Af x e).at_,(Af x e).sum,(Af x e).black,(Af x e).capped⟩) e ((Ad x (Af x e).at_).caps.getD e.toNat default) (B4 x) hsw hl0) hH hp rfl Ay rfl rfl (fun r hr=>go A0 false ?_)
    conv=>whnf
    rw [R5 hT hg hA,It,if_pos hyes,hcap,show H2 (Ad x (Af x e).at_)=H2 (x.workers.getD 0 default) by rw [hw0]]
    exact Bl A0 () trivial rfl rfl rfl rfl Ay
   have hs:(Af x e).sum+(Ad x (Af x e).at_).sums.getD e.toNat default≠0:=beq_eq_false_iff_ne.1 hs
   have hno:¬ ((Af x e).black=false∧(Ad x (Af x e).at_).black.getD e.toNat default=false∧(Af x e).sum+(Ad x (Af x e).at_).sums.getD e.toNat default=0):=fun p=>hs p.2.2
   repeat refine Bj ?_
   rw [R5 hT hg hA,It,if_neg hno]
   refine Gu Tryz.prog 2 ((x.tokens.getD e.toNat default).at_.toNat) [(0,7),(1,8),(2,9),(3,10),(4,11),(5,12),(6,13),(7,14)] (Av x.workers) hj rfl rfl Ht rfl (D5 rfl) ?_
   exact Bl A0 () trivial rfl rfl rfl rfl Ay
  have hw:(Ad x (Af x e).at_).black.getD e.toNat default=true:=by simpa [Af,Ad] using hw
  have hno:¬ ((Af x e).black=false∧(Ad x (Af x e).at_).black.getD e.toNat default=false∧(Af x e).sum+(Ad x (Af x e).at_).sums.getD e.toNat default=0):=fun p=>by rw [hw] at p;exact absurd p.2.1 Aw
  repeat refine Bj ?_
  rw [R5 hT hg hA,It,if_neg hno]
  refine Gu Tryz.prog 2 ((x.tokens.getD e.toNat default).at_.toNat) [(0,7),(1,8),(2,9),(3,10),(4,11),(5,12),(6,13),(7,14)] (Av x.workers) hj rfl rfl Ht rfl (D5 rfl) ?_
  exact Bl A0 () trivial rfl rfl rfl rfl Ay
 have hb:(Af x e).black=true:=by simpa [Af] using hb
 have hno:¬ ((Af x e).black=false∧(Ad x (Af x e).at_).black.getD e.toNat default=false∧(Af x e).sum+(Ad x (Af x e).at_).sums.getD e.toNat default=0):=fun p=>by rw [hb] at p;exact absurd p.1 Aw
 repeat refine Bj ?_
 rw [R5 hT hg hA,It,if_neg hno]
 refine Gu Tryz.prog 2 ((x.tokens.getD e.toNat default).at_.toNat) [(0,7),(1,8),(2,9),(3,10),(4,11),(5,12),(6,13),(7,14)] (Av x.workers) hj rfl rfl Ht rfl (D5 rfl) ?_
 exact Bl A0 () trivial rfl rfl rfl rfl Ay
theorem Y8 (x:A5)(h:x.w≤16000000):Yg Tryz.prog 64 [] [.agg x.c] (fun _:Unit=>True) (fun _=>rc x):=by
 refine A9n A0 false Tryz.func64 rfl Aw fun W hp=>?_
 conv=>whnf
 first|(refine B7 1 rfl [0,2,1,3,4,5,6] A7 (A8 ?_))
 refine Cq (T3 x Ab) rfl (A8 ?_)
 refine B5 (Wm x Ab) rfl (A8 ?_)
 exact B5w A0 () trivial rfl rfl rfl (by repeat' (first|exact trivial|exact rfl|exact .inr ⟨rfl,rfl,_,_,rfl⟩|refine ⟨?_,?_⟩))
end Go.Proofs.YtdendlkeiaccpaaGreatDoor
