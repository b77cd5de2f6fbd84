/- Part 19 of the proof that each of the laws FnTotals returns true for every input. No conditions. -/
import Derived.Test.YtdendlkeiaccpaaGreatP17
import Derived.Test.YtdendlkeiaccpaaGreatP18
import Derived.Test.YtdendlkeiaccpaaGreatP11
import Derived.Test.YtdendlkeiaccpaaGreatP13
import Derived.Test.YtdendlkeiaccpaaGreatP5
import Derived.Test.YtdendlkeiaccpaaGreatP15
import Derived.Test.YtdendlkeiaccpaaGreatP4
import Derived.Test.YtdendlkeiaccpaaGreatP6

set_option linter.unusedSimpArgs false
set_option linter.unusedVariables false
set_option maxRecDepth 100000
namespace Go.Proofs.YtdendlkeiaccpaaGreat
open Go.Sx
theorem A4p {c:A6}{w:Int}(h:¬ (B4 c∧c.news.any (Ky w)=true)):Dw c w=(c,false):=if_neg h
theorem A9f {c:A6}{w:Int}(h:B4 c∧c.news.any (Ky w)=true)(h1:G0 (Af c w) (Gg c w).epoch=true):Dw c w=(Kq c w,true):=by
 unfold Dw
 rw [if_pos h,if_pos h1]
theorem A9e {c:A6}{w:Int}(h:B4 c∧c.news.any (Ky w)=true)(h1:G0 (Af c w) (Gg c w).epoch=false):Dw c w=(Bc (Kq c w) w (Gr (Af c w) ⟨(Gg c w).epoch,(Gg c w).capped⟩),true):=by
 unfold Dw
 rw [if_pos h,if_neg (by rw [h1];decide)]
theorem A6u (e:Int)(b:Bool)(k:Nat):(Mo e b k).length=k:=by rw [Mo,List.length_map,List.length_range]
theorem A2y (e:Int)(b:Bool)(k:Nat):Mo e b (k+1)=Mo e b k++[⟨(k:Int)+1,e,b⟩]:=by
 rw [Mo,List.range_succ,List.map_append]
 rfl
set_option maxHeartbeats 4000000 in
theorem A1r (x:A6)(e:Int)(cap ok:Bool)(h:x.w≤16000000)(h0:0<x.workers.length):
  Cr Tryz.prog (fun _=>True) 188 [] (Rc x ok) [.one (vi e),.one (vb cap)] (fun _:Unit=>True) (fun _=>Rc (Pl (Bc x 0 (Gr (x.workers.getD 0 default) ⟨e,cap⟩)) (Mo e cap (x.workers.length-1))) ok) (fun _=>[]):=by
 have hw:=A6.worker_le h h0
 have hnl:=A6.news_le h
 have hwl:=A6.workers_le h
 have hdl:(x.workers.getD 0 default).dones.length≤16000000:=by simp only [Ac.w] at hw;omega
 refine Df A0 false Tryz.func188 rfl Aw fun B b hH hp=>?_
 conv=>whnf
 refine R7 0 3 2 rfl rfl (fun v2=>?_)
 refine Xc 0 3 rfl rfl (fun ho_v2=>?_)
 refine Je rfl ?_
 refine Bu A0 false 0 rfl rfl A7 rfl (A4 B1) ?_
 refine Bu A0 false 1 rfl rfl A7 rfl (A4 B1) ?_
 refine Bu A0 false 2 rfl rfl A7 rfl (A4 B1) ?_
 refine Bu A0 false 3 rfl rfl A7 rfl (A4 B1) ?_
 refine Bu A0 false 5 rfl rfl A7 rfl (A4 B1) ?_
 refine Bu A0 false 6 rfl rfl A7 rfl (A4 B1) ?_
 refine Bu A0 false 7 rfl rfl A7 rfl (A4 B1) ?_
 refine Bu A0 false 8 rfl rfl A7 rfl (A4 B1) ?_
 refine Bu A0 false 13 rfl rfl A7 rfl (A4 B1) ?_
 refine Bu A0 false 14 rfl rfl A7 rfl (A4 B1) ?_
 refine Dt (s':=?_) 9 rfl A7 ?_ ?_
 rotate_left
 refine A8 ?_
 (repeat refine Am ?_)
 exact Bh
 refine Dt (s':=?_) 10 rfl A7 ?_ ?_
 rotate_left
 refine A8 ?_
 refine Jw 16 2 rfl rfl (A8 ?_)
 (repeat refine Am ?_)
 exact Bh
 refine Bu A0 false 11 rfl rfl A7 rfl (A4 B1) ?_
 refine P7 (α:=Value) (s':=?_) 12 rfl A7 ?_ ?_
 rotate_left
 refine A8 ?_
 refine I1 A0 rfl rfl rfl rfl rfl rfl (jn:=0) rfl rfl rfl (fun v=>go A0 false ?_)
 conv=>whnf
 exact Tn v
 intro v
 refine Dt (s':=?_) 15 rfl A7 ?_ ?_
 rotate_left
 refine A8 ?_
 (repeat refine Am ?_)
 exact Bh
 refine Ng [16,17,18,19,20] [⟨4,11,.rd v2⟩] A7 ?_
 refine Bp (s':=?_) A0 rfl A7 Dx ?_ ?_
 rotate_left
 refine A8 ?_
 (repeat refine Am ?_)
 exact Bh
 refine Bp (s':=?_) A0 rfl A7 Dx ?_ ?_
 rotate_left
 refine A8 ?_
 refine Av A0 rfl rfl rfl rfl rfl rfl rfl rfl rfl rfl rfl (Il ((x.workers.getD 0 default).dones++[⟨e,cap⟩])) (Ad rfl) Bj Ab (A8 ?_)
 exact Bh
 refine Bp (s':=?_) A0 rfl A7 Dx ?_ ?_
 rotate_left
 refine A8 ?_
 refine Jw 11 2 rfl rfl (A8 ?_)
 (repeat refine Am ?_)
 exact Bh
 refine Bp (s':=?_) A0 rfl A7 Dx ?_ ?_
 rotate_left
 refine A8 ?_
 (repeat refine Am ?_)
 exact Bh
 refine Bp (s':=?_) A0 rfl A7 Dx ?_ ?_
 rotate_left
 refine A8 ?_
 refine Al (j:=0) A0 rfl rfl rfl rfl rfl rfl rfl rfl (Ar (x.workers.set 0 (Gr (x.workers.getD 0 default) ⟨e,cap⟩))) (Fg h0 rfl) (A8 ?_)
 exact Bh
 refine L0 A0 A7 Dx (GW.out (Jf ?_))
 conv=>whnf
 refine R3 0 3 2 rfl rfl rfl ?_
 refine Bv A0 false [7,8,9,10,11,12,13,14,15,16,17,18,19,20,21,22,23,24,25,26] (fun k:Nat=>[(6,.c (vi (k+1)))]) (fun k=>[⟨0,[.own 1,.c (vi x.graph.workers),.c (vi x.graph.cap),.own 2,.own 3,.own 4,.own 5,.c (vb ok)]⟩]) (fun k=>[⟨1,Br x.graph.nodes⟩,⟨2,Ar (x.workers.set 0 (Gr (x.workers.getD 0 default) ⟨e,cap⟩))⟩,⟨3,Ct x.links⟩,⟨4,C9 x.tokens⟩,⟨5,Ch (x.news++Mo e cap k)⟩])
  (fun k=>k≤(x.workers.length-1)) (fun k=>(x.workers.length-1)-k) 0 (Nat.zero_le _) ⟨F3,trivial⟩ Cf ⟨F2,F2,F2,F2,F2,trivial⟩ Cj A7 (fun k hk=>?_)
 conv=>whnf
 refine Es (fun hg=>?_) fun hg=>?_<;>conv=>whnf
 ·rw [List.length_set] at hg
  refine Av A0 rfl rfl rfl rfl rfl rfl rfl rfl rfl rfl rfl (Ch (x.news++Mo e cap k++[⟨k+1,e,cap⟩])) (Ad rfl) Bj (by rw [List.length_append,A6u];omega) (A8 ?_)
  (repeat refine Am ?_)
  refine B6 [(0,0),(1,1),(2,2),(3,3),(4,4),(5,10)] (k+1) Ab Ab ⟨by rw [Int.natCast_add];rfl,trivial⟩ ⟨rfl,rfl,rfl,rfl,by show (_:Ae)=_;rw [A2y,←List.append_assoc],trivial⟩ Cf A7 Cj A7
 rw [List.length_set] at hg
 repeat refine B7 ?_
 obtain rfl:k=x.workers.length-1:=by omega
 exact B4f (Bm A0 () trivial rfl rfl rfl rfl At)
theorem B3k (c:A6)(e:Int)(t:Di):(D7 c e t).w=c.w:=by simp only [A6.w,D7,List.length_set]
set_option maxHeartbeats 4000000 in
theorem A7h (x:A6)(e:Int)(h:x.w≤16000000):Cr Tryz.prog (fun _=>True) 164 [] (rc x) [.one (vi e)] (fun _:Unit=>True) (fun _=>Rc (Cq x e).1 (B3 x)) (fun _=>[.one (vb (Cq x e).2)]):=by
 refine Df A0 false Tryz.func164 rfl Aw fun B b hH hp=>?_
 conv=>whnf
 refine ⟨fun hC=>?_,fun hC=>?_⟩<;>conv=>whnf
 ·repeat refine B7 ?_
  rw [Vs (fun p=>by rw [show B3 x=true from decide_eq_true p.1] at hC;exact absurd hC Aw)]
  exact Bm A0 () trivial rfl rfl rfl rfl At
 have hC:B4 x:=of_decide_eq_true (show B3 x=true by simpa using hC)
 have hl0:1≤x.workers.length:=by have:=hC.1.2.1;have:=hC.1.1.2.1;omega
 have htl:x.tokens.length=4:=hC.1.2.2.2
 have hwl4:x.workers.length≤4:=by have:=hC.1.2.1;have:=hC.1.1.2.1;omega
 repeat refine B7 ?_
 refine Az (Ep e 0 3) rfl (A8 ?_)
 repeat refine B7 ?_
 refine ⟨fun hE=>?_,fun hE=>?_⟩<;>conv=>whnf
 ·repeat refine B7 ?_
  rw [Vs (fun p=>by have:=p.2.1;clear hC p;simp only [beq_iff_eq,beq_eq_false_iff_ne,bne_iff_ne,bne_eq_false_iff_eq,Bool.not_eq_true',Bool.not_eq_false',Go.Sx.Au,Go.Sx.Bo,decide_eq_true_eq,decide_eq_false_iff_not,ne_eq,Int.not_lt,Int.not_le,ge_iff_le,gt_iff_lt,Int.toNat_zero,Int.toNat_one,Int.toNat_natCast] at *;omega)]
  exact Bm A0 () trivial rfl rfl rfl rfl At
 have hE:0≤e∧e≤3:=by clear hC;simp only [beq_iff_eq,beq_eq_false_iff_ne,bne_iff_ne,bne_eq_false_iff_eq,Bool.not_eq_true',Bool.not_eq_false',Go.Sx.Au,Go.Sx.Bo,decide_eq_true_eq,decide_eq_false_iff_not,ne_eq,Int.not_lt,Int.not_le,ge_iff_le,gt_iff_lt,Int.toNat_zero,Int.toNat_one,Int.toNat_natCast] at *;omega
 repeat refine B7 ?_
 refine Az (Vf x e Ab) rfl (A8 ?_)
 repeat refine B7 ?_
 refine ⟨fun hD=>?_,fun hD=>?_⟩<;>conv=>whnf
 ·rw [Vs (fun p=>by have hd:G0 (x.workers.getD 0 default) e=false:=p.2.2.1;rw [K0,if_pos Ab,hd] at hD;cases hD)]
  exact Bm A0 () trivial rfl rfl rfl rfl At
 have hD:G0 (Af x 0) e=false:=by rw [K0,if_pos Ab] at hD;exact hD
 have hTP:=hC.2.2.2.1 _ (B9 (d:=default) (show e.toNat<x.tokens.length by omega))
 have hat:0≤(x.tokens.getD e.toNat default).at_∧(x.tokens.getD e.toNat default).at_<x.workers.length:=by
  have:=hC.1.2.1
  have:=hTP.1
  omega
 have hj:(x.tokens.getD e.toNat default).at_.toNat<x.workers.length:=by omega
 have hWP:=hC.2.1 _ (B9 (d:=default) hj)
 (repeat refine Am ?_)
 refine Up A0 rfl rfl rfl rfl rfl (jn:=(x.tokens.getD e.toNat default).at_.toNat) rfl (r:=Ac.c ((x.workers).getD ((x.tokens.getD e.toNat default).at_.toNat) default)) rfl hj rfl rfl (fun u=>go A0 false ?_)
 conv=>whnf
 refine Az (Wb (x.workers.getD (x.tokens.getD e.toNat default).at_.toNat default) e (by have:=A6.worker_le h hj;omega)) rfl ?_
 cases hP:Jr (x.workers.getD (x.tokens.getD e.toNat default).at_.toNat default) e
 ·refine Mq 2 ((x.tokens.getD e.toNat default).at_.toNat) [(0,7),(1,8),(2,9),(3,10),(4,11),(5,12),(6,13),(7,14)] (Ar x.workers) hj rfl rfl Hi rfl (D0 rfl) (Jf ?_)
  conv=>whnf
  repeat refine B7 ?_
  rw [Vs (fun p=>by have q:=p.2.2.2;rw [show Af x (Ag x e).at_=x.workers.getD (x.tokens.getD e.toNat default).at_.toNat default from rfl,hP] at q;cases q)]
  exact Bm A0 () trivial rfl rfl rfl rfl At
 have hT:Pj x e:=⟨hC,hE,hD,hP⟩
 obtain ⟨hL1,hL2,hL3⟩:=hWP.2.1
 have hs1:=hTP.2.2
 have htk:e.toNat<x.tokens.length:=by omega
 have hbl:e.toNat<(Af x (Ag x e).at_).black.length:=by
  show e.toNat<(x.workers.getD (x.tokens.getD e.toNat default).at_.toNat default).black.length
  omega
 have hs2:Hv ((x.workers.getD (x.tokens.getD e.toNat default).at_.toNat default).sums.getD e.toNat default):=hWP.2.2.2.1 _ (B9 Ab)
 simp only [Hv] at hs2
 refine A8 ?_
 repeat refine B7 ?_
 first|(refine B5 8 rfl [0,1,2,3,4,5,6,7,8] A7 (A8 ?_))|(refine B5 14 rfl [0,1,2,3,4,5,6,7,8,9,10,11,12,13,14,15,16,17,18,19,20] A7 (A8 ?_))|(refine B5 19 rfl [0,1,2,3,4,5,6,7,8,9,10,11,12,13,14,15,16,17,18,19,20,21,22,23,24,25,26,27,28,29] A7 (A8 ?_))|(refine B5 10 rfl [0,1,2,3,4,5,6,7,8] A7 (A8 ?_))
 refine ⟨by (show _∧_;omega),?_⟩
 conv=>whnf
 refine ⟨by (show _∧_;omega),?_⟩
 conv=>whnf
 refine ⟨fun hg=>?_,fun hg=>?_⟩<;>conv=>whnf
 ·have hg:(Ag x e).going=false:=by simpa [Ag] using hg
  have hA:(Ag x e).at_=0:=hTP.2.1 hg
  first|(refine B5 8 rfl [0,1,2,3,4,5,6,7,8] A7 (A8 ?_))|(refine B5 14 rfl [0,1,2,3,4,5,6,7,8,9,10,11,12,13,14,15,16,17,18,19,20] A7 (A8 ?_))|(refine B5 19 rfl [0,1,2,3,4,5,6,7,8,9,10,11,12,13,14,15,16,17,18,19,20,21,22,23,24,25,26,27,28,29] A7 (A8 ?_))|(refine B5 10 rfl [0,1,2,3,4,5,6,7,8] A7 (A8 ?_))
  (repeat refine Am ?_)
  refine Al (j:=e) A0 rfl rfl rfl rfl rfl rfl rfl rfl (C9 (x.tokens.set e.toNat ⟨true,(x.workers.length:Int)-1,0,false,(Af x (Ag x e).at_).caps.getD e.toNat default⟩)) (C0 htk rfl) ?_
  refine Mq 2 ((x.tokens.getD e.toNat default).at_.toNat) [(0,7),(1,8),(2,9),(3,10),(4,11),(5,12),(6,13),(7,14)] (Ar x.workers) hj rfl rfl Hi rfl (D0 rfl) (Jf ?_)
  conv=>whnf
  refine ⟨by exact ⟨Int.le_refl 0,by show (0:Int)<(x.workers.length:Int);omega⟩,?_⟩
  conv=>whnf
  refine I1 A0 rfl rfl rfl rfl rfl rfl (jn:=(x.tokens.getD e.toNat default).at_.toNat) (by rw [show (x.tokens.getD e.toNat default).at_=0 from hA]) rfl rfl (fun v=>go A0 false ?_)
  conv=>whnf
  (repeat refine Am ?_)
  refine Al (j:=e) A0 rfl rfl rfl rfl rfl rfl rfl rfl (Eg ((Af x (Ag x e).at_).black.set e.toNat false)) (C0 hbl rfl) (A8 ?_)
  rw [A7n hT hg]
  refine Gi Tryz.prog 2 ((x.tokens.getD e.toNat default).at_.toNat) [(5,16)] (Ar (x.workers.set (x.tokens.getD e.toNat default).at_.toNat (Iq (Af x (Ag x e).at_) e))) hj rfl rfl Hi rfl (Iz hj rfl) ?_
  exact Bm A0 () trivial rfl rfl rfl rfl At
 have hg:(Ag x e).going=true:=by simpa [Ag] using hg
 refine ⟨fun hA=>?_,fun hA=>?_⟩<;>conv=>whnf
 ·have hA:(Ag x e).at_>0:=of_decide_eq_true hA
  refine Az (Ep ((x.tokens.getD e.toNat default).sum+(x.workers.getD (x.tokens.getD e.toNat default).at_.toNat default).sums.getD e.toNat default) (-1000000) 1000000) rfl (A8 ?_)
  repeat refine B7 ?_
  refine ⟨fun hS=>?_,fun hS=>?_⟩<;>conv=>whnf
  ·rw [B3p hT hg hA (fun p=>by simp only [Hv,Ag,Af] at p;simp only [beq_iff_eq,beq_eq_false_iff_ne,bne_iff_ne,bne_eq_false_iff_eq,Bool.not_eq_true',Bool.not_eq_false',Go.Sx.Au,Go.Sx.Bo,decide_eq_true_eq,decide_eq_false_iff_not,ne_eq,Int.not_lt,Int.not_le,ge_iff_le,gt_iff_lt,Int.toNat_zero,Int.toNat_one,Int.toNat_natCast] at *;omega)]
   refine Gi Tryz.prog 2 ((x.tokens.getD e.toNat default).at_.toNat) [(0,7),(1,8),(2,9),(3,10),(4,11),(5,12),(6,13),(7,14)] (Ar x.workers) hj rfl rfl Hi rfl (D0 rfl) ?_
   exact Bm A0 () trivial rfl rfl rfl rfl At
  have hS:Hv ((Ag x e).sum+(Af x (Ag x e).at_).sums.getD e.toNat default):=by simp only [Hv,Ag,Af];simp only [beq_iff_eq,beq_eq_false_iff_ne,bne_iff_ne,bne_eq_false_iff_eq,Bool.not_eq_true',Bool.not_eq_false',Go.Sx.Au,Go.Sx.Bo,decide_eq_true_eq,decide_eq_false_iff_not,ne_eq,Int.not_lt,Int.not_le,ge_iff_le,gt_iff_lt,Int.toNat_zero,Int.toNat_one,Int.toNat_natCast] at *;omega
  first|(refine B5 8 rfl [0,1,2,3,4,5,6,7,8] A7 (A8 ?_))|(refine B5 14 rfl [0,1,2,3,4,5,6,7,8,9,10,11,12,13,14,15,16,17,18,19,20] A7 (A8 ?_))|(refine B5 19 rfl [0,1,2,3,4,5,6,7,8,9,10,11,12,13,14,15,16,17,18,19,20,21,22,23,24,25,26,27,28,29] A7 (A8 ?_))|(refine B5 10 rfl [0,1,2,3,4,5,6,7,8] A7 (A8 ?_))
  (repeat refine Am ?_)
  refine ⟨fun hb=>?_,fun hb=>?_⟩<;>conv=>whnf
  ·have hb:(Ag x e).black=true:=hb
   repeat refine B7 ?_
   refine ⟨fun hc=>?_,fun hc=>?_⟩<;>conv=>whnf
   ·have hc:(Ag x e).capped=true:=hc
    repeat refine B7 ?_
    (repeat refine Am ?_)
    refine Al (j:=e) A0 rfl rfl rfl rfl rfl rfl rfl rfl (C9 (x.tokens.set e.toNat ⟨true,(Ag x e).at_-1,(Ag x e).sum+(Af x (Ag x e).at_).sums.getD e.toNat default,(Ag x e).black||(Af x (Ag x e).at_).black.getD e.toNat default,(Ag x e).capped||(Af x (Ag x e).at_).caps.getD e.toNat default⟩)) (C0 htk (by rw [hb,hc];rfl)) ?_
    refine Mq 2 ((x.tokens.getD e.toNat default).at_.toNat) [(0,7),(1,8),(2,9),(3,10),(4,11),(5,12),(6,13),(7,14)] (Ar x.workers) hj rfl rfl Hi rfl (D0 rfl) (Jf ?_)
    conv=>whnf
    (repeat refine Am ?_)
    refine I1 A0 rfl rfl rfl rfl rfl rfl (jn:=(x.tokens.getD e.toNat default).at_.toNat) rfl rfl rfl (fun v=>go A0 false ?_)
    conv=>whnf
    (repeat refine Am ?_)
    refine Al (j:=e) A0 rfl rfl rfl rfl rfl rfl rfl rfl (Eg ((Af x (Ag x e).at_).black.set e.toNat false)) (C0 hbl rfl) (A8 ?_)
    rw [Qo hT hg hA hS]
    refine Gi Tryz.prog 2 ((x.tokens.getD e.toNat default).at_.toNat) [(5,16)] (Ar (x.workers.set (x.tokens.getD e.toNat default).at_.toNat (Iq (Af x (Ag x e).at_) e))) hj rfl rfl Hi rfl (Iz hj rfl) ?_
    exact Bm A0 () trivial rfl rfl rfl rfl At
   have hc:(Ag x e).capped=false:=hc
   repeat refine B7 ?_
   (repeat refine Am ?_)
   refine Al (j:=e) A0 rfl rfl rfl rfl rfl rfl rfl rfl (C9 (x.tokens.set e.toNat ⟨true,(Ag x e).at_-1,(Ag x e).sum+(Af x (Ag x e).at_).sums.getD e.toNat default,(Ag x e).black||(Af x (Ag x e).at_).black.getD e.toNat default,(Ag x e).capped||(Af x (Ag x e).at_).caps.getD e.toNat default⟩)) (C0 htk (by rw [hb,hc];rfl)) ?_
   refine Mq 2 ((x.tokens.getD e.toNat default).at_.toNat) [(0,7),(1,8),(2,9),(3,10),(4,11),(5,12),(6,13),(7,14)] (Ar x.workers) hj rfl rfl Hi rfl (D0 rfl) (Jf ?_)
   conv=>whnf
   (repeat refine Am ?_)
   refine I1 A0 rfl rfl rfl rfl rfl rfl (jn:=(x.tokens.getD e.toNat default).at_.toNat) rfl rfl rfl (fun v=>go A0 false ?_)
   conv=>whnf
   (repeat refine Am ?_)
   refine Al (j:=e) A0 rfl rfl rfl rfl rfl rfl rfl rfl (Eg ((Af x (Ag x e).at_).black.set e.toNat false)) (C0 hbl rfl) (A8 ?_)
   rw [Qo hT hg hA hS]
   refine Gi Tryz.prog 2 ((x.tokens.getD e.toNat default).at_.toNat) [(5,16)] (Ar (x.workers.set (x.tokens.getD e.toNat default).at_.toNat (Iq (Af x (Ag x e).at_) e))) hj rfl rfl Hi rfl (Iz hj rfl) ?_
   exact Bm A0 () trivial rfl rfl rfl rfl At
  have hb:(Ag x e).black=false:=hb
  repeat refine B7 ?_
  refine ⟨fun hc=>?_,fun hc=>?_⟩<;>conv=>whnf
  ·have hc:(Ag x e).capped=true:=hc
   repeat refine B7 ?_
   (repeat refine Am ?_)
   refine Al (j:=e) A0 rfl rfl rfl rfl rfl rfl rfl rfl (C9 (x.tokens.set e.toNat ⟨true,(Ag x e).at_-1,(Ag x e).sum+(Af x (Ag x e).at_).sums.getD e.toNat default,(Ag x e).black||(Af x (Ag x e).at_).black.getD e.toNat default,(Ag x e).capped||(Af x (Ag x e).at_).caps.getD e.toNat default⟩)) (C0 htk (by rw [hb,hc];rfl)) ?_
   refine Mq 2 ((x.tokens.getD e.toNat default).at_.toNat) [(0,7),(1,8),(2,9),(3,10),(4,11),(5,12),(6,13),(7,14)] (Ar x.workers) hj rfl rfl Hi rfl (D0 rfl) (Jf ?_)
   conv=>whnf
   (repeat refine Am ?_)
   refine I1 A0 rfl rfl rfl rfl rfl rfl (jn:=(x.tokens.getD e.toNat default).at_.toNat) rfl rfl rfl (fun v=>go A0 false ?_)
   conv=>whnf
   (repeat refine Am ?_)
   refine Al (j:=e) A0 rfl rfl rfl rfl rfl rfl rfl rfl (Eg ((Af x (Ag x e).at_).black.set e.toNat false)) (C0 hbl rfl) (A8 ?_)
   rw [Qo hT hg hA hS]
   refine Gi Tryz.prog 2 ((x.tokens.getD e.toNat default).at_.toNat) [(5,16)] (Ar (x.workers.set (x.tokens.getD e.toNat default).at_.toNat (Iq (Af x (Ag x e).at_) e))) hj rfl rfl Hi rfl (Iz hj rfl) ?_
   exact Bm A0 () trivial rfl rfl rfl rfl At
  have hc:(Ag x e).capped=false:=hc
  repeat refine B7 ?_
  (repeat refine Am ?_)
  refine Al (j:=e) A0 rfl rfl rfl rfl rfl rfl rfl rfl (C9 (x.tokens.set e.toNat ⟨true,(Ag x e).at_-1,(Ag x e).sum+(Af x (Ag x e).at_).sums.getD e.toNat default,(Ag x e).black||(Af x (Ag x e).at_).black.getD e.toNat default,(Ag x e).capped||(Af x (Ag x e).at_).caps.getD e.toNat default⟩)) (C0 htk (by rw [hb,hc];rfl)) ?_
  refine Mq 2 ((x.tokens.getD e.toNat default).at_.toNat) [(0,7),(1,8),(2,9),(3,10),(4,11),(5,12),(6,13),(7,14)] (Ar x.workers) hj rfl rfl Hi rfl (D0 rfl) (Jf ?_)
  conv=>whnf
  (repeat refine Am ?_)
  refine I1 A0 rfl rfl rfl rfl rfl rfl (jn:=(x.tokens.getD e.toNat default).at_.toNat) rfl rfl rfl (fun v=>go A0 false ?_)
  conv=>whnf
  (repeat refine Am ?_)
  refine Al (j:=e) A0 rfl rfl rfl rfl rfl rfl rfl rfl (Eg ((Af x (Ag x e).at_).black.set e.toNat false)) (C0 hbl rfl) (A8 ?_)
  rw [Qo hT hg hA hS]
  refine Gi Tryz.prog 2 ((x.tokens.getD e.toNat default).at_.toNat) [(5,16)] (Ar (x.workers.set (x.tokens.getD e.toNat default).at_.toNat (Iq (Af x (Ag x e).at_) e))) hj rfl rfl Hi rfl (Iz hj rfl) ?_
  exact Bm A0 () trivial rfl rfl rfl rfl At
 have hA:¬ (Ag x e).at_>0:=of_decide_eq_false hA
 have hz:(x.tokens.getD e.toNat default).at_=0:=by
  have:¬ (x.tokens.getD e.toNat default).at_>0:=hA
  omega
 have hsw:(D7 x e ⟨false,(Ag x e).at_,(Ag x e).sum,(Ag x e).black,(Ag x e).capped⟩).w≤16000000:=by rw [B3k];exact h
 first|(refine B5 8 rfl [0,1,2,3,4,5,6,7,8] A7 (A8 ?_))|(refine B5 14 rfl [0,1,2,3,4,5,6,7,8,9,10,11,12,13,14,15,16,17,18,19,20] A7 (A8 ?_))|(refine B5 19 rfl [0,1,2,3,4,5,6,7,8,9,10,11,12,13,14,15,16,17,18,19,20,21,22,23,24,25,26,27,28,29] A7 (A8 ?_))|(refine B5 10 rfl [0,1,2,3,4,5,6,7,8] A7 (A8 ?_))
 (repeat refine Am ?_)
 refine Al (j:=e) A0 rfl rfl rfl rfl rfl rfl rfl rfl (C9 (x.tokens.set e.toNat ⟨false,(Ag x e).at_,(Ag x e).sum,(Ag x e).black,(Ag x e).capped⟩)) (C0 htk rfl) ?_
 refine A8 ?_
 refine ⟨fun hb=>?_,fun hb=>?_⟩<;>conv=>whnf
 ·have hb:(Ag x e).black=false:=by simpa [Ag] using hb
  repeat refine B7 ?_
  (repeat refine Am ?_)
  refine ⟨fun hw=>?_,fun hw=>?_⟩<;>conv=>whnf
  ·have hw:(Af x (Ag x e).at_).black.getD e.toNat default=false:=by simpa [Ag,Af] using hw
   repeat refine B7 ?_
   refine ⟨fun hs=>?_,fun hs=>?_⟩<;>conv=>whnf
   ·have hs:(Ag x e).sum+(Af x (Ag x e).at_).sums.getD e.toNat default=0:=eq_of_beq hs
    have hyes:=And.intro hb (And.intro hw hs)
    repeat refine B7 ?_
    have hw0:Af x (Ag x e).at_=x.workers.getD 0 default:=by
     show x.workers.getD (x.tokens.getD e.toNat default).at_.toNat default=_
     rw [hz]
     rfl
    refine ⟨fun hc=>?_,fun hc=>?_⟩<;>conv=>whnf
    ·have hc:(Ag x e).capped=true:=hc
     have hcap:((Ag x e).capped||(Af x (Ag x e).at_).caps.getD e.toNat default)=true:=by rw [hc];rfl
     repeat refine B7 ?_
     (repeat refine Am ?_)
     refine A3g 2 ((x.tokens.getD e.toNat default).at_.toNat) [(0,7),(1,8),(2,9),(3,10),(4,11),(5,12),(6,13),(7,14)] (Ar x.workers) hj rfl rfl Hi rfl (D0 rfl) ?_
     refine Ai (A1r (D7 x e ⟨false,(Ag x e).at_,(Ag x e).sum,(Ag x e).black,(Ag x e).capped⟩) e true (B3 x) hsw hl0) hH hp rfl At rfl rfl (fun r hr=>go A0 false ?_)
     conv=>whnf
     rw [Qn hT hg hA,Ip,if_pos hyes,hcap,show Gr (Af x (Ag x e).at_)=Gr (x.workers.getD 0 default) by rw [hw0]]
     exact Bm A0 () trivial rfl rfl rfl rfl At
    have hc:(Ag x e).capped=false:=hc
    have hcap:((Ag x e).capped||(Af x (Ag x e).at_).caps.getD e.toNat default)=(Af x (Ag x e).at_).caps.getD e.toNat default:=by rw [hc];rfl
    repeat refine B7 ?_
    (repeat refine Am ?_)
    refine A3g 2 ((x.tokens.getD e.toNat default).at_.toNat) [(0,7),(1,8),(2,9),(3,10),(4,11),(5,12),(6,13),(7,14)] (Ar x.workers) hj rfl rfl Hi rfl (D0 rfl) ?_
    refine Ai (A1r (D7 x e ⟨false,(Ag x e).at_,(Ag x e).sum,(Ag x e).black,(Ag x e).capped⟩) e ((Af x (Ag x e).at_).caps.getD e.toNat default) (B3 x) hsw hl0) hH hp rfl At rfl rfl (fun r hr=>go A0 false ?_)
    conv=>whnf
    rw [Qn hT hg hA,Ip,if_pos hyes,hcap,show Gr (Af x (Ag x e).at_)=Gr (x.workers.getD 0 default) by rw [hw0]]
    exact Bm A0 () trivial rfl rfl rfl rfl At
   have hs:(Ag x e).sum+(Af x (Ag x e).at_).sums.getD e.toNat default≠0:=beq_eq_false_iff_ne.1 hs
   have hno:¬ ((Ag x e).black=false∧(Af x (Ag x e).at_).black.getD e.toNat default=false∧(Ag x e).sum+(Af x (Ag x e).at_).sums.getD e.toNat default=0):=fun p=>hs p.2.2
   repeat refine B7 ?_
   rw [Qn hT hg hA,Ip,if_neg hno]
   refine Gi Tryz.prog 2 ((x.tokens.getD e.toNat default).at_.toNat) [(0,7),(1,8),(2,9),(3,10),(4,11),(5,12),(6,13),(7,14)] (Ar x.workers) hj rfl rfl Hi rfl (D0 rfl) ?_
   exact Bm A0 () trivial rfl rfl rfl rfl At
  have hw:(Af x (Ag x e).at_).black.getD e.toNat default=true:=by simpa [Ag,Af] using hw
  have hno:¬ ((Ag x e).black=false∧(Af x (Ag x e).at_).black.getD e.toNat default=false∧(Ag x e).sum+(Af x (Ag x e).at_).sums.getD e.toNat default=0):=fun p=>by rw [hw] at p;exact absurd p.2.1 Aw
  repeat refine B7 ?_
  rw [Qn hT hg hA,Ip,if_neg hno]
  refine Gi Tryz.prog 2 ((x.tokens.getD e.toNat default).at_.toNat) [(0,7),(1,8),(2,9),(3,10),(4,11),(5,12),(6,13),(7,14)] (Ar x.workers) hj rfl rfl Hi rfl (D0 rfl) ?_
  exact Bm A0 () trivial rfl rfl rfl rfl At
 have hb:(Ag x e).black=true:=by simpa [Ag] using hb
 have hno:¬ ((Ag x e).black=false∧(Af x (Ag x e).at_).black.getD e.toNat default=false∧(Ag x e).sum+(Af x (Ag x e).at_).sums.getD e.toNat default=0):=fun p=>by rw [hb] at p;exact absurd p.1 Aw
 repeat refine B7 ?_
 rw [Qn hT hg hA,Ip,if_neg hno]
 refine Gi Tryz.prog 2 ((x.tokens.getD e.toNat default).at_.toNat) [(0,7),(1,8),(2,9),(3,10),(4,11),(5,12),(6,13),(7,14)] (Ar x.workers) hj rfl rfl Hi rfl (D0 rfl) ?_
 exact Bm A0 () trivial rfl rfl rfl rfl At
theorem Xl (x:A6)(h:x.w≤16000000):Xs Tryz.prog 117 [] [.agg x.c] (fun _:Unit=>True) (fun _=>rc x):=by
 refine A8y A0 false Tryz.func117 rfl Aw fun W hp=>?_
 conv=>whnf
 first|(refine B5 1 rfl [0,2,1,3,4,5,6] A7 (A8 ?_))
 refine Cx (So x Ab) rfl (A8 ?_)
 refine Az (Oe x Ab) rfl (A8 ?_)
 exact B4w A0 () trivial rfl rfl rfl (by repeat' (first|exact trivial|exact rfl|exact .inr ⟨rfl,rfl,_,_,rfl⟩|refine ⟨?_,?_⟩))
structure Ms (p:Prop):Prop where
 out:p
end Go.Proofs.YtdendlkeiaccpaaGreat
