/- Part 9 of the proof that each of the laws FnTold returns true for every input. No conditions. -/
import Derived.Test.YtdendlkeiaccpaaGreatDoorP8
import Derived.Test.YtdendlkeiaccpaaGreatDoorP4
import Derived.Test.YtdendlkeiaccpaaGreatDoorP6

set_option linter.unusedSimpArgs false
set_option linter.unusedVariables false
set_option maxRecDepth 100000
namespace Go.Proofs.YtdendlkeiaccpaaGreatDoor
open Go.Sx
theorem A5.graph_le {c:A5}{n:Nat}(h:c.w≤n):c.graph.w≤n:=by simp only [A5.w] at h;omega
theorem A5.worker_le {c:A5}{n:Nat}(h:c.w≤n){k:Nat}(hk:k<c.workers.length):(c.workers.getD k default).w≤n:=by
 simp only [A5.w,wS] at h
 have hle:=H5 A9.w c.workers k hk
 omega
theorem A5.link_le {c:A5}{n:Nat}(h:c.w≤n){k:Nat}(hk:k<c.links.length):(c.links.getD k default).w≤n:=by
 simp only [A5.w,wS] at h
 have hle:=H5 Bv.w c.links k hk
 omega
def X0 (c:A5) (i:Nat) (l:Bv):Prop:=l.cap=c.graph.cap∧Ra c.graph.nodes.length l.queue∧((i:Int).tdiv c.graph.workers=(i:Int).tmod c.graph.workers→l.queue.length=0)
instance (c:A5) (i:Nat) (l:Bv):Decidable (X0 c i l):=by unfold X0;infer_instance
def Ox (c:A5) (i:Nat):Prop:=G1 (c.links.getD i default)∧X0 c i (c.links.getD i default)
instance (c:A5) (i:Nat):Decidable (Ox c i):=by unfold Ox;infer_instance
def My (n:Int) (t:D0):Prop:=(0≤t.at_∧t.at_≤n-1)∧(t.going=false→t.at_=0)∧(-1000000≤t.sum∧t.sum≤1000000)
instance (n:Int) (t:D0):Decidable (My n t):=by unfold My;infer_instance
def Ml (n:Int) (x:Fy):Prop:=(0≤x.to_∧x.to_≤n-1)∧(0≤x.epoch∧x.epoch≤3)
instance (n:Int) (x:Fy):Decidable (Ml n x):=by unfold Ml;infer_instance
def Pu (c:A5):Prop:=Fj c.graph∧c.workers.length=c.graph.workers∧c.links.length=c.graph.workers * c.graph.workers∧c.tokens.length=4
instance (c:A5):Decidable (Pu c):=by unfold Pu;infer_instance
def B6 (c:A5):Prop:=Pu c∧(∀w∈c.workers,Cx c.graph.nodes.length w)∧(∀i,i<c.links.length→Ox c i)∧(∀t∈c.tokens,My c.graph.workers t)∧∀x∈c.news,Ml c.graph.workers x
instance (c:A5):Decidable (B6 c):=by unfold B6;infer_instance
def B4 (c:A5):Bool:=decide (B6 c)
theorem B6u {n:Int}(h1:1≤n)(h2:n≤4):1≤n * n∧n * n≤16:=by
 have:n=1∨n=2∨n=3∨n=4:=by omega
 rcases this with rfl|rfl|rfl|rfl<;>decide
theorem B4k {n k:Int}(hn:1≤n)(hk:0≤k):0≤k.tdiv n∧k.tdiv n≤k:=by
 obtain ⟨m,rfl⟩:=Int.eq_ofNat_of_zero_le hk
 obtain ⟨d,rfl⟩:=Int.eq_ofNat_of_zero_le (show 0≤n by omega)
 rw [←Int.ofNat_tdiv]
 exact ⟨Int.natCast_nonneg _,Int.ofNat_le.2 (Nat.div_le_self m d)⟩
set_option maxHeartbeats 2000000 in
theorem Wm (x:A5)(hx:x.w≤16777216):Bo Tryz.prog 100 [.agg x.c] [.one (vb (B4 x))]:=by
 have hg:=A5.graph_le hx
 have hx2:=hx
 simp only [A5.w,wS] at hx2
 refine Bh A0 false Tryz.func100 rfl Aw fun W=>?_
 conv=>whnf
 refine B5 (I0 x.graph hg) rfl (A8 ?_)
 refine ⟨fun hG=>?_,fun hG=>?_⟩<;>conv=>whnf
 ·repeat refine Bj ?_
  exact B3 A0 rfl rfl ⟨congrArg vb (decide_eq_false fun p=>by rw [show Ib x.graph=true from decide_eq_true p.1.1] at hG;exact absurd hG Aw),trivial⟩
 have hG:Fj x.graph:=of_decide_eq_true (show Ib x.graph=true by simpa using hG)
 have hn1:=hG.2.1.1
 have hn2:=hG.2.1.2
 have hnn:=B6u hn1 hn2
 repeat' (first|(refine L6 ?_;conv=>whnf)|(refine L7 ?_;conv=>whnf)|(refine ⟨fun h=>?_,fun h=>?_⟩<;>conv=>whnf)|(refine Gx ?_;conv=>whnf)|(refine B7 7 rfl [0,1,2,3,4,5,6,7,8] A7 (A8 ?_))|(refine B7 13 rfl [0,1,2,3,4,5,6,7,8,9,10,11,12,13,14,15,16,17,18,19,20,21,22,23,24,25,26,27,28,29,30,31,32,33] A7 (A8 ?_))|fail)
 all_goals try (refine B3 A0 rfl rfl ⟨congrArg vb (decide_eq_false fun p=>?_),trivial⟩;obtain ⟨_,p1,p2,p3⟩:=p.1;clear p hG;simp only [beq_iff_eq,beq_eq_false_iff_ne,bne_iff_ne,bne_eq_false_iff_eq,Bool.not_eq_true',Bool.not_eq_false',Go.Sx.As,Go.Sx.Bn,decide_eq_true_eq,decide_eq_false_iff_not,ne_eq,Int.not_lt,Int.not_le,ge_iff_le,gt_iff_lt,Int.toNat_zero,Int.toNat_one,Int.toNat_natCast] at *;omega)
 have hH:Pu x:=by refine ⟨hG,?_,?_,?_⟩<;>(clear hG;simp only [beq_iff_eq,beq_eq_false_iff_ne,bne_iff_ne,bne_eq_false_iff_eq,Bool.not_eq_true',Bool.not_eq_false',Go.Sx.As,Go.Sx.Bn,decide_eq_true_eq,decide_eq_false_iff_not,ne_eq,Int.not_lt,Int.not_le,ge_iff_le,gt_iff_lt,Int.toNat_zero,Int.toNat_one,Int.toNat_natCast] at *;omega)
 rename_i a1 a2
 clear h a1 a2
 have hu:=Fc (fun i=>Cx x.graph.nodes.length (x.workers.getD i default))
 refine C0 A0 false [] (fun k:Nat=>[(4,.c (vi k))]) (fun k=>[⟨0,[.c (Bp x.graph.nodes),.c (vi x.graph.workers),.c (vi x.graph.cap),.c (Av x.workers),.c (Cy x.links),.c (C9 x.tokens),.c (Cj x.news)]⟩]) (fun k=>[])
  (fun k=>k≤x.workers.length∧Mz (fun i=>Cx x.graph.nodes.length (x.workers.getD i default)) k) (fun k=>x.workers.length-k) 0 ⟨Nat.zero_le _,by first|rfl|assumption|simp⟩ ⟨G9,trivial⟩ Cf trivial Cr A7 (fun k hk=>?_)
 obtain ⟨hk,he⟩:=hk
 conv=>whnf
 have hwl:=hH.2.1
 refine Fi (fun h'=>?_) fun h'=>?_<;>conv=>whnf
 ·have h':k<x.workers.length:=by omega
  (repeat refine An ?_)
  first|(refine B7 7 rfl [0,1,2,3,4,5,6,7,8] A7 (A8 ?_))|(refine B7 13 rfl [0,1,2,3,4,5,6,7,8,9,10,11,12,13,14,15,16,17,18,19,20,21,22,23,24,25,26,27,28,29,30,31,32,33] A7 (A8 ?_))
  (repeat refine An ?_)
  refine B5 (Mh x.graph (x.workers.getD k default) hg (A5.worker_le hx h')) rfl (A8 ?_)
  refine ⟨fun h=>?_,fun h=>?_⟩<;>conv=>whnf
  ·exact B3 A0 rfl rfl ⟨congrArg vb (decide_eq_false fun p=>by rw [show Ka _ _=true from decide_eq_true (p.2.1 _ (B8 (d:=default) h'))] at h;exact absurd h Aw),trivial⟩
  (repeat refine An ?_)
  refine B9 [] (k+1) ⟨by omega,Fb he (of_decide_eq_true (show Ka _ _=true by simpa using h))⟩ Ab ⟨rfl,trivial⟩ trivial Cf A7 Cr A7
 have e:k=x.workers.length:=by omega
 have hW:∀w∈x.workers,Cx x.graph.nodes.length w:=K9 (p:=fun w=>Cx x.graph.nodes.length w) (e▸he)
 clear he hu
 have hu:=Fc (Ox x)
 refine C0 A0 false [] (fun k:Nat=>[(5,.c (vi k))]) (fun k=>[⟨0,[.c (Bp x.graph.nodes),.c (vi x.graph.workers),.c (vi x.graph.cap),.c (Av x.workers),.c (Cy x.links),.c (C9 x.tokens),.c (Cj x.news)]⟩]) (fun k=>[])
  (fun k=>k≤x.links.length∧Mz (Ox x) k) (fun k=>x.links.length-k) 0 ⟨Nat.zero_le _,by first|rfl|assumption|simp⟩ ⟨G9,trivial⟩ Cf trivial Cr A7 (fun k hk=>?_)
 obtain ⟨hk,he⟩:=hk
 conv=>whnf
 refine Fi (fun h'=>?_) fun h'=>?_<;>conv=>whnf
 ·have h':k<x.links.length:=by omega
  have hq:(x.links.getD k default).queue.length≤16777216:=A5.link_le hx h'
  have hd:=B4k hn1 (show 0≤(k:Int) by omega)
  repeat' (first|(refine L6 ?_;conv=>whnf)|(refine L7 ?_;conv=>whnf)|(refine ⟨fun h=>?_,fun h=>?_⟩<;>conv=>whnf)|(refine B5 (Me (x.links.getD k default) (A5.link_le hx h')) rfl (Ji ?_);conv=>whnf)|(refine B5 (O6 x.graph (x.links.getD k default).queue hg hq) rfl (Ji ?_);conv=>whnf)|(refine Gx ?_;conv=>whnf)|(refine B7 7 rfl [0,1,2,3,4,5,6,7,8] A7 (A8 ?_))|(refine B7 13 rfl [0,1,2,3,4,5,6,7,8,9,10,11,12,13,14,15,16,17,18,19,20,21,22,23,24,25,26,27,28,29,30,31,32,33] A7 (A8 ?_))|fail)
  all_goals try (refine B3 A0 rfl rfl ⟨congrArg vb (decide_eq_false fun p=>?_),trivial⟩;obtain ⟨q1,q2,q3,q4⟩:=p.2.2.1 k h';clear p he hu hG hW hH;simp only [Int.toNat_natCast,M0,A1z] at *;first|(simp_all;done)|(simp_all;omega))
  all_goals
   have hs:Ox x k:=by
    refine ⟨of_decide_eq_true (show M0 _=true by simp_all),?_,of_decide_eq_true (show A1z _ _=true by simp_all),?_⟩<;>clear he hu hG hW hH<;>simp only [Int.toNat_natCast] at * <;>first|(simp_all;done)|(simp_all;omega)
   refine B9 [] (k+1) ⟨by omega,Fb he hs⟩ Ab ⟨rfl,trivial⟩ trivial Cf A7 Cr A7
 have hK:∀i,i<x.links.length→Ox x i:=fun i hi=>he i Ab
 clear he hu
 have hu:=Fc (fun i=>My x.graph.workers (x.tokens.getD i default))
 refine C0 A0 false [] (fun k:Nat=>[(7,.c (vi k))]) (fun k=>[⟨0,[.c (Bp x.graph.nodes),.c (vi x.graph.workers),.c (vi x.graph.cap),.c (Av x.workers),.c (Cy x.links),.c (C9 x.tokens),.c (Cj x.news)]⟩]) (fun k=>[])
  (fun k=>k≤x.tokens.length∧Mz (fun i=>My x.graph.workers (x.tokens.getD i default)) k) (fun k=>x.tokens.length-k) 0 ⟨Nat.zero_le _,by first|rfl|assumption|simp⟩ ⟨G9,trivial⟩ Cf trivial Cr A7 (fun k hk=>?_)
 obtain ⟨hk,he⟩:=hk
 conv=>whnf
 refine Fi (fun h'=>?_) fun h'=>?_<;>conv=>whnf
 ·have h':k<x.tokens.length:=by omega
  repeat' (first|(refine L6 ?_;conv=>whnf)|(refine L7 ?_;conv=>whnf)|(refine ⟨fun h=>?_,fun h=>?_⟩<;>conv=>whnf)|(refine B5 (Fh _ _ _) rfl (A8 ?_))|(refine Gx ?_;conv=>whnf)|(refine B7 7 rfl [0,1,2,3,4,5,6,7,8] A7 (A8 ?_))|(refine B7 13 rfl [0,1,2,3,4,5,6,7,8,9,10,11,12,13,14,15,16,17,18,19,20,21,22,23,24,25,26,27,28,29,30,31,32,33] A7 (A8 ?_))|fail)
  all_goals try (refine B3 A0 rfl rfl ⟨congrArg vb (decide_eq_false fun p=>?_),trivial⟩;obtain ⟨q1,q2,q3⟩:=p.2.2.2.1 _ (B8 (d:=default) h');clear p he hu hG hW hH hK;simp only [Int.toNat_natCast] at *;first|(simp only [beq_iff_eq,beq_eq_false_iff_ne,bne_iff_ne,bne_eq_false_iff_eq,Bool.not_eq_true',Bool.not_eq_false',Go.Sx.As,Go.Sx.Bn,decide_eq_true_eq,decide_eq_false_iff_not,ne_eq,Int.not_lt,Int.not_le,ge_iff_le,gt_iff_lt,Int.toNat_zero,Int.toNat_one,Int.toNat_natCast] at *;omega)|(simp only [beq_iff_eq,beq_eq_false_iff_ne,bne_iff_ne,bne_eq_false_iff_eq,Bool.not_eq_true',Bool.not_eq_false',Go.Sx.As,Go.Sx.Bn,decide_eq_true_eq,decide_eq_false_iff_not,ne_eq,Int.not_lt,Int.not_le,ge_iff_le,gt_iff_lt,Int.toNat_zero,Int.toNat_one,Int.toNat_natCast] at *;simp_all;done)|(simp_all;done))
  all_goals
   have hs:My x.graph.workers (x.tokens.getD k default):=by
    refine ⟨?_,?_,?_⟩<;>clear he hu hG hW hH hK<;>simp only [Int.toNat_natCast] at * <;>first|(simp only [beq_iff_eq,beq_eq_false_iff_ne,bne_iff_ne,bne_eq_false_iff_eq,Bool.not_eq_true',Bool.not_eq_false',Go.Sx.As,Go.Sx.Bn,decide_eq_true_eq,decide_eq_false_iff_not,ne_eq,Int.not_lt,Int.not_le,ge_iff_le,gt_iff_lt,Int.toNat_zero,Int.toNat_one,Int.toNat_natCast] at *;omega)|(simp only [beq_iff_eq,beq_eq_false_iff_ne,bne_iff_ne,bne_eq_false_iff_eq,Bool.not_eq_true',Bool.not_eq_false',Go.Sx.As,Go.Sx.Bn,decide_eq_true_eq,decide_eq_false_iff_not,ne_eq,Int.not_lt,Int.not_le,ge_iff_le,gt_iff_lt,Int.toNat_zero,Int.toNat_one,Int.toNat_natCast] at *;simp_all;done)|(simp_all;done)
   refine B9 [] (k+1) ⟨by omega,Fb he hs⟩ Ab ⟨rfl,trivial⟩ trivial Cf A7 Cr A7
 have e:k=x.tokens.length:=by omega
 have hT:∀t∈x.tokens,My x.graph.workers t:=K9 (p:=My x.graph.workers) (e▸he)
 clear he hu
 have hu:=Fc (fun i=>Ml x.graph.workers (x.news.getD i default))
 refine C0 A0 false [] (fun k:Nat=>[(8,.c (vi k))]) (fun k=>[⟨0,[.c (Bp x.graph.nodes),.c (vi x.graph.workers),.c (vi x.graph.cap),.c (Av x.workers),.c (Cy x.links),.c (C9 x.tokens),.c (Cj x.news)]⟩]) (fun k=>[])
  (fun k=>k≤x.news.length∧Mz (fun i=>Ml x.graph.workers (x.news.getD i default)) k) (fun k=>x.news.length-k) 0 ⟨Nat.zero_le _,by first|rfl|assumption|simp⟩ ⟨G9,trivial⟩ Cf trivial Cr A7 (fun k hk=>?_)
 obtain ⟨hk,he⟩:=hk
 conv=>whnf
 refine Fi (fun h'=>?_) fun h'=>?_<;>conv=>whnf
 ·have h':k<x.news.length:=by omega
  repeat' (first|(refine L6 ?_;conv=>whnf)|(refine L7 ?_;conv=>whnf)|(refine ⟨fun h=>?_,fun h=>?_⟩<;>conv=>whnf)|(refine B5 (Fh _ _ _) rfl (A8 ?_))|(refine Gx ?_;conv=>whnf)|(refine B7 7 rfl [0,1,2,3,4,5,6,7,8] A7 (A8 ?_))|(refine B7 13 rfl [0,1,2,3,4,5,6,7,8,9,10,11,12,13,14,15,16,17,18,19,20,21,22,23,24,25,26,27,28,29,30,31,32,33] A7 (A8 ?_))|fail)
  all_goals try (refine B3 A0 rfl rfl ⟨congrArg vb (decide_eq_false fun p=>?_),trivial⟩;obtain ⟨q1,q2⟩:=p.2.2.2.2 _ (B8 (d:=default) h');clear p he hu hG hW hH hK hT;simp only [beq_iff_eq,beq_eq_false_iff_ne,bne_iff_ne,bne_eq_false_iff_eq,Bool.not_eq_true',Bool.not_eq_false',Go.Sx.As,Go.Sx.Bn,decide_eq_true_eq,decide_eq_false_iff_not,ne_eq,Int.not_lt,Int.not_le,ge_iff_le,gt_iff_lt,Int.toNat_zero,Int.toNat_one,Int.toNat_natCast] at *;omega)
  all_goals
   have hs:Ml x.graph.workers (x.news.getD k default):=by
    refine ⟨?_,?_⟩<;>clear he hu hG hW hH hK hT<;>(simp only [beq_iff_eq,beq_eq_false_iff_ne,bne_iff_ne,bne_eq_false_iff_eq,Bool.not_eq_true',Bool.not_eq_false',Go.Sx.As,Go.Sx.Bn,decide_eq_true_eq,decide_eq_false_iff_not,ne_eq,Int.not_lt,Int.not_le,ge_iff_le,gt_iff_lt,Int.toNat_zero,Int.toNat_one,Int.toNat_natCast] at *;omega)
   refine B9 [] (k+1) ⟨by omega,Fb he hs⟩ Ab ⟨rfl,trivial⟩ trivial Cf A7 Cr A7
 have e:k=x.news.length:=by omega
 have hN:∀t∈x.news,Ml x.graph.workers t:=K9 (p:=Ml x.graph.workers) (e▸he)
 exact B3 A0 rfl rfl ⟨congrArg vb (decide_eq_true ⟨hH,hW,hK,hT,hN⟩),trivial⟩
theorem W9 (l:List Ag)(h:l.length≤16777216):Bo Tryz.prog 164 [.one (Ak l)] [.one (Ak l)]:=by
 refine Bh A0 false Tryz.func164 rfl Aw fun W=>?_
 conv=>whnf
 refine B1 A0 rfl rfl rfl rfl rfl rfl rfl rfl rfl rfl rfl (Ak l) (Ci) (fun _=>Eo l) Ab (A8 ?_)
 exact B3 A0 rfl rfl ⟨rfl,trivial⟩
theorem Jn (l:Bv)(h:l.w≤16777216):Bo Tryz.prog 136 [.agg l.c] [.agg l.c]:=by
 have h:l.queue.length≤16777216:=h
 refine Bh A0 false Tryz.func136 rfl Aw fun W=>?_
 conv=>whnf
 refine B1 A0 rfl rfl rfl rfl rfl rfl rfl rfl rfl rfl rfl (Ah l.queue) (Ci) (fun _=>F8 l.queue) Ab (A8 ?_)
 exact B3 A0 rfl rfl ⟨⟨rfl,rfl,rfl,rfl,rfl,rfl,trivial⟩,trivial⟩
set_option maxHeartbeats 8000000 in
theorem H4 (x:A9)(h:x.w≤16777216):Bo Tryz.prog 135 [.agg x.c] [.agg x.c]:=by
 simp only [A9.w] at h
 refine A9m A0 false Tryz.func135 rfl Aw fun W us hul huv huo hp=>?_
 match us,hul with
 | [v0,v1,v2,v3,v4,v5,v6,v7],_=>
 conv=>whnf
 refine J8 rfl ?_
 refine Bu A0 false 1 rfl rfl A7 rfl (A4 B2) ?_
 refine Bu A0 false 5 rfl rfl A7 rfl (A4 B2) ?_
 refine Bu A0 false 9 rfl rfl A7 rfl (A4 B2) ?_
 refine Bu A0 false 13 rfl rfl A7 rfl (A4 B2) ?_
 refine Bu A0 false 17 rfl rfl A7 rfl (A4 B2) ?_
 refine Bu A0 false 21 rfl rfl A7 rfl (A4 B2) ?_
 refine Bu A0 false 25 rfl rfl A7 rfl (A4 B2) ?_
 refine Bu A0 false 29 rfl rfl A7 rfl (A4 B2) ?_
 refine Lf [3,7,11,15,19,23,27,31,32,33] [⟨0,3,.emp 5⟩,⟨2,5,.rd v0⟩,⟨4,7,.emp 5⟩,⟨6,9,.rd v1⟩,⟨8,11,.emp 5⟩,⟨10,13,.rd v2⟩,⟨12,15,.emp 4⟩,⟨14,17,.rd v3⟩,⟨16,19,.emp 1⟩,⟨18,21,.rd v4⟩,⟨20,23,.emp 1⟩,⟨22,25,.rd v5⟩,⟨24,27,.emp 1⟩,⟨26,29,.rd v6⟩,⟨28,31,.emp 2⟩,⟨30,33,.rd v7⟩] A7 ?_
 refine Bm (s':=?_) A0 rfl A7 E5 ?_ ?_
 rotate_left
 refine A8 ?_
 refine K8 hp 0 rfl 5 rfl ?_
 refine B1 A0 rfl rfl rfl rfl rfl rfl rfl rfl rfl rfl rfl (Ah x.queue) (Ci) (fun _=>F8 x.queue) Ab (A8 ?_)
 exact Bf
 refine Bm (s':=?_) A0 rfl A7 E5 ?_ ?_
 rotate_left
 refine A8 ?_
 refine K8 hp 1 rfl 9 rfl ?_
 refine B1 A0 rfl rfl rfl rfl rfl rfl rfl rfl rfl rfl rfl (Ah x.staged) (Ci) (fun _=>F8 x.staged) Ab (A8 ?_)
 exact Bf
 refine Bm (s':=?_) A0 rfl A7 E5 ?_ ?_
 rotate_left
 refine A8 ?_
 refine K8 hp 2 rfl 13 rfl ?_
 refine B1 A0 rfl rfl rfl rfl rfl rfl rfl rfl rfl rfl rfl (Ah x.inputs) (Ci) (fun _=>F8 x.inputs) Ab (A8 ?_)
 exact Bf
 refine Bm (s':=?_) A0 rfl A7 E5 ?_ ?_
 rotate_left
 refine A8 ?_
 refine K8 hp 3 rfl 17 rfl ?_
 refine B1 A0 rfl rfl rfl rfl rfl rfl rfl rfl rfl rfl rfl (Ak x.cells) (Ci) (fun _=>Eo x.cells) Ab (A8 ?_)
 exact Bf
 refine Bm (s':=?_) A0 rfl A7 E5 ?_ ?_
 rotate_left
 refine A8 ?_
 refine K8 hp 4 rfl 21 rfl ?_
 refine B1 A0 rfl rfl rfl rfl rfl rfl rfl rfl rfl rfl rfl (At x.sums) (Ci) (fun _=>Rh x.sums) Ab (A8 ?_)
 exact Bf
 refine Bm (s':=?_) A0 rfl A7 E5 ?_ ?_
 rotate_left
 refine A8 ?_
 refine K8 hp 5 rfl 25 rfl ?_
 refine B1 A0 rfl rfl rfl rfl rfl rfl rfl rfl rfl rfl rfl (Ek x.black) (Ci) (fun _=>U5 x.black) Ab (A8 ?_)
 exact Bf
 refine Bm (s':=?_) A0 rfl A7 E5 ?_ ?_
 rotate_left
 refine A8 ?_
 refine K8 hp 6 rfl 29 rfl ?_
 refine B1 A0 rfl rfl rfl rfl rfl rfl rfl rfl rfl rfl rfl (Ek x.caps) (Ci) (fun _=>U5 x.caps) Ab (A8 ?_)
 exact Bf
 refine Bm (s':=?_) A0 rfl A7 E5 ?_ ?_
 rotate_left
 refine A8 ?_
 refine K8 hp 7 rfl 33 rfl ?_
 refine B1 A0 rfl rfl rfl rfl rfl rfl rfl rfl rfl rfl rfl (Hv x.dones) (Ci) (fun _=>A3j x.dones) Ab (A8 ?_)
 exact Bf
 refine Bm (s':=?_) A0 rfl A7 E5 ?_ ?_
 rotate_left
 refine A8 ?_
 (repeat refine An ?_)
 exact Bf
 refine Bm (s':=?_) A0 rfl A7 E5 ?_ ?_
 rotate_left
 refine A8 ?_
 (repeat refine An ?_)
 exact Bf
 refine K3 A0 A7 E5 (GW.out (Ji ?_))
 conv=>whnf
 exact B3 A0 rfl rfl ⟨⟨rfl,rfl,rfl,rfl,rfl,rfl,rfl,rfl,trivial⟩,trivial⟩
end Go.Proofs.YtdendlkeiaccpaaGreatDoor
