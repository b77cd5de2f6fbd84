/- Part 12 of the proof that each of the laws FnTotals returns true for every input. No conditions. -/
import Derived.Test.YtdendlkeiaccpaaGreatP11
import Derived.Test.YtdendlkeiaccpaaGreatP4
import Derived.Test.YtdendlkeiaccpaaGreatP6

set_option linter.unusedSimpArgs false
set_option linter.unusedVariables false
set_option maxRecDepth 100000
namespace Go.Proofs.YtdendlkeiaccpaaGreat
open Go.Sx
theorem A6.graph_le {c:A6}{n:Nat}(h:c.w≤n):c.graph.w≤n:=by simp only [A6.w] at h;omega
theorem A6.worker_le {c:A6}{n:Nat}(h:c.w≤n){k:Nat}(hk:k<c.workers.length):(c.workers.getD k default).w≤n:=by
 simp only [A6.w,wS] at h
 have hle:=Gv Ac.w c.workers k hk
 omega
theorem A6.link_le {c:A6}{n:Nat}(h:c.w≤n){k:Nat}(hk:k<c.links.length):(c.links.getD k default).w≤n:=by
 simp only [A6.w,wS] at h
 have hle:=Gv B8.w c.links k hk
 omega
def Wm (c:A6) (i:Nat) (l:B8):Prop:=l.cap=c.graph.cap∧Qt c.graph.nodes.length l.queue∧((i:Int).tdiv c.graph.workers=(i:Int).tmod c.graph.workers→l.queue.length=0)
instance (c:A6) (i:Nat) (l:B8):Decidable (Wm c i l):=by unfold Wm;infer_instance
def Ok (c:A6) (i:Nat):Prop:=Fq (c.links.getD i default)∧Wm c i (c.links.getD i default)
instance (c:A6) (i:Nat):Decidable (Ok c i):=by unfold Ok;infer_instance
def Mv (n:Int) (t:Di):Prop:=(0≤t.at_∧t.at_≤n-1)∧(t.going=false→t.at_=0)∧(-1000000≤t.sum∧t.sum≤1000000)
instance (n:Int) (t:Di):Decidable (Mv n t):=by unfold Mv;infer_instance
def Mg (n:Int) (x:Fm):Prop:=(0≤x.to_∧x.to_≤n-1)∧(0≤x.epoch∧x.epoch≤3)
instance (n:Int) (x:Fm):Decidable (Mg n x):=by unfold Mg;infer_instance
def Pi (c:A6):Prop:=Fa c.graph∧c.workers.length=c.graph.workers∧c.links.length=c.graph.workers * c.graph.workers∧c.tokens.length=4
instance (c:A6):Decidable (Pi c):=by unfold Pi;infer_instance
def B4 (c:A6):Prop:=Pi c∧(∀w∈c.workers,Cs c.graph.nodes.length w)∧(∀i,i<c.links.length→Ok c i)∧(∀t∈c.tokens,Mv c.graph.workers t)∧∀x∈c.news,Mg c.graph.workers x
instance (c:A6):Decidable (B4 c):=by unfold B4;infer_instance
def B3 (c:A6):Bool:=decide (B4 c)
theorem B5s {n:Int}(h1:1≤n)(h2:n≤4):1≤n * n∧n * n≤16:=by
 have:n=1∨n=2∨n=3∨n=4:=by omega
 rcases this with rfl|rfl|rfl|rfl<;>decide
theorem B3o {n k:Int}(hn:1≤n)(hk:0≤k):0≤k.tdiv n∧k.tdiv n≤k:=by
 obtain ⟨m,rfl⟩:=Int.eq_ofNat_of_zero_le hk
 obtain ⟨d,rfl⟩:=Int.eq_ofNat_of_zero_le (show 0≤n by omega)
 rw [←Int.ofNat_tdiv]
 exact ⟨Int.natCast_nonneg _,Int.ofNat_le.2 (Nat.div_le_self m d)⟩
set_option maxHeartbeats 2000000 in
theorem Oe (x:A6)(hx:x.w≤16777216):Bi Tryz.prog 42 [.agg x.c] [.one (vb (B3 x))]:=by
 have hg:=A6.graph_le hx
 have hx2:=hx
 simp only [A6.w,wS] at hx2
 refine Bd A0 false Tryz.func42 rfl Aw fun W=>?_
 conv=>whnf
 refine Az (Hr x.graph hg) rfl (A8 ?_)
 refine ⟨fun hG=>?_,fun hG=>?_⟩<;>conv=>whnf
 ·repeat refine B7 ?_
  exact B2 A0 rfl rfl ⟨congrArg vb (decide_eq_false fun p=>by rw [show I3 x.graph=true from decide_eq_true p.1.1] at hG;exact absurd hG Aw),trivial⟩
 have hG:Fa x.graph:=of_decide_eq_true (show I3 x.graph=true by simpa using hG)
 have hn1:=hG.2.1.1
 have hn2:=hG.2.1.2
 have hnn:=B5s hn1 hn2
 repeat' (first|(refine Oo ?_;conv=>whnf)|(refine Oq ?_;conv=>whnf)|(refine ⟨fun h=>?_,fun h=>?_⟩<;>conv=>whnf)|(refine I8 ?_;conv=>whnf)|(refine B5 7 rfl [0,1,2,3,4,5,6,7,8] A7 (A8 ?_))|(refine B5 13 rfl [0,1,2,3,4,5,6,7,8,9,10,11,12,13,14,15,16,17,18,19,20,21,22,23,24,25,26,27,28,29,30,31,32,33] A7 (A8 ?_))|fail)
 all_goals try (refine B2 A0 rfl rfl ⟨congrArg vb (decide_eq_false fun p=>?_),trivial⟩;obtain ⟨_,p1,p2,p3⟩:=p.1;clear p hG;simp only [beq_iff_eq,beq_eq_false_iff_ne,bne_iff_ne,bne_eq_false_iff_eq,Bool.not_eq_true',Bool.not_eq_false',Go.Sx.Au,Go.Sx.Bo,decide_eq_true_eq,decide_eq_false_iff_not,ne_eq,Int.not_lt,Int.not_le,ge_iff_le,gt_iff_lt,Int.toNat_zero,Int.toNat_one,Int.toNat_natCast] at *;omega)
 have hH:Pi x:=by refine ⟨hG,?_,?_,?_⟩<;>(clear hG;simp only [beq_iff_eq,beq_eq_false_iff_ne,bne_iff_ne,bne_eq_false_iff_eq,Bool.not_eq_true',Bool.not_eq_false',Go.Sx.Au,Go.Sx.Bo,decide_eq_true_eq,decide_eq_false_iff_not,ne_eq,Int.not_lt,Int.not_le,ge_iff_le,gt_iff_lt,Int.toNat_zero,Int.toNat_one,Int.toNat_natCast] at *;omega)
 rename_i a1 a2
 clear h a1 a2
 have hu:=F0 (fun i=>Cs x.graph.nodes.length (x.workers.getD i default))
 refine Bv A0 false [] (fun k:Nat=>[(4,.c (vi k))]) (fun k=>[⟨0,[.c (Br x.graph.nodes),.c (vi x.graph.workers),.c (vi x.graph.cap),.c (Ar x.workers),.c (Ct x.links),.c (C9 x.tokens),.c (Ch x.news)]⟩]) (fun k=>[])
  (fun k=>k≤x.workers.length∧Mw (fun i=>Cs x.graph.nodes.length (x.workers.getD i default)) k) (fun k=>x.workers.length-k) 0 ⟨Nat.zero_le _,by first|rfl|assumption|simp⟩ ⟨F3,trivial⟩ Cf trivial Cj A7 (fun k hk=>?_)
 obtain ⟨hk,he⟩:=hk
 conv=>whnf
 have hwl:=hH.2.1
 refine Es (fun h'=>?_) fun h'=>?_<;>conv=>whnf
 ·have h':k<x.workers.length:=by omega
  (repeat refine Am ?_)
  first|(refine B5 7 rfl [0,1,2,3,4,5,6,7,8] A7 (A8 ?_))|(refine B5 13 rfl [0,1,2,3,4,5,6,7,8,9,10,11,12,13,14,15,16,17,18,19,20,21,22,23,24,25,26,27,28,29,30,31,32,33] A7 (A8 ?_))
  (repeat refine Am ?_)
  refine Az (Mb x.graph (x.workers.getD k default) hg (A6.worker_le hx h')) rfl (A8 ?_)
  refine ⟨fun h=>?_,fun h=>?_⟩<;>conv=>whnf
  ·exact B2 A0 rfl rfl ⟨congrArg vb (decide_eq_false fun p=>by rw [show K7 _ _=true from decide_eq_true (p.2.1 _ (B9 (d:=default) h'))] at h;exact absurd h Aw),trivial⟩
  (repeat refine Am ?_)
  refine B6 [] (k+1) ⟨by omega,Ez he (of_decide_eq_true (show K7 _ _=true by simpa using h))⟩ Ab ⟨rfl,trivial⟩ trivial Cf A7 Cj A7
 have e:k=x.workers.length:=by omega
 have hW:∀w∈x.workers,Cs x.graph.nodes.length w:=K6 (p:=fun w=>Cs x.graph.nodes.length w) (e▸he)
 clear he hu
 have hu:=F0 (Ok x)
 refine Bv A0 false [] (fun k:Nat=>[(5,.c (vi k))]) (fun k=>[⟨0,[.c (Br x.graph.nodes),.c (vi x.graph.workers),.c (vi x.graph.cap),.c (Ar x.workers),.c (Ct x.links),.c (C9 x.tokens),.c (Ch x.news)]⟩]) (fun k=>[])
  (fun k=>k≤x.links.length∧Mw (Ok x) k) (fun k=>x.links.length-k) 0 ⟨Nat.zero_le _,by first|rfl|assumption|simp⟩ ⟨F3,trivial⟩ Cf trivial Cj A7 (fun k hk=>?_)
 obtain ⟨hk,he⟩:=hk
 conv=>whnf
 refine Es (fun h'=>?_) fun h'=>?_<;>conv=>whnf
 ·have h':k<x.links.length:=by omega
  have hq:(x.links.getD k default).queue.length≤16777216:=A6.link_le hx h'
  have hd:=B3o hn1 (show 0≤(k:Int) by omega)
  repeat' (first|(refine Oo ?_;conv=>whnf)|(refine Oq ?_;conv=>whnf)|(refine ⟨fun h=>?_,fun h=>?_⟩<;>conv=>whnf)|(refine Az (M9 (x.links.getD k default) (A6.link_le hx h')) rfl (Jf ?_);conv=>whnf)|(refine Az (Ny x.graph (x.links.getD k default).queue hg hq) rfl (Jf ?_);conv=>whnf)|(refine I8 ?_;conv=>whnf)|(refine B5 7 rfl [0,1,2,3,4,5,6,7,8] A7 (A8 ?_))|(refine B5 13 rfl [0,1,2,3,4,5,6,7,8,9,10,11,12,13,14,15,16,17,18,19,20,21,22,23,24,25,26,27,28,29,30,31,32,33] A7 (A8 ?_))|fail)
  all_goals try (refine B2 A0 rfl rfl ⟨congrArg vb (decide_eq_false fun p=>?_),trivial⟩;obtain ⟨q1,q2,q3,q4⟩:=p.2.2.1 k h';clear p he hu hG hW hH;simp only [Int.toNat_natCast,Lz,A02] at *;first|(simp_all;done)|(simp_all;omega))
  all_goals
   have hs:Ok x k:=by
    refine ⟨of_decide_eq_true (show Lz _=true by simp_all),?_,of_decide_eq_true (show A02 _ _=true by simp_all),?_⟩<;>clear he hu hG hW hH<;>simp only [Int.toNat_natCast] at * <;>first|(simp_all;done)|(simp_all;omega)
   refine B6 [] (k+1) ⟨by omega,Ez he hs⟩ Ab ⟨rfl,trivial⟩ trivial Cf A7 Cj A7
 have hK:∀i,i<x.links.length→Ok x i:=fun i hi=>he i Ab
 clear he hu
 have hu:=F0 (fun i=>Mv x.graph.workers (x.tokens.getD i default))
 refine Bv A0 false [] (fun k:Nat=>[(7,.c (vi k))]) (fun k=>[⟨0,[.c (Br x.graph.nodes),.c (vi x.graph.workers),.c (vi x.graph.cap),.c (Ar x.workers),.c (Ct x.links),.c (C9 x.tokens),.c (Ch x.news)]⟩]) (fun k=>[])
  (fun k=>k≤x.tokens.length∧Mw (fun i=>Mv x.graph.workers (x.tokens.getD i default)) k) (fun k=>x.tokens.length-k) 0 ⟨Nat.zero_le _,by first|rfl|assumption|simp⟩ ⟨F3,trivial⟩ Cf trivial Cj A7 (fun k hk=>?_)
 obtain ⟨hk,he⟩:=hk
 conv=>whnf
 refine Es (fun h'=>?_) fun h'=>?_<;>conv=>whnf
 ·have h':k<x.tokens.length:=by omega
  repeat' (first|(refine Oo ?_;conv=>whnf)|(refine Oq ?_;conv=>whnf)|(refine ⟨fun h=>?_,fun h=>?_⟩<;>conv=>whnf)|(refine Az (Ep _ _ _) rfl (A8 ?_))|(refine I8 ?_;conv=>whnf)|(refine B5 7 rfl [0,1,2,3,4,5,6,7,8] A7 (A8 ?_))|(refine B5 13 rfl [0,1,2,3,4,5,6,7,8,9,10,11,12,13,14,15,16,17,18,19,20,21,22,23,24,25,26,27,28,29,30,31,32,33] A7 (A8 ?_))|fail)
  all_goals try (refine B2 A0 rfl rfl ⟨congrArg vb (decide_eq_false fun p=>?_),trivial⟩;obtain ⟨q1,q2,q3⟩:=p.2.2.2.1 _ (B9 (d:=default) h');clear p he hu hG hW hH hK;simp only [Int.toNat_natCast] at *;first|(simp only [beq_iff_eq,beq_eq_false_iff_ne,bne_iff_ne,bne_eq_false_iff_eq,Bool.not_eq_true',Bool.not_eq_false',Go.Sx.Au,Go.Sx.Bo,decide_eq_true_eq,decide_eq_false_iff_not,ne_eq,Int.not_lt,Int.not_le,ge_iff_le,gt_iff_lt,Int.toNat_zero,Int.toNat_one,Int.toNat_natCast] at *;omega)|(simp only [beq_iff_eq,beq_eq_false_iff_ne,bne_iff_ne,bne_eq_false_iff_eq,Bool.not_eq_true',Bool.not_eq_false',Go.Sx.Au,Go.Sx.Bo,decide_eq_true_eq,decide_eq_false_iff_not,ne_eq,Int.not_lt,Int.not_le,ge_iff_le,gt_iff_lt,Int.toNat_zero,Int.toNat_one,Int.toNat_natCast] at *;simp_all;done)|(simp_all;done))
  all_goals
   have hs:Mv x.graph.workers (x.tokens.getD k default):=by
    refine ⟨?_,?_,?_⟩<;>clear he hu hG hW hH hK<;>simp only [Int.toNat_natCast] at * <;>first|(simp only [beq_iff_eq,beq_eq_false_iff_ne,bne_iff_ne,bne_eq_false_iff_eq,Bool.not_eq_true',Bool.not_eq_false',Go.Sx.Au,Go.Sx.Bo,decide_eq_true_eq,decide_eq_false_iff_not,ne_eq,Int.not_lt,Int.not_le,ge_iff_le,gt_iff_lt,Int.toNat_zero,Int.toNat_one,Int.toNat_natCast] at *;omega)|(simp only [beq_iff_eq,beq_eq_false_iff_ne,bne_iff_ne,bne_eq_false_iff_eq,Bool.not_eq_true',Bool.not_eq_false',Go.Sx.Au,Go.Sx.Bo,decide_eq_true_eq,decide_eq_false_iff_not,ne_eq,Int.not_lt,Int.not_le,ge_iff_le,gt_iff_lt,Int.toNat_zero,Int.toNat_one,Int.toNat_natCast] at *;simp_all;done)|(simp_all;done)
   refine B6 [] (k+1) ⟨by omega,Ez he hs⟩ Ab ⟨rfl,trivial⟩ trivial Cf A7 Cj A7
 have e:k=x.tokens.length:=by omega
 have hT:∀t∈x.tokens,Mv x.graph.workers t:=K6 (p:=Mv x.graph.workers) (e▸he)
 clear he hu
 have hu:=F0 (fun i=>Mg x.graph.workers (x.news.getD i default))
 refine Bv A0 false [] (fun k:Nat=>[(8,.c (vi k))]) (fun k=>[⟨0,[.c (Br x.graph.nodes),.c (vi x.graph.workers),.c (vi x.graph.cap),.c (Ar x.workers),.c (Ct x.links),.c (C9 x.tokens),.c (Ch x.news)]⟩]) (fun k=>[])
  (fun k=>k≤x.news.length∧Mw (fun i=>Mg x.graph.workers (x.news.getD i default)) k) (fun k=>x.news.length-k) 0 ⟨Nat.zero_le _,by first|rfl|assumption|simp⟩ ⟨F3,trivial⟩ Cf trivial Cj A7 (fun k hk=>?_)
 obtain ⟨hk,he⟩:=hk
 conv=>whnf
 refine Es (fun h'=>?_) fun h'=>?_<;>conv=>whnf
 ·have h':k<x.news.length:=by omega
  repeat' (first|(refine Oo ?_;conv=>whnf)|(refine Oq ?_;conv=>whnf)|(refine ⟨fun h=>?_,fun h=>?_⟩<;>conv=>whnf)|(refine Az (Ep _ _ _) rfl (A8 ?_))|(refine I8 ?_;conv=>whnf)|(refine B5 7 rfl [0,1,2,3,4,5,6,7,8] A7 (A8 ?_))|(refine B5 13 rfl [0,1,2,3,4,5,6,7,8,9,10,11,12,13,14,15,16,17,18,19,20,21,22,23,24,25,26,27,28,29,30,31,32,33] A7 (A8 ?_))|fail)
  all_goals try (refine B2 A0 rfl rfl ⟨congrArg vb (decide_eq_false fun p=>?_),trivial⟩;obtain ⟨q1,q2⟩:=p.2.2.2.2 _ (B9 (d:=default) h');clear p he hu hG hW hH hK hT;simp only [beq_iff_eq,beq_eq_false_iff_ne,bne_iff_ne,bne_eq_false_iff_eq,Bool.not_eq_true',Bool.not_eq_false',Go.Sx.Au,Go.Sx.Bo,decide_eq_true_eq,decide_eq_false_iff_not,ne_eq,Int.not_lt,Int.not_le,ge_iff_le,gt_iff_lt,Int.toNat_zero,Int.toNat_one,Int.toNat_natCast] at *;omega)
  all_goals
   have hs:Mg x.graph.workers (x.news.getD k default):=by
    refine ⟨?_,?_⟩<;>clear he hu hG hW hH hK hT<;>(simp only [beq_iff_eq,beq_eq_false_iff_ne,bne_iff_ne,bne_eq_false_iff_eq,Bool.not_eq_true',Bool.not_eq_false',Go.Sx.Au,Go.Sx.Bo,decide_eq_true_eq,decide_eq_false_iff_not,ne_eq,Int.not_lt,Int.not_le,ge_iff_le,gt_iff_lt,Int.toNat_zero,Int.toNat_one,Int.toNat_natCast] at *;omega)
   refine B6 [] (k+1) ⟨by omega,Ez he hs⟩ Ab ⟨rfl,trivial⟩ trivial Cf A7 Cj A7
 have e:k=x.news.length:=by omega
 have hN:∀t∈x.news,Mg x.graph.workers t:=K6 (p:=Mg x.graph.workers) (e▸he)
 exact B2 A0 rfl rfl ⟨congrArg vb (decide_eq_true ⟨hH,hW,hK,hT,hN⟩),trivial⟩
theorem Sm (l:List A9)(h:l.length≤16777216):Bi Tryz.prog 132 [.one (Aa l)] [.one (Aa l)]:=by
 refine Bd A0 false Tryz.func132 rfl Aw fun W=>?_
 conv=>whnf
 refine Av A0 rfl rfl rfl rfl rfl rfl rfl rfl rfl rfl rfl (Aa l) (Cc) (fun _=>Cd l) Ab (A8 ?_)
 exact B2 A0 rfl rfl ⟨rfl,trivial⟩
theorem Jn (l:B8)(h:l.w≤16777216):Bi Tryz.prog 179 [.agg l.c] [.agg l.c]:=by
 have h:l.queue.length≤16777216:=h
 refine Bd A0 false Tryz.func179 rfl Aw fun W=>?_
 conv=>whnf
 refine Av A0 rfl rfl rfl rfl rfl rfl rfl rfl rfl rfl rfl (Aa l.queue) (Cc) (fun _=>Cd l.queue) Ab (A8 ?_)
 exact B2 A0 rfl rfl ⟨⟨rfl,rfl,rfl,rfl,rfl,rfl,trivial⟩,trivial⟩
set_option maxHeartbeats 8000000 in
theorem Gu (x:Ac)(h:x.w≤16777216):Bi Tryz.prog 178 [.agg x.c] [.agg x.c]:=by
 simp only [Ac.w] at h
 refine A8w A0 false Tryz.func178 rfl Aw fun W us hul huv huo hp=>?_
 match us,hul with
 | [v0,v1,v2,v3,v4,v5,v6,v7],_=>
 conv=>whnf
 refine Je rfl ?_
 refine Bu A0 false 1 rfl rfl A7 rfl (A4 B1) ?_
 refine Bu A0 false 5 rfl rfl A7 rfl (A4 B1) ?_
 refine Bu A0 false 9 rfl rfl A7 rfl (A4 B1) ?_
 refine Bu A0 false 13 rfl rfl A7 rfl (A4 B1) ?_
 refine Bu A0 false 17 rfl rfl A7 rfl (A4 B1) ?_
 refine Bu A0 false 21 rfl rfl A7 rfl (A4 B1) ?_
 refine Bu A0 false 25 rfl rfl A7 rfl (A4 B1) ?_
 refine Bu A0 false 29 rfl rfl A7 rfl (A4 B1) ?_
 refine Ng [3,7,11,15,19,23,27,31,32,33] [⟨0,3,.emp 5⟩,⟨2,5,.rd v0⟩,⟨4,7,.emp 5⟩,⟨6,9,.rd v1⟩,⟨8,11,.emp 5⟩,⟨10,13,.rd v2⟩,⟨12,15,.emp 4⟩,⟨14,17,.rd v3⟩,⟨16,19,.emp 1⟩,⟨18,21,.rd v4⟩,⟨20,23,.emp 1⟩,⟨22,25,.rd v5⟩,⟨24,27,.emp 1⟩,⟨26,29,.rd v6⟩,⟨28,31,.emp 2⟩,⟨30,33,.rd v7⟩] A7 ?_
 refine Bp (s':=?_) A0 rfl A7 Dx ?_ ?_
 rotate_left
 refine A8 ?_
 refine K2 hp 0 rfl 5 rfl ?_
 refine Av A0 rfl rfl rfl rfl rfl rfl rfl rfl rfl rfl rfl (Aa x.queue) (Cc) (fun _=>Cd x.queue) Ab (A8 ?_)
 exact Bh
 refine Bp (s':=?_) A0 rfl A7 Dx ?_ ?_
 rotate_left
 refine A8 ?_
 refine K2 hp 1 rfl 9 rfl ?_
 refine Av A0 rfl rfl rfl rfl rfl rfl rfl rfl rfl rfl rfl (Aa x.staged) (Cc) (fun _=>Cd x.staged) Ab (A8 ?_)
 exact Bh
 refine Bp (s':=?_) A0 rfl A7 Dx ?_ ?_
 rotate_left
 refine A8 ?_
 refine K2 hp 2 rfl 13 rfl ?_
 refine Av A0 rfl rfl rfl rfl rfl rfl rfl rfl rfl rfl rfl (Aa x.inputs) (Cc) (fun _=>Cd x.inputs) Ab (A8 ?_)
 exact Bh
 refine Bp (s':=?_) A0 rfl A7 Dx ?_ ?_
 rotate_left
 refine A8 ?_
 refine K2 hp 3 rfl 17 rfl ?_
 refine Av A0 rfl rfl rfl rfl rfl rfl rfl rfl rfl rfl rfl (Bg x.cells) (Cc) (fun _=>Ej x.cells) Ab (A8 ?_)
 exact Bh
 refine Bp (s':=?_) A0 rfl A7 Dx ?_ ?_
 rotate_left
 refine A8 ?_
 refine K2 hp 4 rfl 21 rfl ?_
 refine Av A0 rfl rfl rfl rfl rfl rfl rfl rfl rfl rfl rfl (Ap x.sums) (Cc) (fun _=>R0 x.sums) Ab (A8 ?_)
 exact Bh
 refine Bp (s':=?_) A0 rfl A7 Dx ?_ ?_
 rotate_left
 refine A8 ?_
 refine K2 hp 5 rfl 25 rfl ?_
 refine Av A0 rfl rfl rfl rfl rfl rfl rfl rfl rfl rfl rfl (Eg x.black) (Cc) (fun _=>Ts x.black) Ab (A8 ?_)
 exact Bh
 refine Bp (s':=?_) A0 rfl A7 Dx ?_ ?_
 rotate_left
 refine A8 ?_
 refine K2 hp 6 rfl 29 rfl ?_
 refine Av A0 rfl rfl rfl rfl rfl rfl rfl rfl rfl rfl rfl (Eg x.caps) (Cc) (fun _=>Ts x.caps) Ab (A8 ?_)
 exact Bh
 refine Bp (s':=?_) A0 rfl A7 Dx ?_ ?_
 rotate_left
 refine A8 ?_
 refine K2 hp 7 rfl 33 rfl ?_
 refine Av A0 rfl rfl rfl rfl rfl rfl rfl rfl rfl rfl rfl (Il x.dones) (Cc) (fun _=>A2n x.dones) Ab (A8 ?_)
 exact Bh
 refine Bp (s':=?_) A0 rfl A7 Dx ?_ ?_
 rotate_left
 refine A8 ?_
 (repeat refine Am ?_)
 exact Bh
 refine Bp (s':=?_) A0 rfl A7 Dx ?_ ?_
 rotate_left
 refine A8 ?_
 (repeat refine Am ?_)
 exact Bh
 refine L0 A0 A7 Dx (GW.out (Jf ?_))
 conv=>whnf
 exact B2 A0 rfl rfl ⟨⟨rfl,rfl,rfl,rfl,rfl,rfl,rfl,rfl,trivial⟩,trivial⟩
end Go.Proofs.YtdendlkeiaccpaaGreat
