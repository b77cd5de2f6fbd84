/- Part 9 of the proof that each of the laws FnStalls returns true for every input. No conditions. -/
import Derived.Test.YtonodkjaoalfjaaGreatP8
import Derived.Test.YtonodkjaoalfjaaGreatP4
import Derived.Test.YtonodkjaoalfjaaGreatP6

set_option linter.unusedSimpArgs false
set_option linter.unusedVariables false
set_option maxRecDepth 100000
namespace Go.Proofs.YtonodkjaoalfjaaGreat
open Go.Sx
theorem A3.graph_le {c:A3}{n:Nat}(h:c.w≤n):c.graph.w≤n:=by simp only [A3.w] at h;omega
theorem A3.worker_le {c:A3}{n:Nat}(h:c.w≤n){k:Nat}(hk:k<c.workers.length):(c.workers.getD k default).w≤n:=by
 simp only [A3.w,wS] at h
 have hle:=Hg Ab.w c.workers k hk
 omega
theorem A3.link_le {c:A3}{n:Nat}(h:c.w≤n){k:Nat}(hk:k<c.links.length):(c.links.getD k default).w≤n:=by
 simp only [A3.w,wS] at h
 have hle:=Hg C2.w c.links k hk
 omega
def Uw (c:A3) (i:Nat) (l:C2):Prop:=l.cap=c.graph.cap∧Sm c.graph.nodes.length l.queue∧((i:Int).tdiv c.graph.workers=(i:Int).tmod c.graph.workers→l.queue.length=0)
instance (c:A3) (i:Nat) (l:C2):Decidable (Uw c i l):=by unfold Uw;infer_instance
def Od (c:A3) (i:Nat):Prop:=Gy (c.links.getD i default)∧Uw c i (c.links.getD i default)
instance (c:A3) (i:Nat):Decidable (Od c i):=by unfold Od;infer_instance
def O7 (n:Int) (t:Es):Prop:=(0≤t.at_∧t.at_≤n-1)∧(t.going=false→t.at_=0)∧(-1000000≤t.sum∧t.sum≤1000000)
instance (n:Int) (t:Es):Decidable (O7 n t):=by unfold O7;infer_instance
def Re (n:Int) (x:Cn):Prop:=(0≤x.to_∧x.to_≤n-1)∧(0≤x.epoch∧x.epoch≤3)
instance (n:Int) (x:Cn):Decidable (Re n x):=by unfold Re;infer_instance
def Rc (c:A3):Prop:=E7 c.graph∧c.workers.length=c.graph.workers∧c.links.length=c.graph.workers * c.graph.workers∧c.tokens.length=4
instance (c:A3):Decidable (Rc c):=by unfold Rc;infer_instance
def Ap (c:A3):Prop:=Rc c∧(∀w∈c.workers,D8 c.graph.nodes.length w)∧(∀i,i<c.links.length→Od c i)∧(∀t∈c.tokens,O7 c.graph.workers t)∧∀x∈c.news,Re c.graph.workers x
instance (c:A3):Decidable (Ap c):=by unfold Ap;infer_instance
def Fp (c:A3):Bool:=decide (Ap c)
theorem B9s {n:Int}(h1:1≤n)(h2:n≤4):1≤n * n∧n * n≤16:=by
 have:n=1∨n=2∨n=3∨n=4:=by omega
 rcases this with rfl|rfl|rfl|rfl<;>decide
theorem B7l {n k:Int}(hn:1≤n)(hk:0≤k):0≤k.tdiv n∧k.tdiv n≤k:=by
 obtain ⟨m,rfl⟩:=Int.eq_ofNat_of_zero_le hk
 obtain ⟨d,rfl⟩:=Int.eq_ofNat_of_zero_le (show 0≤n by omega)
 rw [←Int.ofNat_tdiv]
 exact ⟨Int.natCast_nonneg _,Int.ofNat_le.2 (Nat.div_le_self m d)⟩
set_option maxHeartbeats 2000000 in
theorem C2o (x:A3)(hx:x.w≤16777216):B0 Tryz.prog 46 [.agg x.c] [.one (vb (Fp x))]:=by
 have hg:=A3.graph_le hx
 have hx2:=hx
 simp only [A3.w,wS] at hx2
 refine Ay A0 false Tryz.func46 rfl Bu fun W=>?_
 conv=>whnf
 refine Aw (A49 x.graph hg) rfl (Al ?_)
 refine ⟨fun hG=>?_,fun hG=>?_⟩<;>conv=>whnf
 ·repeat refine Bi ?_
  exact Ao A0 rfl rfl ⟨congrArg vb (decide_eq_false fun p=>by rw [show Ga x.graph=true from decide_eq_true p.1.1] at hG;exact absurd hG Bu),trivial⟩
 have hG:E7 x.graph:=of_decide_eq_true (show Ga x.graph=true by simpa using hG)
 have hn1:=hG.2.1.1
 have hn2:=hG.2.1.2
 have hnn:=B9s hn1 hn2
 repeat' (first|(refine Ms ?_;conv=>whnf)|(refine Mt ?_;conv=>whnf)|(refine ⟨fun h=>?_,fun h=>?_⟩<;>conv=>whnf)|(refine Gj ?_;conv=>whnf)|(refine B9 7 rfl [0,1,2,3,4,5,6,7,8] Aa (Al ?_))|(refine B9 13 rfl [0,1,2,3,4,5,6,7,8,9,10,11,12,13,14,15,16,17,18,19,20,21,22,23,24,25,26,27,28,29,30,31,32,33] Aa (Al ?_))|fail)
 all_goals try (refine Ao A0 rfl rfl ⟨congrArg vb (decide_eq_false fun p=>?_),trivial⟩;obtain ⟨_,p1,p2,p3⟩:=p.1;clear p hG;simp only [beq_iff_eq,beq_eq_false_iff_ne,bne_iff_ne,bne_eq_false_iff_eq,Bool.not_eq_true',Bool.not_eq_false',Go.Sx.Am,Go.Sx.Az,decide_eq_true_eq,decide_eq_false_iff_not,ne_eq,Int.not_lt,Int.not_le,ge_iff_le,gt_iff_lt,Int.toNat_zero,Int.toNat_one,Int.toNat_natCast] at *;omega)
 have hH:Rc x:=by refine ⟨hG,?_,?_,?_⟩<;>(clear hG;simp only [beq_iff_eq,beq_eq_false_iff_ne,bne_iff_ne,bne_eq_false_iff_eq,Bool.not_eq_true',Bool.not_eq_false',Go.Sx.Am,Go.Sx.Az,decide_eq_true_eq,decide_eq_false_iff_not,ne_eq,Int.not_lt,Int.not_le,ge_iff_le,gt_iff_lt,Int.toNat_zero,Int.toNat_one,Int.toNat_natCast] at *;omega)
 rename_i a1 a2
 clear h a1 a2
 have hu:=Fe (fun i=>D8 x.graph.nodes.length (x.workers.getD i default))
 refine Bw A0 false [] (fun k:Nat=>[(4,.c (vi k))]) (fun k=>[⟨0,[.c (Bp x.graph.nodes),.c (vi x.graph.workers),.c (vi x.graph.cap),.c (Be x.workers),.c (Dt x.links),.c (C0 x.tokens),.c (Ef x.news)]⟩]) (fun k=>[])
  (fun k=>k≤x.workers.length∧O8 (fun i=>D8 x.graph.nodes.length (x.workers.getD i default)) k) (fun k=>x.workers.length-k) 0 ⟨Nat.zero_le _,by first|rfl|assumption|simp⟩ ⟨by first|rfl|simp [Dl,ren2,ren1,ren0],trivial⟩ F3 trivial Dh Aa (fun k hk=>?_)
 obtain ⟨hk,he⟩:=hk
 conv=>whnf
 have hwl:=hH.2.1
 refine G5 (fun h'=>?_) fun h'=>?_<;>conv=>whnf
 ·have h':k<x.workers.length:=by omega
  (repeat refine Ar ?_)
  first|(refine B9 7 rfl [0,1,2,3,4,5,6,7,8] Aa (Al ?_))|(refine B9 13 rfl [0,1,2,3,4,5,6,7,8,9,10,11,12,13,14,15,16,17,18,19,20,21,22,23,24,25,26,27,28,29,30,31,32,33] Aa (Al ?_))
  (repeat refine Ar ?_)
  refine Aw (C03 x.graph (x.workers.getD k default) hg (A3.worker_le hx h')) rfl (Al ?_)
  refine ⟨fun h=>?_,fun h=>?_⟩<;>conv=>whnf
  ·exact Ao A0 rfl rfl ⟨congrArg vb (decide_eq_false fun p=>by rw [show Lg _ _=true from decide_eq_true (p.2.1 _ (Aq (d:=default) h'))] at h;exact absurd h Bu),trivial⟩
  ·(repeat refine Ar ?_)
   refine B5 [] (k+1) ⟨by omega,Fc he (of_decide_eq_true (show Lg _ _=true by simpa using h))⟩ Ac ⟨rfl,trivial⟩ trivial F3 Aa Dh Aa
 have e:k=x.workers.length:=by omega
 have hW:∀w∈x.workers,D8 x.graph.nodes.length w:=K5 (p:=fun w=>D8 x.graph.nodes.length w) (e▸he)
 clear he hu
 have hu:=Fe (Od x)
 refine Bw A0 false [] (fun k:Nat=>[(5,.c (vi k))]) (fun k=>[⟨0,[.c (Bp x.graph.nodes),.c (vi x.graph.workers),.c (vi x.graph.cap),.c (Be x.workers),.c (Dt x.links),.c (C0 x.tokens),.c (Ef x.news)]⟩]) (fun k=>[])
  (fun k=>k≤x.links.length∧O8 (Od x) k) (fun k=>x.links.length-k) 0 ⟨Nat.zero_le _,by first|rfl|assumption|simp⟩ ⟨by first|rfl|simp [Dl,ren2,ren1,ren0],trivial⟩ F3 trivial Dh Aa (fun k hk=>?_)
 obtain ⟨hk,he⟩:=hk
 conv=>whnf
 refine G5 (fun h'=>?_) fun h'=>?_<;>conv=>whnf
 ·have h':k<x.links.length:=by omega
  have hq:(x.links.getD k default).queue.length≤16777216:=A3.link_le hx h'
  have hd:=B7l hn1 (show 0≤(k:Int) by omega)
  repeat' (first|(refine Ms ?_;conv=>whnf)|(refine Mt ?_;conv=>whnf)|(refine ⟨fun h=>?_,fun h=>?_⟩<;>conv=>whnf)|(refine Aw (C00 (x.links.getD k default) (A3.link_le hx h')) rfl (Tt ?_);conv=>whnf)|(refine Aw (C1b x.graph (x.links.getD k default).queue hg hq) rfl (Tt ?_);conv=>whnf)|(refine Gj ?_;conv=>whnf)|(refine B9 7 rfl [0,1,2,3,4,5,6,7,8] Aa (Al ?_))|(refine B9 13 rfl [0,1,2,3,4,5,6,7,8,9,10,11,12,13,14,15,16,17,18,19,20,21,22,23,24,25,26,27,28,29,30,31,32,33] Aa (Al ?_))|fail)
  all_goals try (refine Ao A0 rfl rfl ⟨congrArg vb (decide_eq_false fun p=>?_),trivial⟩;obtain ⟨q1,q2,q3,q4⟩:=p.2.2.1 k h';clear p he hu hG hW hH;simp only [Int.toNat_natCast,Nm,A39] at *;first|(simp_all;done)|(simp_all;omega))
  all_goals
   have hs:Od x k:=by
    refine ⟨of_decide_eq_true (show Nm _=true by simp_all),?_,of_decide_eq_true (show A39 _ _=true by simp_all),?_⟩<;>clear he hu hG hW hH<;>simp only [Int.toNat_natCast] at * <;>first|(simp_all;done)|(simp_all;omega)
   refine B5 [] (k+1) ⟨by omega,Fc he hs⟩ Ac ⟨rfl,trivial⟩ trivial F3 Aa Dh Aa
 have hK:∀i,i<x.links.length→Od x i:=fun i hi=>he i Ac
 clear he hu
 have hu:=Fe (fun i=>O7 x.graph.workers (x.tokens.getD i default))
 refine Bw A0 false [] (fun k:Nat=>[(7,.c (vi k))]) (fun k=>[⟨0,[.c (Bp x.graph.nodes),.c (vi x.graph.workers),.c (vi x.graph.cap),.c (Be x.workers),.c (Dt x.links),.c (C0 x.tokens),.c (Ef x.news)]⟩]) (fun k=>[])
  (fun k=>k≤x.tokens.length∧O8 (fun i=>O7 x.graph.workers (x.tokens.getD i default)) k) (fun k=>x.tokens.length-k) 0 ⟨Nat.zero_le _,by first|rfl|assumption|simp⟩ ⟨by first|rfl|simp [Dl,ren2,ren1,ren0],trivial⟩ F3 trivial Dh Aa (fun k hk=>?_)
 obtain ⟨hk,he⟩:=hk
 conv=>whnf
 refine G5 (fun h'=>?_) fun h'=>?_<;>conv=>whnf
 ·have h':k<x.tokens.length:=by omega
  repeat' (first|(refine Ms ?_;conv=>whnf)|(refine Mt ?_;conv=>whnf)|(refine ⟨fun h=>?_,fun h=>?_⟩<;>conv=>whnf)|(refine Aw (Jo _ _ _) rfl (Al ?_))|(refine Gj ?_;conv=>whnf)|(refine B9 7 rfl [0,1,2,3,4,5,6,7,8] Aa (Al ?_))|(refine B9 13 rfl [0,1,2,3,4,5,6,7,8,9,10,11,12,13,14,15,16,17,18,19,20,21,22,23,24,25,26,27,28,29,30,31,32,33] Aa (Al ?_))|fail)
  all_goals try (refine Ao A0 rfl rfl ⟨congrArg vb (decide_eq_false fun p=>?_),trivial⟩;obtain ⟨q1,q2,q3⟩:=p.2.2.2.1 _ (Aq (d:=default) h');clear p he hu hG hW hH hK;simp only [Int.toNat_natCast] at *;first|(simp only [beq_iff_eq,beq_eq_false_iff_ne,bne_iff_ne,bne_eq_false_iff_eq,Bool.not_eq_true',Bool.not_eq_false',Go.Sx.Am,Go.Sx.Az,decide_eq_true_eq,decide_eq_false_iff_not,ne_eq,Int.not_lt,Int.not_le,ge_iff_le,gt_iff_lt,Int.toNat_zero,Int.toNat_one,Int.toNat_natCast] at *;omega)|(simp only [beq_iff_eq,beq_eq_false_iff_ne,bne_iff_ne,bne_eq_false_iff_eq,Bool.not_eq_true',Bool.not_eq_false',Go.Sx.Am,Go.Sx.Az,decide_eq_true_eq,decide_eq_false_iff_not,ne_eq,Int.not_lt,Int.not_le,ge_iff_le,gt_iff_lt,Int.toNat_zero,Int.toNat_one,Int.toNat_natCast] at *;simp_all;done)|(simp_all;done))
  all_goals
   have hs:O7 x.graph.workers (x.tokens.getD k default):=by
    refine ⟨?_,?_,?_⟩<;>clear he hu hG hW hH hK<;>simp only [Int.toNat_natCast] at * <;>first|(simp only [beq_iff_eq,beq_eq_false_iff_ne,bne_iff_ne,bne_eq_false_iff_eq,Bool.not_eq_true',Bool.not_eq_false',Go.Sx.Am,Go.Sx.Az,decide_eq_true_eq,decide_eq_false_iff_not,ne_eq,Int.not_lt,Int.not_le,ge_iff_le,gt_iff_lt,Int.toNat_zero,Int.toNat_one,Int.toNat_natCast] at *;omega)|(simp only [beq_iff_eq,beq_eq_false_iff_ne,bne_iff_ne,bne_eq_false_iff_eq,Bool.not_eq_true',Bool.not_eq_false',Go.Sx.Am,Go.Sx.Az,decide_eq_true_eq,decide_eq_false_iff_not,ne_eq,Int.not_lt,Int.not_le,ge_iff_le,gt_iff_lt,Int.toNat_zero,Int.toNat_one,Int.toNat_natCast] at *;simp_all;done)|(simp_all;done)
   refine B5 [] (k+1) ⟨by omega,Fc he hs⟩ Ac ⟨rfl,trivial⟩ trivial F3 Aa Dh Aa
 have e:k=x.tokens.length:=by omega
 have hT:∀t∈x.tokens,O7 x.graph.workers t:=K5 (p:=O7 x.graph.workers) (e▸he)
 clear he hu
 have hu:=Fe (fun i=>Re x.graph.workers (x.news.getD i default))
 refine Bw A0 false [] (fun k:Nat=>[(8,.c (vi k))]) (fun k=>[⟨0,[.c (Bp x.graph.nodes),.c (vi x.graph.workers),.c (vi x.graph.cap),.c (Be x.workers),.c (Dt x.links),.c (C0 x.tokens),.c (Ef x.news)]⟩]) (fun k=>[])
  (fun k=>k≤x.news.length∧O8 (fun i=>Re x.graph.workers (x.news.getD i default)) k) (fun k=>x.news.length-k) 0 ⟨Nat.zero_le _,by first|rfl|assumption|simp⟩ ⟨by first|rfl|simp [Dl,ren2,ren1,ren0],trivial⟩ F3 trivial Dh Aa (fun k hk=>?_)
 obtain ⟨hk,he⟩:=hk
 conv=>whnf
 refine G5 (fun h'=>?_) fun h'=>?_<;>conv=>whnf
 ·have h':k<x.news.length:=by omega
  repeat' (first|(refine Ms ?_;conv=>whnf)|(refine Mt ?_;conv=>whnf)|(refine ⟨fun h=>?_,fun h=>?_⟩<;>conv=>whnf)|(refine Aw (Jo _ _ _) rfl (Al ?_))|(refine Gj ?_;conv=>whnf)|(refine B9 7 rfl [0,1,2,3,4,5,6,7,8] Aa (Al ?_))|(refine B9 13 rfl [0,1,2,3,4,5,6,7,8,9,10,11,12,13,14,15,16,17,18,19,20,21,22,23,24,25,26,27,28,29,30,31,32,33] Aa (Al ?_))|fail)
  all_goals try (refine Ao A0 rfl rfl ⟨congrArg vb (decide_eq_false fun p=>?_),trivial⟩;obtain ⟨q1,q2⟩:=p.2.2.2.2 _ (Aq (d:=default) h');clear p he hu hG hW hH hK hT;simp only [beq_iff_eq,beq_eq_false_iff_ne,bne_iff_ne,bne_eq_false_iff_eq,Bool.not_eq_true',Bool.not_eq_false',Go.Sx.Am,Go.Sx.Az,decide_eq_true_eq,decide_eq_false_iff_not,ne_eq,Int.not_lt,Int.not_le,ge_iff_le,gt_iff_lt,Int.toNat_zero,Int.toNat_one,Int.toNat_natCast] at *;omega)
  all_goals
   have hs:Re x.graph.workers (x.news.getD k default):=by
    refine ⟨?_,?_⟩<;>clear he hu hG hW hH hK hT<;>(simp only [beq_iff_eq,beq_eq_false_iff_ne,bne_iff_ne,bne_eq_false_iff_eq,Bool.not_eq_true',Bool.not_eq_false',Go.Sx.Am,Go.Sx.Az,decide_eq_true_eq,decide_eq_false_iff_not,ne_eq,Int.not_lt,Int.not_le,ge_iff_le,gt_iff_lt,Int.toNat_zero,Int.toNat_one,Int.toNat_natCast] at *;omega)
   refine B5 [] (k+1) ⟨by omega,Fc he hs⟩ Ac ⟨rfl,trivial⟩ trivial F3 Aa Dh Aa
 have e:k=x.news.length:=by omega
 have hN:∀t∈x.news,Re x.graph.workers t:=K5 (p:=Re x.graph.workers) (e▸he)
 exact Ao A0 rfl rfl ⟨congrArg vb (decide_eq_true ⟨hH,hW,hK,hT,hN⟩),trivial⟩
theorem B98 (l:C2)(h:l.w≤16777216):B0 Tryz.prog 152 [.agg l.c] [.agg l.c]:=by
 have h:l.queue.length≤16777216:=h
 refine Ay A0 false Tryz.func152 rfl Bu fun W=>?_
 conv=>whnf
 refine Dp A0 rfl rfl rfl rfl rfl rfl rfl rfl rfl rfl rfl (Ax l.queue) (Eh) (fun _=>B0d l.queue) Ac (Al ?_)
 exact Ao A0 rfl rfl ⟨⟨rfl,rfl,rfl,rfl,rfl,rfl,trivial⟩,trivial⟩
set_option maxHeartbeats 8000000 in
theorem B5t (x:Ab)(h:x.w≤16777216):B0 Tryz.prog 151 [.agg x.c] [.agg x.c]:=by
 simp only [Ab.w] at h
 refine B23 A0 false Tryz.func151 rfl Bu fun W us hul huv huo hp=>?_
 match us,hul with
 | [v0,v1,v2,v3,v4,v5,v6,v7],_=>
 conv=>whnf
 refine Jc rfl ?_
 refine Ct A0 false 1 rfl rfl Aa rfl (Af D0) ?_
 refine Ct A0 false 5 rfl rfl Aa rfl (Af D0) ?_
 refine Ct A0 false 9 rfl rfl Aa rfl (Af D0) ?_
 refine Ct A0 false 13 rfl rfl Aa rfl (Af D0) ?_
 refine Ct A0 false 17 rfl rfl Aa rfl (Af D0) ?_
 refine Ct A0 false 21 rfl rfl Aa rfl (Af D0) ?_
 refine Ct A0 false 25 rfl rfl Aa rfl (Af D0) ?_
 refine Ct A0 false 29 rfl rfl Aa rfl (Af D0) ?_
 refine S7 [3,7,11,15,19,23,27,31,32,33] [⟨0,3,.emp 5⟩,⟨2,5,.rd v0⟩,⟨4,7,.emp 5⟩,⟨6,9,.rd v1⟩,⟨8,11,.emp 5⟩,⟨10,13,.rd v2⟩,⟨12,15,.emp 4⟩,⟨14,17,.rd v3⟩,⟨16,19,.emp 1⟩,⟨18,21,.rd v4⟩,⟨20,23,.emp 1⟩,⟨22,25,.rd v5⟩,⟨24,27,.emp 1⟩,⟨26,29,.rd v6⟩,⟨28,31,.emp 2⟩,⟨30,33,.rd v7⟩] Aa ?_
 refine D5 (s':=?_) A0 rfl Aa Gp ?_ ?_
 rotate_left
 refine go A0 false ?_
 conv=>whnf
 refine Pf hp 0 rfl 5 rfl ?_
 refine Dp A0 rfl rfl rfl rfl rfl rfl rfl rfl rfl rfl rfl (Ax x.queue) (Eh) (fun _=>B0d x.queue) Ac (Al ?_)
 exact Bd
 refine D5 (s':=?_) A0 rfl Aa Gp ?_ ?_
 rotate_left
 refine go A0 false ?_
 conv=>whnf
 refine Pf hp 1 rfl 9 rfl ?_
 refine Dp A0 rfl rfl rfl rfl rfl rfl rfl rfl rfl rfl rfl (Ax x.staged) (Eh) (fun _=>B0d x.staged) Ac (Al ?_)
 exact Bd
 refine D5 (s':=?_) A0 rfl Aa Gp ?_ ?_
 rotate_left
 refine go A0 false ?_
 conv=>whnf
 refine Pf hp 2 rfl 13 rfl ?_
 refine Dp A0 rfl rfl rfl rfl rfl rfl rfl rfl rfl rfl rfl (Ax x.inputs) (Eh) (fun _=>B0d x.inputs) Ac (Al ?_)
 exact Bd
 refine D5 (s':=?_) A0 rfl Aa Gp ?_ ?_
 rotate_left
 refine go A0 false ?_
 conv=>whnf
 refine Pf hp 3 rfl 17 rfl ?_
 refine Dp A0 rfl rfl rfl rfl rfl rfl rfl rfl rfl rfl rfl (Ai x.cells) (Eh) (fun _=>Eu x.cells) Ac (Al ?_)
 exact Bd
 refine D5 (s':=?_) A0 rfl Aa Gp ?_ ?_
 rotate_left
 refine go A0 false ?_
 conv=>whnf
 refine Pf hp 4 rfl 21 rfl ?_
 refine Dp A0 rfl rfl rfl rfl rfl rfl rfl rfl rfl rfl rfl (F1 x.sums) (Eh) (fun _=>Sy x.sums) Ac (Al ?_)
 exact Bd
 refine D5 (s':=?_) A0 rfl Aa Gp ?_ ?_
 rotate_left
 refine go A0 false ?_
 conv=>whnf
 refine Pf hp 5 rfl 25 rfl ?_
 refine Dp A0 rfl rfl rfl rfl rfl rfl rfl rfl rfl rfl rfl (Gm x.black) (Eh) (fun _=>Vt x.black) Ac (Al ?_)
 exact Bd
 refine D5 (s':=?_) A0 rfl Aa Gp ?_ ?_
 rotate_left
 refine go A0 false ?_
 conv=>whnf
 refine Pf hp 6 rfl 29 rfl ?_
 refine Dp A0 rfl rfl rfl rfl rfl rfl rfl rfl rfl rfl rfl (Gm x.caps) (Eh) (fun _=>Vt x.caps) Ac (Al ?_)
 exact Bd
 refine D5 (s':=?_) A0 rfl Aa Gp ?_ ?_
 rotate_left
 refine go A0 false ?_
 conv=>whnf
 refine Pf hp 7 rfl 33 rfl ?_
 refine Dp A0 rfl rfl rfl rfl rfl rfl rfl rfl rfl rfl rfl (Jn x.dones) (Eh) (fun _=>A6c x.dones) Ac (Al ?_)
 exact Bd
 refine D5 (s':=?_) A0 rfl Aa Gp ?_ ?_
 rotate_left
 refine go A0 false ?_
 conv=>whnf
 (repeat refine Ar ?_)
 exact Bd
 refine D5 (s':=?_) A0 rfl Aa Gp ?_ ?_
 rotate_left
 refine go A0 false ?_
 conv=>whnf
 (repeat refine Ar ?_)
 exact Bd
 refine P5 A0 Aa Gp (GW.out (Tt ?_))
 conv=>whnf
 exact Ao A0 rfl rfl ⟨⟨rfl,rfl,rfl,rfl,rfl,rfl,rfl,rfl,trivial⟩,trivial⟩
end Go.Proofs.YtonodkjaoalfjaaGreat
