/- Part 11 of the proof that each of the laws FnColours returns true for every input. No conditions. -/
import Derived.Test.YtdendlkeiaccpaaGreatDoorP10

set_option linter.unusedSimpArgs false
set_option linter.unusedVariables false
set_option maxRecDepth 100000
namespace Go.Proofs.YtdendlkeiaccpaaGreatDoor
open Go.Sx
theorem A3.graph_le {c:A3}{n:Nat}(h:c.w≤n):c.graph.w≤n:=by simp only [A3.w] at h;omega
theorem A3.worker_le {c:A3}{n:Nat}(h:c.w≤n){k:Nat}(hk:k<c.workers.length):(c.workers.getD k default).w≤n:=by
 simp only [A3.w,wS] at h
 have hle:=H0 Aa.w c.workers k hk
 omega
theorem A3.link_le {c:A3}{n:Nat}(h:c.w≤n){k:Nat}(hk:k<c.links.length):(c.links.getD k default).w≤n:=by
 simp only [A3.w,wS] at h
 have hle:=H0 Bz.w c.links k hk
 omega
def M6 (c:A3):Prop:=∀l∈c.links,l.got≤9223372036854775807
def V6 (c:A3) (i:Nat) (l:Bz):Prop:=l.cap=c.graph.cap∧Sr c.graph.nodes.length l.queue∧((i:Int).tdiv c.graph.workers=(i:Int).tmod c.graph.workers→l.queue.length=0)
instance (c:A3) (i:Nat) (l:Bz):Decidable (V6 c i l):=by unfold V6;infer_instance
def Ki (c:A3) (i:Nat):Prop:=Gm (c.links.getD i default)∧V6 c i (c.links.getD i default)
instance (c:A3) (i:Nat):Decidable (Ki c i):=by unfold Ki;infer_instance
def Jm (n:Int) (t:Cu):Prop:=(0≤t.at_∧t.at_≤n-1)∧(t.going=false→t.at_=0)∧(-1000000≤t.sum∧t.sum≤1000000)
instance (n:Int) (t:Cu):Decidable (Jm n t):=by unfold Jm;infer_instance
def K5 (n:Int) (x:Fe):Prop:=(0≤x.to_∧x.to_≤n-1)∧(0≤x.epoch∧x.epoch≤3)
instance (n:Int) (x:Fe):Decidable (K5 n x):=by unfold K5;infer_instance
def O7 (c:A3):Prop:=Ft c.graph∧c.workers.length=c.graph.workers∧c.links.length=c.graph.workers * c.graph.workers∧c.tokens.length=4
instance (c:A3):Decidable (O7 c):=by unfold O7;infer_instance
def As (c:A3):Prop:=O7 c∧(∀w∈c.workers,Cx c.graph.nodes.length w)∧(∀i,i<c.links.length→Ki c i)∧(∀t∈c.tokens,Jm c.graph.workers t)∧∀x∈c.news,K5 c.graph.workers x
instance (c:A3):Decidable (As c):=by unfold As;infer_instance
def B9 (c:A3):Bool:=decide (As c)
theorem B7i {n:Int}(h1:1≤n)(h2:n≤4):1≤n * n∧n * n≤16:=by
 have:n=1∨n=2∨n=3∨n=4:=by omega
 rcases this with rfl|rfl|rfl|rfl<;>decide
theorem A8r {n k:Int}(hn:1≤n)(hk:0≤k):0≤k.tdiv n∧k.tdiv n≤k:=by
 obtain ⟨m,rfl⟩:=Int.eq_ofNat_of_zero_le hk
 obtain ⟨d,rfl⟩:=Int.eq_ofNat_of_zero_le (show 0≤n by omega)
 rw [←Int.ofNat_tdiv]
 exact ⟨Int.natCast_nonneg _,Int.ofNat_le.2 (Nat.div_le_self m d)⟩
set_option maxHeartbeats 2000000 in
theorem Y2 (x:A3)(hx:x.w≤16777216)(hgo:M6 x):Be Tryz.prog 90 [.agg x.c] [.one (vb (B9 x))]:=by
 have hg:=A3.graph_le hx
 have hx2:=hx
 simp only [A3.w,wS] at hx2
 refine B5 A0 false Tryz.func90 rfl Az fun W=>?_
 conv=>whnf
 refine At (A3m x.graph hg) rfl (A8 ?_)
 refine ⟨fun hG=>?_,fun hG=>?_⟩<;>conv=>whnf
 ·repeat refine Bd ?_
  exact Ap A0 rfl rfl ⟨congrArg vb (decide_eq_false fun p=>by rw [show Hi x.graph=true from decide_eq_true p.1.1] at hG;exact absurd hG Az),trivial⟩
 have hG:Ft x.graph:=of_decide_eq_true (show Hi x.graph=true by simpa using hG)
 have hn1:=hG.2.1.1
 have hn2:=hG.2.1.2
 have hnn:=B7i hn1 hn2
 repeat' (first|(refine J1 ?_;conv=>whnf)|(refine J2 ?_;conv=>whnf)|(refine ⟨fun h=>?_,fun h=>?_⟩<;>conv=>whnf)|(refine Ep ?_;conv=>whnf)|(refine Ax 13 rfl [0,1,2,3,4,5,6,7,8,9,10,11,12,13,14,15,16,17,18,19,20,21,22,23,24,25,26,27,28,29,30,31,32,33] A7 (A8 ?_))|fail)
 all_goals try (refine Ap A0 rfl rfl ⟨congrArg vb (decide_eq_false fun p=>?_),trivial⟩;obtain ⟨_,p1,p2,p3⟩:=p.1;clear p hgo hG;simp only [beq_iff_eq,beq_eq_false_iff_ne,bne_iff_ne,bne_eq_false_iff_eq,Bool.not_eq_true',Bool.not_eq_false',Go.Sx.Ah,Go.Sx.Aw,decide_eq_true_eq,decide_eq_false_iff_not,ne_eq,Int.not_lt,Int.not_le,ge_iff_le,gt_iff_lt,Int.toNat_zero,Int.toNat_one,Int.toNat_natCast] at *;omega)
 have hH:O7 x:=by refine ⟨hG,?_,?_,?_⟩<;>(clear hgo hG;simp only [beq_iff_eq,beq_eq_false_iff_ne,bne_iff_ne,bne_eq_false_iff_eq,Bool.not_eq_true',Bool.not_eq_false',Go.Sx.Ah,Go.Sx.Aw,decide_eq_true_eq,decide_eq_false_iff_not,ne_eq,Int.not_lt,Int.not_le,ge_iff_le,gt_iff_lt,Int.toNat_zero,Int.toNat_one,Int.toNat_natCast] at *;omega)
 rename_i a1 a2
 clear h a1 a2
 have hu:=Da (fun i=>Cx x.graph.nodes.length (x.workers.getD i default))
 refine C0 A0 false [] (fun k:Nat=>[(44,.c (vi k))]) (fun k=>[⟨0,[.c (Bn x.graph.nodes),.c (vi x.graph.workers),.c (vi x.graph.cap),.c (Al x.workers),.c (Cf x.links),.c (Bo x.tokens),.c (C5 x.news)]⟩]) (fun k=>[])
  (fun k=>k≤x.workers.length∧J4 (fun i=>Cx x.graph.nodes.length (x.workers.getD i default)) k) (fun k=>x.workers.length-k) 0 ⟨Nat.zero_le _,by first|rfl|assumption|simp⟩ ⟨G3,trivial⟩ Cg trivial Co A7 (fun k hk=>?_)
 obtain ⟨hk,he⟩:=hk
 conv=>whnf
 refine F4 (fun h'=>?_) fun h'=>?_<;>conv=>whnf
 ·have h':k<x.workers.length:=by omega
  (repeat refine An ?_)
  refine At (A08 x.graph (x.workers.getD k default) hg (A3.worker_le hx h')) rfl (A8 ?_)
  refine ⟨fun h=>?_,fun h=>?_⟩<;>conv=>whnf
  ·exact Ap A0 rfl rfl ⟨congrArg vb (decide_eq_false fun p=>by rw [show Ij _ _=true from decide_eq_true (p.2.1 _ (Ay (d:=default) h'))] at h;exact absurd h Az),trivial⟩
  (repeat refine An ?_)
  refine B8 [] (k+1) ⟨by omega,D9 he (of_decide_eq_true (show Ij _ _=true by simpa using h))⟩ Ac ⟨rfl,trivial⟩ trivial Cg A7 Co A7
 have e:k=x.workers.length:=by omega
 have hW:∀w∈x.workers,Cx x.graph.nodes.length w:=Gg (p:=fun w=>Cx x.graph.nodes.length w) (e▸he)
 clear he hu
 have hu:=Da (Ki x)
 refine C0 A0 false [] (fun k:Nat=>[(57,.c (vi k))]) (fun k=>[⟨0,[.c (Bn x.graph.nodes),.c (vi x.graph.workers),.c (vi x.graph.cap),.c (Al x.workers),.c (Cf x.links),.c (Bo x.tokens),.c (C5 x.news)]⟩]) (fun k=>[])
  (fun k=>k≤x.links.length∧J4 (Ki x) k) (fun k=>x.links.length-k) 0 ⟨Nat.zero_le _,by first|rfl|assumption|simp⟩ ⟨G3,trivial⟩ Cg trivial Co A7 (fun k hk=>?_)
 obtain ⟨hk,he⟩:=hk
 conv=>whnf
 refine F4 (fun h'=>?_) fun h'=>?_<;>conv=>whnf
 ·have h':k<x.links.length:=by omega
  have hq:(x.links.getD k default).queue.length≤16777216:=A3.link_le hx h'
  have hd:=A8r hn1 (show 0≤(k:Int) by omega)
  repeat' (first|(refine J1 ?_;conv=>whnf)|(refine J2 ?_;conv=>whnf)|(refine ⟨fun h=>?_,fun h=>?_⟩<;>conv=>whnf)|(refine At (A51 (x.links.getD k default) (A3.link_le hx h') (hgo _ (Ay h'))) rfl (I5 ?_);conv=>whnf)|(refine At (Po x.graph (x.links.getD k default).queue hg hq) rfl (I5 ?_);conv=>whnf)|(refine Ep ?_;conv=>whnf)|(refine Ax 13 rfl [0,1,2,3,4,5,6,7,8,9,10,11,12,13,14,15,16,17,18,19,20,21,22,23,24,25,26,27,28,29,30,31,32,33] A7 (A8 ?_))|fail)
  all_goals try (refine Ap A0 rfl rfl ⟨congrArg vb (decide_eq_false fun p=>?_),trivial⟩;obtain ⟨q1,q2,q3,q4⟩:=p.2.2.1 k h';clear p he hu hgo hG hW hH;simp only [Int.toNat_natCast,Ko,Q5] at *;first|(simp_all;done)|(simp_all;omega))
  all_goals
   have hs:Ki x k:=by
    refine ⟨of_decide_eq_true (show Ko _=true by simp_all),?_,of_decide_eq_true (show Q5 _ _=true by simp_all),?_⟩<;>clear he hu hgo hG hW hH<;>simp only [Int.toNat_natCast] at * <;>first|(simp_all;done)|(simp_all;omega)
   refine B8 [] (k+1) ⟨by omega,D9 he hs⟩ Ac ⟨rfl,trivial⟩ trivial Cg A7 Co A7
 have hK:∀i,i<x.links.length→Ki x i:=fun i hi=>he i Ac
 clear he hu
 have hu:=Da (fun i=>Jm x.graph.workers (x.tokens.getD i default))
 refine C0 A0 false [] (fun k:Nat=>[(100,.c (vi k))]) (fun k=>[⟨0,[.c (Bn x.graph.nodes),.c (vi x.graph.workers),.c (vi x.graph.cap),.c (Al x.workers),.c (Cf x.links),.c (Bo x.tokens),.c (C5 x.news)]⟩]) (fun k=>[])
  (fun k=>k≤x.tokens.length∧J4 (fun i=>Jm x.graph.workers (x.tokens.getD i default)) k) (fun k=>x.tokens.length-k) 0 ⟨Nat.zero_le _,by first|rfl|assumption|simp⟩ ⟨G3,trivial⟩ Cg trivial Co A7 (fun k hk=>?_)
 obtain ⟨hk,he⟩:=hk
 conv=>whnf
 refine F4 (fun h'=>?_) fun h'=>?_<;>conv=>whnf
 ·have h':k<x.tokens.length:=by omega
  repeat' (first|(refine J1 ?_;conv=>whnf)|(refine J2 ?_;conv=>whnf)|(refine ⟨fun h=>?_,fun h=>?_⟩<;>conv=>whnf)|(refine At (I3 _ _ _) rfl (A8 ?_))|(refine Ep ?_;conv=>whnf)|(refine Ax 13 rfl [0,1,2,3,4,5,6,7,8,9,10,11,12,13,14,15,16,17,18,19,20,21,22,23,24,25,26,27,28,29,30,31,32,33] A7 (A8 ?_))|fail)
  all_goals try (refine Ap A0 rfl rfl ⟨congrArg vb (decide_eq_false fun p=>?_),trivial⟩;obtain ⟨q1,q2,q3⟩:=p.2.2.2.1 _ (Ay (d:=default) h');clear p he hu hgo hG hW hH hK;simp only [Int.toNat_natCast] at *;first|(simp only [beq_iff_eq,beq_eq_false_iff_ne,bne_iff_ne,bne_eq_false_iff_eq,Bool.not_eq_true',Bool.not_eq_false',Go.Sx.Ah,Go.Sx.Aw,decide_eq_true_eq,decide_eq_false_iff_not,ne_eq,Int.not_lt,Int.not_le,ge_iff_le,gt_iff_lt,Int.toNat_zero,Int.toNat_one,Int.toNat_natCast] at *;omega)|(simp only [beq_iff_eq,beq_eq_false_iff_ne,bne_iff_ne,bne_eq_false_iff_eq,Bool.not_eq_true',Bool.not_eq_false',Go.Sx.Ah,Go.Sx.Aw,decide_eq_true_eq,decide_eq_false_iff_not,ne_eq,Int.not_lt,Int.not_le,ge_iff_le,gt_iff_lt,Int.toNat_zero,Int.toNat_one,Int.toNat_natCast] at *;simp_all;done)|(simp_all;done))
  all_goals
   have hs:Jm x.graph.workers (x.tokens.getD k default):=by
    refine ⟨?_,?_,?_⟩<;>clear he hu hgo hG hW hH hK<;>simp only [Int.toNat_natCast] at * <;>first|(simp only [beq_iff_eq,beq_eq_false_iff_ne,bne_iff_ne,bne_eq_false_iff_eq,Bool.not_eq_true',Bool.not_eq_false',Go.Sx.Ah,Go.Sx.Aw,decide_eq_true_eq,decide_eq_false_iff_not,ne_eq,Int.not_lt,Int.not_le,ge_iff_le,gt_iff_lt,Int.toNat_zero,Int.toNat_one,Int.toNat_natCast] at *;omega)|(simp only [beq_iff_eq,beq_eq_false_iff_ne,bne_iff_ne,bne_eq_false_iff_eq,Bool.not_eq_true',Bool.not_eq_false',Go.Sx.Ah,Go.Sx.Aw,decide_eq_true_eq,decide_eq_false_iff_not,ne_eq,Int.not_lt,Int.not_le,ge_iff_le,gt_iff_lt,Int.toNat_zero,Int.toNat_one,Int.toNat_natCast] at *;simp_all;done)|(simp_all;done)
   refine B8 [] (k+1) ⟨by omega,D9 he hs⟩ Ac ⟨rfl,trivial⟩ trivial Cg A7 Co A7
 have e:k=x.tokens.length:=by omega
 have hT:∀t∈x.tokens,Jm x.graph.workers t:=Gg (p:=Jm x.graph.workers) (e▸he)
 clear he hu
 have hu:=Da (fun i=>K5 x.graph.workers (x.news.getD i default))
 refine C0 A0 false [] (fun k:Nat=>[(130,.c (vi k))]) (fun k=>[⟨0,[.c (Bn x.graph.nodes),.c (vi x.graph.workers),.c (vi x.graph.cap),.c (Al x.workers),.c (Cf x.links),.c (Bo x.tokens),.c (C5 x.news)]⟩]) (fun k=>[])
  (fun k=>k≤x.news.length∧J4 (fun i=>K5 x.graph.workers (x.news.getD i default)) k) (fun k=>x.news.length-k) 0 ⟨Nat.zero_le _,by first|rfl|assumption|simp⟩ ⟨G3,trivial⟩ Cg trivial Co A7 (fun k hk=>?_)
 obtain ⟨hk,he⟩:=hk
 conv=>whnf
 refine F4 (fun h'=>?_) fun h'=>?_<;>conv=>whnf
 ·have h':k<x.news.length:=by omega
  repeat' (first|(refine J1 ?_;conv=>whnf)|(refine J2 ?_;conv=>whnf)|(refine ⟨fun h=>?_,fun h=>?_⟩<;>conv=>whnf)|(refine At (I3 _ _ _) rfl (A8 ?_))|(refine Ep ?_;conv=>whnf)|(refine Ax 13 rfl [0,1,2,3,4,5,6,7,8,9,10,11,12,13,14,15,16,17,18,19,20,21,22,23,24,25,26,27,28,29,30,31,32,33] A7 (A8 ?_))|fail)
  all_goals try (refine Ap A0 rfl rfl ⟨congrArg vb (decide_eq_false fun p=>?_),trivial⟩;obtain ⟨q1,q2⟩:=p.2.2.2.2 _ (Ay (d:=default) h');clear p he hu hgo hG hW hH hK hT;simp only [beq_iff_eq,beq_eq_false_iff_ne,bne_iff_ne,bne_eq_false_iff_eq,Bool.not_eq_true',Bool.not_eq_false',Go.Sx.Ah,Go.Sx.Aw,decide_eq_true_eq,decide_eq_false_iff_not,ne_eq,Int.not_lt,Int.not_le,ge_iff_le,gt_iff_lt,Int.toNat_zero,Int.toNat_one,Int.toNat_natCast] at *;omega)
  all_goals
   have hs:K5 x.graph.workers (x.news.getD k default):=by
    refine ⟨?_,?_⟩<;>clear he hu hgo hG hW hH hK hT<;>(simp only [beq_iff_eq,beq_eq_false_iff_ne,bne_iff_ne,bne_eq_false_iff_eq,Bool.not_eq_true',Bool.not_eq_false',Go.Sx.Ah,Go.Sx.Aw,decide_eq_true_eq,decide_eq_false_iff_not,ne_eq,Int.not_lt,Int.not_le,ge_iff_le,gt_iff_lt,Int.toNat_zero,Int.toNat_one,Int.toNat_natCast] at *;omega)
   refine B8 [] (k+1) ⟨by omega,D9 he hs⟩ Ac ⟨rfl,trivial⟩ trivial Cg A7 Co A7
 have e:k=x.news.length:=by omega
 have hN:∀t∈x.news,K5 x.graph.workers t:=Gg (p:=K5 x.graph.workers) (e▸he)
 exact Ap A0 rfl rfl ⟨congrArg vb (decide_eq_true ⟨hH,hW,hK,hT,hN⟩),trivial⟩
set_option maxHeartbeats 2000000 in
theorem Yd (x:A3)(hx:x.w≤16777216):Be Tryz.prog 100 [.agg x.c] [.one (vb (B9 x))]:=by
 have hg:=A3.graph_le hx
 have hx2:=hx
 simp only [A3.w,wS] at hx2
 refine B5 A0 false Tryz.func100 rfl Az fun W=>?_
 conv=>whnf
 refine At (Iz x.graph hg) rfl (A8 ?_)
 refine ⟨fun hG=>?_,fun hG=>?_⟩<;>conv=>whnf
 ·repeat refine Bd ?_
  exact Ap A0 rfl rfl ⟨congrArg vb (decide_eq_false fun p=>by rw [show Hi x.graph=true from decide_eq_true p.1.1] at hG;exact absurd hG Az),trivial⟩
 have hG:Ft x.graph:=of_decide_eq_true (show Hi x.graph=true by simpa using hG)
 have hn1:=hG.2.1.1
 have hn2:=hG.2.1.2
 have hnn:=B7i hn1 hn2
 repeat' (first|(refine J1 ?_;conv=>whnf)|(refine J2 ?_;conv=>whnf)|(refine ⟨fun h=>?_,fun h=>?_⟩<;>conv=>whnf)|(refine Ep ?_;conv=>whnf)|(refine Ax 7 rfl [0,1,2,3,4,5,6,7,8] A7 (A8 ?_))|(refine Ax 13 rfl [0,1,2,3,4,5,6,7,8,9,10,11,12,13,14,15,16,17,18,19,20,21,22,23,24,25,26,27,28,29,30,31,32,33] A7 (A8 ?_))|fail)
 all_goals try (refine Ap A0 rfl rfl ⟨congrArg vb (decide_eq_false fun p=>?_),trivial⟩;obtain ⟨_,p1,p2,p3⟩:=p.1;clear p hG;simp only [beq_iff_eq,beq_eq_false_iff_ne,bne_iff_ne,bne_eq_false_iff_eq,Bool.not_eq_true',Bool.not_eq_false',Go.Sx.Ah,Go.Sx.Aw,decide_eq_true_eq,decide_eq_false_iff_not,ne_eq,Int.not_lt,Int.not_le,ge_iff_le,gt_iff_lt,Int.toNat_zero,Int.toNat_one,Int.toNat_natCast] at *;omega)
 have hH:O7 x:=by refine ⟨hG,?_,?_,?_⟩<;>(clear hG;simp only [beq_iff_eq,beq_eq_false_iff_ne,bne_iff_ne,bne_eq_false_iff_eq,Bool.not_eq_true',Bool.not_eq_false',Go.Sx.Ah,Go.Sx.Aw,decide_eq_true_eq,decide_eq_false_iff_not,ne_eq,Int.not_lt,Int.not_le,ge_iff_le,gt_iff_lt,Int.toNat_zero,Int.toNat_one,Int.toNat_natCast] at *;omega)
 rename_i a1 a2
 clear h a1 a2
 have hu:=Da (fun i=>Cx x.graph.nodes.length (x.workers.getD i default))
 refine C0 A0 false [] (fun k:Nat=>[(4,.c (vi k))]) (fun k=>[⟨0,[.c (Bn x.graph.nodes),.c (vi x.graph.workers),.c (vi x.graph.cap),.c (Al x.workers),.c (Cf x.links),.c (Bo x.tokens),.c (C5 x.news)]⟩]) (fun k=>[])
  (fun k=>k≤x.workers.length∧J4 (fun i=>Cx x.graph.nodes.length (x.workers.getD i default)) k) (fun k=>x.workers.length-k) 0 ⟨Nat.zero_le _,by first|rfl|assumption|simp⟩ ⟨G3,trivial⟩ Cg trivial Co A7 (fun k hk=>?_)
 obtain ⟨hk,he⟩:=hk
 conv=>whnf
 have hwl:=hH.2.1
 refine F4 (fun h'=>?_) fun h'=>?_<;>conv=>whnf
 ·have h':k<x.workers.length:=by omega
  (repeat refine An ?_)
  first|(refine Ax 7 rfl [0,1,2,3,4,5,6,7,8] A7 (A8 ?_))|(refine Ax 13 rfl [0,1,2,3,4,5,6,7,8,9,10,11,12,13,14,15,16,17,18,19,20,21,22,23,24,25,26,27,28,29,30,31,32,33] A7 (A8 ?_))
  (repeat refine An ?_)
  refine At (Nt x.graph (x.workers.getD k default) hg (A3.worker_le hx h')) rfl (A8 ?_)
  refine ⟨fun h=>?_,fun h=>?_⟩<;>conv=>whnf
  ·exact Ap A0 rfl rfl ⟨congrArg vb (decide_eq_false fun p=>by rw [show Ij _ _=true from decide_eq_true (p.2.1 _ (Ay (d:=default) h'))] at h;exact absurd h Az),trivial⟩
  (repeat refine An ?_)
  refine B8 [] (k+1) ⟨by omega,D9 he (of_decide_eq_true (show Ij _ _=true by simpa using h))⟩ Ac ⟨rfl,trivial⟩ trivial Cg A7 Co A7
 have e:k=x.workers.length:=by omega
 have hW:∀w∈x.workers,Cx x.graph.nodes.length w:=Gg (p:=fun w=>Cx x.graph.nodes.length w) (e▸he)
 clear he hu
 have hu:=Da (Ki x)
 refine C0 A0 false [] (fun k:Nat=>[(5,.c (vi k))]) (fun k=>[⟨0,[.c (Bn x.graph.nodes),.c (vi x.graph.workers),.c (vi x.graph.cap),.c (Al x.workers),.c (Cf x.links),.c (Bo x.tokens),.c (C5 x.news)]⟩]) (fun k=>[])
  (fun k=>k≤x.links.length∧J4 (Ki x) k) (fun k=>x.links.length-k) 0 ⟨Nat.zero_le _,by first|rfl|assumption|simp⟩ ⟨G3,trivial⟩ Cg trivial Co A7 (fun k hk=>?_)
 obtain ⟨hk,he⟩:=hk
 conv=>whnf
 refine F4 (fun h'=>?_) fun h'=>?_<;>conv=>whnf
 ·have h':k<x.links.length:=by omega
  have hq:(x.links.getD k default).queue.length≤16777216:=A3.link_le hx h'
  have hd:=A8r hn1 (show 0≤(k:Int) by omega)
  repeat' (first|(refine J1 ?_;conv=>whnf)|(refine J2 ?_;conv=>whnf)|(refine ⟨fun h=>?_,fun h=>?_⟩<;>conv=>whnf)|(refine At (Nr (x.links.getD k default) (A3.link_le hx h')) rfl (I5 ?_);conv=>whnf)|(refine At (Pv x.graph (x.links.getD k default).queue hg hq) rfl (I5 ?_);conv=>whnf)|(refine Ep ?_;conv=>whnf)|(refine Ax 7 rfl [0,1,2,3,4,5,6,7,8] A7 (A8 ?_))|(refine Ax 13 rfl [0,1,2,3,4,5,6,7,8,9,10,11,12,13,14,15,16,17,18,19,20,21,22,23,24,25,26,27,28,29,30,31,32,33] A7 (A8 ?_))|fail)
  all_goals try (refine Ap A0 rfl rfl ⟨congrArg vb (decide_eq_false fun p=>?_),trivial⟩;obtain ⟨q1,q2,q3,q4⟩:=p.2.2.1 k h';clear p he hu hG hW hH;simp only [Int.toNat_natCast,Ko,Q5] at *;first|(simp_all;done)|(simp_all;omega))
  all_goals
   have hs:Ki x k:=by
    refine ⟨of_decide_eq_true (show Ko _=true by simp_all),?_,of_decide_eq_true (show Q5 _ _=true by simp_all),?_⟩<;>clear he hu hG hW hH<;>simp only [Int.toNat_natCast] at * <;>first|(simp_all;done)|(simp_all;omega)
   refine B8 [] (k+1) ⟨by omega,D9 he hs⟩ Ac ⟨rfl,trivial⟩ trivial Cg A7 Co A7
 have hK:∀i,i<x.links.length→Ki x i:=fun i hi=>he i Ac
 clear he hu
 have hu:=Da (fun i=>Jm x.graph.workers (x.tokens.getD i default))
 refine C0 A0 false [] (fun k:Nat=>[(7,.c (vi k))]) (fun k=>[⟨0,[.c (Bn x.graph.nodes),.c (vi x.graph.workers),.c (vi x.graph.cap),.c (Al x.workers),.c (Cf x.links),.c (Bo x.tokens),.c (C5 x.news)]⟩]) (fun k=>[])
  (fun k=>k≤x.tokens.length∧J4 (fun i=>Jm x.graph.workers (x.tokens.getD i default)) k) (fun k=>x.tokens.length-k) 0 ⟨Nat.zero_le _,by first|rfl|assumption|simp⟩ ⟨G3,trivial⟩ Cg trivial Co A7 (fun k hk=>?_)
 obtain ⟨hk,he⟩:=hk
 conv=>whnf
 refine F4 (fun h'=>?_) fun h'=>?_<;>conv=>whnf
 ·have h':k<x.tokens.length:=by omega
  repeat' (first|(refine J1 ?_;conv=>whnf)|(refine J2 ?_;conv=>whnf)|(refine ⟨fun h=>?_,fun h=>?_⟩<;>conv=>whnf)|(refine At (Fc _ _ _) rfl (A8 ?_))|(refine Ep ?_;conv=>whnf)|(refine Ax 7 rfl [0,1,2,3,4,5,6,7,8] A7 (A8 ?_))|(refine Ax 13 rfl [0,1,2,3,4,5,6,7,8,9,10,11,12,13,14,15,16,17,18,19,20,21,22,23,24,25,26,27,28,29,30,31,32,33] A7 (A8 ?_))|fail)
  all_goals try (refine Ap A0 rfl rfl ⟨congrArg vb (decide_eq_false fun p=>?_),trivial⟩;obtain ⟨q1,q2,q3⟩:=p.2.2.2.1 _ (Ay (d:=default) h');clear p he hu hG hW hH hK;simp only [Int.toNat_natCast] at *;first|(simp only [beq_iff_eq,beq_eq_false_iff_ne,bne_iff_ne,bne_eq_false_iff_eq,Bool.not_eq_true',Bool.not_eq_false',Go.Sx.Ah,Go.Sx.Aw,decide_eq_true_eq,decide_eq_false_iff_not,ne_eq,Int.not_lt,Int.not_le,ge_iff_le,gt_iff_lt,Int.toNat_zero,Int.toNat_one,Int.toNat_natCast] at *;omega)|(simp only [beq_iff_eq,beq_eq_false_iff_ne,bne_iff_ne,bne_eq_false_iff_eq,Bool.not_eq_true',Bool.not_eq_false',Go.Sx.Ah,Go.Sx.Aw,decide_eq_true_eq,decide_eq_false_iff_not,ne_eq,Int.not_lt,Int.not_le,ge_iff_le,gt_iff_lt,Int.toNat_zero,Int.toNat_one,Int.toNat_natCast] at *;simp_all;done)|(simp_all;done))
  all_goals
   have hs:Jm x.graph.workers (x.tokens.getD k default):=by
    refine ⟨?_,?_,?_⟩<;>clear he hu hG hW hH hK<;>simp only [Int.toNat_natCast] at * <;>first|(simp only [beq_iff_eq,beq_eq_false_iff_ne,bne_iff_ne,bne_eq_false_iff_eq,Bool.not_eq_true',Bool.not_eq_false',Go.Sx.Ah,Go.Sx.Aw,decide_eq_true_eq,decide_eq_false_iff_not,ne_eq,Int.not_lt,Int.not_le,ge_iff_le,gt_iff_lt,Int.toNat_zero,Int.toNat_one,Int.toNat_natCast] at *;omega)|(simp only [beq_iff_eq,beq_eq_false_iff_ne,bne_iff_ne,bne_eq_false_iff_eq,Bool.not_eq_true',Bool.not_eq_false',Go.Sx.Ah,Go.Sx.Aw,decide_eq_true_eq,decide_eq_false_iff_not,ne_eq,Int.not_lt,Int.not_le,ge_iff_le,gt_iff_lt,Int.toNat_zero,Int.toNat_one,Int.toNat_natCast] at *;simp_all;done)|(simp_all;done)
   refine B8 [] (k+1) ⟨by omega,D9 he hs⟩ Ac ⟨rfl,trivial⟩ trivial Cg A7 Co A7
 have e:k=x.tokens.length:=by omega
 have hT:∀t∈x.tokens,Jm x.graph.workers t:=Gg (p:=Jm x.graph.workers) (e▸he)
 clear he hu
 have hu:=Da (fun i=>K5 x.graph.workers (x.news.getD i default))
 refine C0 A0 false [] (fun k:Nat=>[(8,.c (vi k))]) (fun k=>[⟨0,[.c (Bn x.graph.nodes),.c (vi x.graph.workers),.c (vi x.graph.cap),.c (Al x.workers),.c (Cf x.links),.c (Bo x.tokens),.c (C5 x.news)]⟩]) (fun k=>[])
  (fun k=>k≤x.news.length∧J4 (fun i=>K5 x.graph.workers (x.news.getD i default)) k) (fun k=>x.news.length-k) 0 ⟨Nat.zero_le _,by first|rfl|assumption|simp⟩ ⟨G3,trivial⟩ Cg trivial Co A7 (fun k hk=>?_)
 obtain ⟨hk,he⟩:=hk
 conv=>whnf
 refine F4 (fun h'=>?_) fun h'=>?_<;>conv=>whnf
 ·have h':k<x.news.length:=by omega
  repeat' (first|(refine J1 ?_;conv=>whnf)|(refine J2 ?_;conv=>whnf)|(refine ⟨fun h=>?_,fun h=>?_⟩<;>conv=>whnf)|(refine At (Fc _ _ _) rfl (A8 ?_))|(refine Ep ?_;conv=>whnf)|(refine Ax 7 rfl [0,1,2,3,4,5,6,7,8] A7 (A8 ?_))|(refine Ax 13 rfl [0,1,2,3,4,5,6,7,8,9,10,11,12,13,14,15,16,17,18,19,20,21,22,23,24,25,26,27,28,29,30,31,32,33] A7 (A8 ?_))|fail)
  all_goals try (refine Ap A0 rfl rfl ⟨congrArg vb (decide_eq_false fun p=>?_),trivial⟩;obtain ⟨q1,q2⟩:=p.2.2.2.2 _ (Ay (d:=default) h');clear p he hu hG hW hH hK hT;simp only [beq_iff_eq,beq_eq_false_iff_ne,bne_iff_ne,bne_eq_false_iff_eq,Bool.not_eq_true',Bool.not_eq_false',Go.Sx.Ah,Go.Sx.Aw,decide_eq_true_eq,decide_eq_false_iff_not,ne_eq,Int.not_lt,Int.not_le,ge_iff_le,gt_iff_lt,Int.toNat_zero,Int.toNat_one,Int.toNat_natCast] at *;omega)
  all_goals
   have hs:K5 x.graph.workers (x.news.getD k default):=by
    refine ⟨?_,?_⟩<;>clear he hu hG hW hH hK hT<;>(simp only [beq_iff_eq,beq_eq_false_iff_ne,bne_iff_ne,bne_eq_false_iff_eq,Bool.not_eq_true',Bool.not_eq_false',Go.Sx.Ah,Go.Sx.Aw,decide_eq_true_eq,decide_eq_false_iff_not,ne_eq,Int.not_lt,Int.not_le,ge_iff_le,gt_iff_lt,Int.toNat_zero,Int.toNat_one,Int.toNat_natCast] at *;omega)
   refine B8 [] (k+1) ⟨by omega,D9 he hs⟩ Ac ⟨rfl,trivial⟩ trivial Cg A7 Co A7
 have e:k=x.news.length:=by omega
 have hN:∀t∈x.news,K5 x.graph.workers t:=Gg (p:=K5 x.graph.workers) (e▸he)
 exact Ap A0 rfl rfl ⟨congrArg vb (decide_eq_true ⟨hH,hW,hK,hT,hN⟩),trivial⟩
end Go.Proofs.YtdendlkeiaccpaaGreatDoor
