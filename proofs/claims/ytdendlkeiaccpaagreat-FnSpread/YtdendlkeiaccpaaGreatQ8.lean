/- Part 8 of the proof that each of the laws FnSpread returns true for every input. No conditions. -/
import Derived.Test.YtdendlkeiaccpaaGreatQ7
import Derived.Test.YtdendlkeiaccpaaGreatQ4
import Derived.Test.YtdendlkeiaccpaaGreatQ6

set_option linter.unusedSimpArgs false
set_option linter.unusedVariables false
set_option maxRecDepth 100000
namespace Go.Proofs.YtdendlkeiaccpaaGreat
open Go.Sx
theorem A3.graph_le {c:A3}{n:Nat}(h:c.w≤n):c.graph.w≤n:=by simp only [A3.w] at h;omega
theorem A3.worker_le {c:A3}{n:Nat}(h:c.w≤n){k:Nat}(hk:k<c.workers.length):(c.workers.getD k default).w≤n:=by
 simp only [A3.w,wS] at h;have hle:=I5 Ab.w c.workers k hk;omega
theorem A3.link_le {c:A3}{n:Nat}(h:c.w≤n){k:Nat}(hk:k<c.links.length):(c.links.getD k default).w≤n:=by
 simp only [A3.w,wS] at h;have hle:=I5 Ca.w c.links k hk;omega
def Kw (c:A3):Prop:=∀l∈c.links,l.got≤9223372036854775807
def Z6 (c:A3) (i:Nat) (l:Ca):Prop:=l.cap=c.graph.cap∧We c.graph.nodes.length l.queue∧((i:Int).tdiv c.graph.workers=(i:Int).tmod c.graph.workers→l.queue.length=0)
instance (c:A3) (i:Nat) (l:Ca):Decidable (Z6 c i l):=by unfold Z6;infer_instance
def M5 (c:A3) (i:Nat):Prop:=Gn (c.links.getD i default)∧Z6 c i (c.links.getD i default)
instance (c:A3) (i:Nat):Decidable (M5 c i):=by unfold M5;infer_instance
def Lt (n:Int) (t:Fs):Prop:=(0≤t.at_∧t.at_≤n-1)∧(t.going=false→t.at_=0)∧(-1000000≤t.sum∧t.sum≤1000000)
instance (n:Int) (t:Fs):Decidable (Lt n t):=by unfold Lt;infer_instance
def Ls (n:Int) (x:Di):Prop:=(0≤x.to_∧x.to_≤n-1)∧(0≤x.epoch∧x.epoch≤3)
instance (n:Int) (x:Di):Decidable (Ls n x):=by unfold Ls;infer_instance
def Qr (c:A3):Prop:=Ea c.graph∧c.workers.length=c.graph.workers∧c.links.length=c.graph.workers * c.graph.workers∧c.tokens.length=4
instance (c:A3):Decidable (Qr c):=by unfold Qr;infer_instance
def B7 (c:A3):Prop:=Qr c∧(∀w∈c.workers,Db c.graph.nodes.length w)∧(∀i,i<c.links.length→M5 c i)∧(∀t∈c.tokens,Lt c.graph.workers t)∧∀x∈c.news,Ls c.graph.workers x
instance (c:A3):Decidable (B7 c):=by unfold B7;infer_instance
def Bf (c:A3):Bool:=decide (B7 c)
theorem C28 {n:Int}(h1:1≤n)(h2:n≤4):1≤n * n∧n * n≤16:=by
 have:n=1∨n=2∨n=3∨n=4:=by omega
 rcases this with rfl|rfl|rfl|rfl<;>decide
theorem B35 {n k:Int}(hn:1≤n)(hk:0≤k):0≤k.tdiv n∧k.tdiv n≤k:=by
 obtain ⟨m,rfl⟩:=Int.eq_ofNat_of_zero_le hk;obtain ⟨d,rfl⟩:=Int.eq_ofNat_of_zero_le (show 0≤n by omega)
 rw [←Int.ofNat_tdiv];exact ⟨Int.natCast_nonneg _,Int.ofNat_le.2 (Nat.div_le_self m d)⟩
set_option maxHeartbeats 2000000 in
theorem Li (x:A3)(hx:x.w≤16777216)(hgo:Kw x):B3 Tryz.prog 233 [.agg x.c] [.one (vb (Bf x))]:=by
 have hg:=A3.graph_le hx;have hx2:=hx;simp only [A3.w,wS] at hx2;refine Aw A0 false Tryz.func233 rfl B5 fun W=>?_;conv=>whnf
 refine As (K0 x.graph hg) rfl (A7 ?_);refine ⟨fun hG=>?_,fun hG=>?_⟩<;>conv=>whnf
 ·repeat refine B2 ?_
  exact Am A0 rfl rfl ⟨congrArg vb (decide_eq_false fun p=>by rw [show F1 x.graph=true from decide_eq_true p.1.1] at hG;exact absurd hG B5),trivial⟩
 have hG:Ea x.graph:=of_decide_eq_true (show F1 x.graph=true by simpa using hG)
 have hn1:=hG.2.1.1;have hn2:=hG.2.1.2;have hnn:=C28 hn1 hn2
 repeat' (first|(refine L4 ?_;conv=>whnf)|(refine L5 ?_;conv=>whnf)|(refine ⟨fun h=>?_,fun h=>?_⟩<;>conv=>whnf)|(refine Ft ?_;conv=>whnf)|(refine Ax 13 rfl [0,1,2,3,4,5,6,7,8,9,10,11,12,13,14,15,16,17,18,19,20,21,22,23,24,25,26,27,28,29,30,31,32,33] A6 (A7 ?_))|fail)
 all_goals try (refine Am A0 rfl rfl ⟨congrArg vb (decide_eq_false fun p=>?_),trivial⟩;obtain ⟨_,p1,p2,p3⟩:=p.1;clear p hgo hG;simp only [beq_iff_eq,beq_eq_false_iff_ne,bne_iff_ne,bne_eq_false_iff_eq,Bool.not_eq_true',Bool.not_eq_false',Go.Sx.Al,Go.Sx.B4,decide_eq_true_eq,decide_eq_false_iff_not,ne_eq,Int.not_lt,Int.not_le,ge_iff_le,gt_iff_lt,Int.toNat_zero,Int.toNat_one,Int.toNat_natCast] at *;omega)
 have hH:Qr x:=by refine ⟨hG,?_,?_,?_⟩<;>(clear hgo hG;simp only [beq_iff_eq,beq_eq_false_iff_ne,bne_iff_ne,bne_eq_false_iff_eq,Bool.not_eq_true',Bool.not_eq_false',Go.Sx.Al,Go.Sx.B4,decide_eq_true_eq,decide_eq_false_iff_not,ne_eq,Int.not_lt,Int.not_le,ge_iff_le,gt_iff_lt,Int.toNat_zero,Int.toNat_one,Int.toNat_natCast] at *;omega)
 rename_i a1 a2
 clear h a1 a2
 have hu:=Dz (fun i=>Db x.graph.nodes.length (x.workers.getD i default))
 refine Bk A0 false [] (fun k:Nat=>[(44,.c (vi k))]) (fun k=>[⟨0,[.c (Bg x.graph.nodes),.c (vi x.graph.workers),.c (vi x.graph.cap),.c (Ar x.workers),.c (C4 x.links),.c (Bm x.tokens),.c (Cc x.news)]⟩]) (fun k=>[])
  (fun k=>k≤x.workers.length∧Kc (fun i=>Db x.graph.nodes.length (x.workers.getD i default)) k) (fun k=>x.workers.length-k) 0 ⟨Nat.zero_le _,by first|rfl|assumption|simp⟩ ⟨F0,trivial⟩ C2 trivial C1 A6 (fun k hk=>?_)
 obtain ⟨hk,he⟩:=hk;conv=>whnf
 refine Eo (fun h'=>?_) fun h'=>?_<;>conv=>whnf
 ·have h':k<x.workers.length:=by omega
  (repeat refine Ap ?_);refine As (Py x.graph (x.workers.getD k default) hg (A3.worker_le hx h')) rfl (A7 ?_);refine ⟨fun h=>?_,fun h=>?_⟩<;>conv=>whnf
  ·exact Am A0 rfl rfl ⟨congrArg vb (decide_eq_false fun p=>by rw [show Hd _ _=true from decide_eq_true (p.2.1 _ (At (d:=default) h'))] at h;exact absurd h B5),trivial⟩
  (repeat refine Ap ?_);refine Az [] (k+1) ⟨by omega,Dy he (of_decide_eq_true (show Hd _ _=true by simpa using h))⟩ Ad ⟨rfl,trivial⟩ trivial C2 A6 C1 A6
 have e:k=x.workers.length:=by omega
 have hW:∀w∈x.workers,Db x.graph.nodes.length w:=Hc (p:=fun w=>Db x.graph.nodes.length w) (e▸he)
 clear he hu
 have hu:=Dz (M5 x)
 refine Bk A0 false [] (fun k:Nat=>[(57,.c (vi k))]) (fun k=>[⟨0,[.c (Bg x.graph.nodes),.c (vi x.graph.workers),.c (vi x.graph.cap),.c (Ar x.workers),.c (C4 x.links),.c (Bm x.tokens),.c (Cc x.news)]⟩]) (fun k=>[])
  (fun k=>k≤x.links.length∧Kc (M5 x) k) (fun k=>x.links.length-k) 0 ⟨Nat.zero_le _,by first|rfl|assumption|simp⟩ ⟨F0,trivial⟩ C2 trivial C1 A6 (fun k hk=>?_)
 obtain ⟨hk,he⟩:=hk;conv=>whnf
 refine Eo (fun h'=>?_) fun h'=>?_<;>conv=>whnf
 ·have h':k<x.links.length:=by omega
  have hq:(x.links.getD k default).queue.length≤16777216:=A3.link_le hx h';have hd:=B35 hn1 (show 0≤(k:Int) by omega)
  repeat' (first|(refine L4 ?_;conv=>whnf)|(refine L5 ?_;conv=>whnf)|(refine ⟨fun h=>?_,fun h=>?_⟩<;>conv=>whnf)|(refine As (Pv (x.links.getD k default) (A3.link_le hx h') (hgo _ (At h'))) rfl (G3 ?_);conv=>whnf)|(refine As (S9 x.graph (x.links.getD k default).queue hg hq) rfl (G3 ?_);conv=>whnf)|(refine Ft ?_;conv=>whnf)|(refine Ax 13 rfl [0,1,2,3,4,5,6,7,8,9,10,11,12,13,14,15,16,17,18,19,20,21,22,23,24,25,26,27,28,29,30,31,32,33] A6 (A7 ?_))|fail)
  all_goals try (refine Am A0 rfl rfl ⟨congrArg vb (decide_eq_false fun p=>?_),trivial⟩;obtain ⟨q1,q2,q3,q4⟩:=p.2.2.1 k h';clear p he hu hgo hG hW hH;simp only [Int.toNat_natCast,Il,Sy] at *;first|(simp_all;done)|(simp_all;omega))
  all_goals
   have hs:M5 x k:=by
    refine ⟨of_decide_eq_true (show Il _=true by simp_all),?_,of_decide_eq_true (show Sy _ _=true by simp_all),?_⟩<;>clear he hu hgo hG hW hH<;>simp only [Int.toNat_natCast] at * <;>first|(simp_all;done)|(simp_all;omega)
   refine Az [] (k+1) ⟨by omega,Dy he hs⟩ Ad ⟨rfl,trivial⟩ trivial C2 A6 C1 A6
 have hK:∀i,i<x.links.length→M5 x i:=fun i hi=>he i Ad
 clear he hu
 have hu:=Dz (fun i=>Lt x.graph.workers (x.tokens.getD i default))
 refine Bk A0 false [] (fun k:Nat=>[(100,.c (vi k))]) (fun k=>[⟨0,[.c (Bg x.graph.nodes),.c (vi x.graph.workers),.c (vi x.graph.cap),.c (Ar x.workers),.c (C4 x.links),.c (Bm x.tokens),.c (Cc x.news)]⟩]) (fun k=>[])
  (fun k=>k≤x.tokens.length∧Kc (fun i=>Lt x.graph.workers (x.tokens.getD i default)) k) (fun k=>x.tokens.length-k) 0 ⟨Nat.zero_le _,by first|rfl|assumption|simp⟩ ⟨F0,trivial⟩ C2 trivial C1 A6 (fun k hk=>?_)
 obtain ⟨hk,he⟩:=hk;conv=>whnf
 refine Eo (fun h'=>?_) fun h'=>?_<;>conv=>whnf
 ·have h':k<x.tokens.length:=by omega
  repeat' (first|(refine L4 ?_;conv=>whnf)|(refine L5 ?_;conv=>whnf)|(refine ⟨fun h=>?_,fun h=>?_⟩<;>conv=>whnf)|(refine As (Ik _ _ _) rfl (A7 ?_))|(refine Ft ?_;conv=>whnf)|(refine Ax 13 rfl [0,1,2,3,4,5,6,7,8,9,10,11,12,13,14,15,16,17,18,19,20,21,22,23,24,25,26,27,28,29,30,31,32,33] A6 (A7 ?_))|fail)
  all_goals try (refine Am A0 rfl rfl ⟨congrArg vb (decide_eq_false fun p=>?_),trivial⟩;obtain ⟨q1,q2,q3⟩:=p.2.2.2.1 _ (At (d:=default) h');clear p he hu hgo hG hW hH hK;simp only [Int.toNat_natCast] at *;first|(simp only [beq_iff_eq,beq_eq_false_iff_ne,bne_iff_ne,bne_eq_false_iff_eq,Bool.not_eq_true',Bool.not_eq_false',Go.Sx.Al,Go.Sx.B4,decide_eq_true_eq,decide_eq_false_iff_not,ne_eq,Int.not_lt,Int.not_le,ge_iff_le,gt_iff_lt,Int.toNat_zero,Int.toNat_one,Int.toNat_natCast] at *;omega)|(simp only [beq_iff_eq,beq_eq_false_iff_ne,bne_iff_ne,bne_eq_false_iff_eq,Bool.not_eq_true',Bool.not_eq_false',Go.Sx.Al,Go.Sx.B4,decide_eq_true_eq,decide_eq_false_iff_not,ne_eq,Int.not_lt,Int.not_le,ge_iff_le,gt_iff_lt,Int.toNat_zero,Int.toNat_one,Int.toNat_natCast] at *;simp_all;done)|(simp_all;done))
  all_goals
   have hs:Lt x.graph.workers (x.tokens.getD k default):=by
    refine ⟨?_,?_,?_⟩<;>clear he hu hgo hG hW hH hK<;>simp only [Int.toNat_natCast] at * <;>first|(simp only [beq_iff_eq,beq_eq_false_iff_ne,bne_iff_ne,bne_eq_false_iff_eq,Bool.not_eq_true',Bool.not_eq_false',Go.Sx.Al,Go.Sx.B4,decide_eq_true_eq,decide_eq_false_iff_not,ne_eq,Int.not_lt,Int.not_le,ge_iff_le,gt_iff_lt,Int.toNat_zero,Int.toNat_one,Int.toNat_natCast] at *;omega)|(simp only [beq_iff_eq,beq_eq_false_iff_ne,bne_iff_ne,bne_eq_false_iff_eq,Bool.not_eq_true',Bool.not_eq_false',Go.Sx.Al,Go.Sx.B4,decide_eq_true_eq,decide_eq_false_iff_not,ne_eq,Int.not_lt,Int.not_le,ge_iff_le,gt_iff_lt,Int.toNat_zero,Int.toNat_one,Int.toNat_natCast] at *;simp_all;done)|(simp_all;done)
   refine Az [] (k+1) ⟨by omega,Dy he hs⟩ Ad ⟨rfl,trivial⟩ trivial C2 A6 C1 A6
 have e:k=x.tokens.length:=by omega
 have hT:∀t∈x.tokens,Lt x.graph.workers t:=Hc (p:=Lt x.graph.workers) (e▸he)
 clear he hu
 have hu:=Dz (fun i=>Ls x.graph.workers (x.news.getD i default))
 refine Bk A0 false [] (fun k:Nat=>[(130,.c (vi k))]) (fun k=>[⟨0,[.c (Bg x.graph.nodes),.c (vi x.graph.workers),.c (vi x.graph.cap),.c (Ar x.workers),.c (C4 x.links),.c (Bm x.tokens),.c (Cc x.news)]⟩]) (fun k=>[])
  (fun k=>k≤x.news.length∧Kc (fun i=>Ls x.graph.workers (x.news.getD i default)) k) (fun k=>x.news.length-k) 0 ⟨Nat.zero_le _,by first|rfl|assumption|simp⟩ ⟨F0,trivial⟩ C2 trivial C1 A6 (fun k hk=>?_)
 obtain ⟨hk,he⟩:=hk;conv=>whnf
 refine Eo (fun h'=>?_) fun h'=>?_<;>conv=>whnf
 ·have h':k<x.news.length:=by omega
  repeat' (first|(refine L4 ?_;conv=>whnf)|(refine L5 ?_;conv=>whnf)|(refine ⟨fun h=>?_,fun h=>?_⟩<;>conv=>whnf)|(refine As (Ik _ _ _) rfl (A7 ?_))|(refine Ft ?_;conv=>whnf)|(refine Ax 13 rfl [0,1,2,3,4,5,6,7,8,9,10,11,12,13,14,15,16,17,18,19,20,21,22,23,24,25,26,27,28,29,30,31,32,33] A6 (A7 ?_))|fail)
  all_goals try (refine Am A0 rfl rfl ⟨congrArg vb (decide_eq_false fun p=>?_),trivial⟩;obtain ⟨q1,q2⟩:=p.2.2.2.2 _ (At (d:=default) h');clear p he hu hgo hG hW hH hK hT;simp only [beq_iff_eq,beq_eq_false_iff_ne,bne_iff_ne,bne_eq_false_iff_eq,Bool.not_eq_true',Bool.not_eq_false',Go.Sx.Al,Go.Sx.B4,decide_eq_true_eq,decide_eq_false_iff_not,ne_eq,Int.not_lt,Int.not_le,ge_iff_le,gt_iff_lt,Int.toNat_zero,Int.toNat_one,Int.toNat_natCast] at *;omega)
  all_goals
   have hs:Ls x.graph.workers (x.news.getD k default):=by
    refine ⟨?_,?_⟩<;>clear he hu hgo hG hW hH hK hT<;>(simp only [beq_iff_eq,beq_eq_false_iff_ne,bne_iff_ne,bne_eq_false_iff_eq,Bool.not_eq_true',Bool.not_eq_false',Go.Sx.Al,Go.Sx.B4,decide_eq_true_eq,decide_eq_false_iff_not,ne_eq,Int.not_lt,Int.not_le,ge_iff_le,gt_iff_lt,Int.toNat_zero,Int.toNat_one,Int.toNat_natCast] at *;omega)
   refine Az [] (k+1) ⟨by omega,Dy he hs⟩ Ad ⟨rfl,trivial⟩ trivial C2 A6 C1 A6
 have e:k=x.news.length:=by omega
 have hN:∀t∈x.news,Ls x.graph.workers t:=Hc (p:=Ls x.graph.workers) (e▸he);exact Am A0 rfl rfl ⟨congrArg vb (decide_eq_true ⟨hH,hW,hK,hT,hN⟩),trivial⟩
set_option maxHeartbeats 2000000 in
theorem A29 (x:A3)(hx:x.w≤16777216):B3 Tryz.prog 42 [.agg x.c] [.one (vb (Bf x))]:=by
 have hg:=A3.graph_le hx;have hx2:=hx;simp only [A3.w,wS] at hx2;refine Aw A0 false Tryz.func42 rfl B5 fun W=>?_;conv=>whnf
 refine As (Iw x.graph hg) rfl (A7 ?_);refine ⟨fun hG=>?_,fun hG=>?_⟩<;>conv=>whnf
 ·repeat refine B2 ?_
  exact Am A0 rfl rfl ⟨congrArg vb (decide_eq_false fun p=>by rw [show F1 x.graph=true from decide_eq_true p.1.1] at hG;exact absurd hG B5),trivial⟩
 have hG:Ea x.graph:=of_decide_eq_true (show F1 x.graph=true by simpa using hG)
 have hn1:=hG.2.1.1;have hn2:=hG.2.1.2;have hnn:=C28 hn1 hn2
 repeat' (first|(refine L4 ?_;conv=>whnf)|(refine L5 ?_;conv=>whnf)|(refine ⟨fun h=>?_,fun h=>?_⟩<;>conv=>whnf)|(refine Ft ?_;conv=>whnf)|(refine Ax 7 rfl [0,1,2,3,4,5,6,7,8] A6 (A7 ?_))|(refine Ax 13 rfl [0,1,2,3,4,5,6,7,8,9,10,11,12,13,14,15,16,17,18,19,20,21,22,23,24,25,26,27,28,29,30,31,32,33] A6 (A7 ?_))|fail)
 all_goals try (refine Am A0 rfl rfl ⟨congrArg vb (decide_eq_false fun p=>?_),trivial⟩;obtain ⟨_,p1,p2,p3⟩:=p.1;clear p hG;simp only [beq_iff_eq,beq_eq_false_iff_ne,bne_iff_ne,bne_eq_false_iff_eq,Bool.not_eq_true',Bool.not_eq_false',Go.Sx.Al,Go.Sx.B4,decide_eq_true_eq,decide_eq_false_iff_not,ne_eq,Int.not_lt,Int.not_le,ge_iff_le,gt_iff_lt,Int.toNat_zero,Int.toNat_one,Int.toNat_natCast] at *;omega)
 have hH:Qr x:=by refine ⟨hG,?_,?_,?_⟩<;>(clear hG;simp only [beq_iff_eq,beq_eq_false_iff_ne,bne_iff_ne,bne_eq_false_iff_eq,Bool.not_eq_true',Bool.not_eq_false',Go.Sx.Al,Go.Sx.B4,decide_eq_true_eq,decide_eq_false_iff_not,ne_eq,Int.not_lt,Int.not_le,ge_iff_le,gt_iff_lt,Int.toNat_zero,Int.toNat_one,Int.toNat_natCast] at *;omega)
 rename_i a1 a2
 clear h a1 a2
 have hu:=Dz (fun i=>Db x.graph.nodes.length (x.workers.getD i default))
 refine Bk A0 false [] (fun k:Nat=>[(4,.c (vi k))]) (fun k=>[⟨0,[.c (Bg x.graph.nodes),.c (vi x.graph.workers),.c (vi x.graph.cap),.c (Ar x.workers),.c (C4 x.links),.c (Bm x.tokens),.c (Cc x.news)]⟩]) (fun k=>[])
  (fun k=>k≤x.workers.length∧Kc (fun i=>Db x.graph.nodes.length (x.workers.getD i default)) k) (fun k=>x.workers.length-k) 0 ⟨Nat.zero_le _,by first|rfl|assumption|simp⟩ ⟨F0,trivial⟩ C2 trivial C1 A6 (fun k hk=>?_)
 obtain ⟨hk,he⟩:=hk;conv=>whnf
 have hwl:=hH.2.1;refine Eo (fun h'=>?_) fun h'=>?_<;>conv=>whnf
 ·have h':k<x.workers.length:=by omega
  (repeat refine Ap ?_)
  first|(refine Ax 7 rfl [0,1,2,3,4,5,6,7,8] A6 (A7 ?_))|(refine Ax 13 rfl [0,1,2,3,4,5,6,7,8,9,10,11,12,13,14,15,16,17,18,19,20,21,22,23,24,25,26,27,28,29,30,31,32,33] A6 (A7 ?_))
  (repeat refine Ap ?_);refine As (Qd x.graph (x.workers.getD k default) hg (A3.worker_le hx h')) rfl (A7 ?_);refine ⟨fun h=>?_,fun h=>?_⟩<;>conv=>whnf
  ·exact Am A0 rfl rfl ⟨congrArg vb (decide_eq_false fun p=>by rw [show Hd _ _=true from decide_eq_true (p.2.1 _ (At (d:=default) h'))] at h;exact absurd h B5),trivial⟩
  (repeat refine Ap ?_);refine Az [] (k+1) ⟨by omega,Dy he (of_decide_eq_true (show Hd _ _=true by simpa using h))⟩ Ad ⟨rfl,trivial⟩ trivial C2 A6 C1 A6
 have e:k=x.workers.length:=by omega
 have hW:∀w∈x.workers,Db x.graph.nodes.length w:=Hc (p:=fun w=>Db x.graph.nodes.length w) (e▸he)
 clear he hu
 have hu:=Dz (M5 x)
 refine Bk A0 false [] (fun k:Nat=>[(5,.c (vi k))]) (fun k=>[⟨0,[.c (Bg x.graph.nodes),.c (vi x.graph.workers),.c (vi x.graph.cap),.c (Ar x.workers),.c (C4 x.links),.c (Bm x.tokens),.c (Cc x.news)]⟩]) (fun k=>[])
  (fun k=>k≤x.links.length∧Kc (M5 x) k) (fun k=>x.links.length-k) 0 ⟨Nat.zero_le _,by first|rfl|assumption|simp⟩ ⟨F0,trivial⟩ C2 trivial C1 A6 (fun k hk=>?_)
 obtain ⟨hk,he⟩:=hk;conv=>whnf
 refine Eo (fun h'=>?_) fun h'=>?_<;>conv=>whnf
 ·have h':k<x.links.length:=by omega
  have hq:(x.links.getD k default).queue.length≤16777216:=A3.link_le hx h';have hd:=B35 hn1 (show 0≤(k:Int) by omega)
  repeat' (first|(refine L4 ?_;conv=>whnf)|(refine L5 ?_;conv=>whnf)|(refine ⟨fun h=>?_,fun h=>?_⟩<;>conv=>whnf)|(refine As (Qc (x.links.getD k default) (A3.link_le hx h')) rfl (G3 ?_);conv=>whnf)|(refine As (Sk x.graph (x.links.getD k default).queue hg hq) rfl (G3 ?_);conv=>whnf)|(refine Ft ?_;conv=>whnf)|(refine Ax 7 rfl [0,1,2,3,4,5,6,7,8] A6 (A7 ?_))|(refine Ax 13 rfl [0,1,2,3,4,5,6,7,8,9,10,11,12,13,14,15,16,17,18,19,20,21,22,23,24,25,26,27,28,29,30,31,32,33] A6 (A7 ?_))|fail)
  all_goals try (refine Am A0 rfl rfl ⟨congrArg vb (decide_eq_false fun p=>?_),trivial⟩;obtain ⟨q1,q2,q3,q4⟩:=p.2.2.1 k h';clear p he hu hG hW hH;simp only [Int.toNat_natCast,Il,Sy] at *;first|(simp_all;done)|(simp_all;omega))
  all_goals
   have hs:M5 x k:=by
    refine ⟨of_decide_eq_true (show Il _=true by simp_all),?_,of_decide_eq_true (show Sy _ _=true by simp_all),?_⟩<;>clear he hu hG hW hH<;>simp only [Int.toNat_natCast] at * <;>first|(simp_all;done)|(simp_all;omega)
   refine Az [] (k+1) ⟨by omega,Dy he hs⟩ Ad ⟨rfl,trivial⟩ trivial C2 A6 C1 A6
 have hK:∀i,i<x.links.length→M5 x i:=fun i hi=>he i Ad
 clear he hu
 have hu:=Dz (fun i=>Lt x.graph.workers (x.tokens.getD i default))
 refine Bk A0 false [] (fun k:Nat=>[(7,.c (vi k))]) (fun k=>[⟨0,[.c (Bg x.graph.nodes),.c (vi x.graph.workers),.c (vi x.graph.cap),.c (Ar x.workers),.c (C4 x.links),.c (Bm x.tokens),.c (Cc x.news)]⟩]) (fun k=>[])
  (fun k=>k≤x.tokens.length∧Kc (fun i=>Lt x.graph.workers (x.tokens.getD i default)) k) (fun k=>x.tokens.length-k) 0 ⟨Nat.zero_le _,by first|rfl|assumption|simp⟩ ⟨F0,trivial⟩ C2 trivial C1 A6 (fun k hk=>?_)
 obtain ⟨hk,he⟩:=hk;conv=>whnf
 refine Eo (fun h'=>?_) fun h'=>?_<;>conv=>whnf
 ·have h':k<x.tokens.length:=by omega
  repeat' (first|(refine L4 ?_;conv=>whnf)|(refine L5 ?_;conv=>whnf)|(refine ⟨fun h=>?_,fun h=>?_⟩<;>conv=>whnf)|(refine As (G9 _ _ _) rfl (A7 ?_))|(refine Ft ?_;conv=>whnf)|(refine Ax 7 rfl [0,1,2,3,4,5,6,7,8] A6 (A7 ?_))|(refine Ax 13 rfl [0,1,2,3,4,5,6,7,8,9,10,11,12,13,14,15,16,17,18,19,20,21,22,23,24,25,26,27,28,29,30,31,32,33] A6 (A7 ?_))|fail)
  all_goals try (refine Am A0 rfl rfl ⟨congrArg vb (decide_eq_false fun p=>?_),trivial⟩;obtain ⟨q1,q2,q3⟩:=p.2.2.2.1 _ (At (d:=default) h');clear p he hu hG hW hH hK;simp only [Int.toNat_natCast] at *;first|(simp only [beq_iff_eq,beq_eq_false_iff_ne,bne_iff_ne,bne_eq_false_iff_eq,Bool.not_eq_true',Bool.not_eq_false',Go.Sx.Al,Go.Sx.B4,decide_eq_true_eq,decide_eq_false_iff_not,ne_eq,Int.not_lt,Int.not_le,ge_iff_le,gt_iff_lt,Int.toNat_zero,Int.toNat_one,Int.toNat_natCast] at *;omega)|(simp only [beq_iff_eq,beq_eq_false_iff_ne,bne_iff_ne,bne_eq_false_iff_eq,Bool.not_eq_true',Bool.not_eq_false',Go.Sx.Al,Go.Sx.B4,decide_eq_true_eq,decide_eq_false_iff_not,ne_eq,Int.not_lt,Int.not_le,ge_iff_le,gt_iff_lt,Int.toNat_zero,Int.toNat_one,Int.toNat_natCast] at *;simp_all;done)|(simp_all;done))
  all_goals
   have hs:Lt x.graph.workers (x.tokens.getD k default):=by
    refine ⟨?_,?_,?_⟩<;>clear he hu hG hW hH hK<;>simp only [Int.toNat_natCast] at * <;>first|(simp only [beq_iff_eq,beq_eq_false_iff_ne,bne_iff_ne,bne_eq_false_iff_eq,Bool.not_eq_true',Bool.not_eq_false',Go.Sx.Al,Go.Sx.B4,decide_eq_true_eq,decide_eq_false_iff_not,ne_eq,Int.not_lt,Int.not_le,ge_iff_le,gt_iff_lt,Int.toNat_zero,Int.toNat_one,Int.toNat_natCast] at *;omega)|(simp only [beq_iff_eq,beq_eq_false_iff_ne,bne_iff_ne,bne_eq_false_iff_eq,Bool.not_eq_true',Bool.not_eq_false',Go.Sx.Al,Go.Sx.B4,decide_eq_true_eq,decide_eq_false_iff_not,ne_eq,Int.not_lt,Int.not_le,ge_iff_le,gt_iff_lt,Int.toNat_zero,Int.toNat_one,Int.toNat_natCast] at *;simp_all;done)|(simp_all;done)
   refine Az [] (k+1) ⟨by omega,Dy he hs⟩ Ad ⟨rfl,trivial⟩ trivial C2 A6 C1 A6
 have e:k=x.tokens.length:=by omega
 have hT:∀t∈x.tokens,Lt x.graph.workers t:=Hc (p:=Lt x.graph.workers) (e▸he)
 clear he hu
 have hu:=Dz (fun i=>Ls x.graph.workers (x.news.getD i default))
 refine Bk A0 false [] (fun k:Nat=>[(8,.c (vi k))]) (fun k=>[⟨0,[.c (Bg x.graph.nodes),.c (vi x.graph.workers),.c (vi x.graph.cap),.c (Ar x.workers),.c (C4 x.links),.c (Bm x.tokens),.c (Cc x.news)]⟩]) (fun k=>[])
  (fun k=>k≤x.news.length∧Kc (fun i=>Ls x.graph.workers (x.news.getD i default)) k) (fun k=>x.news.length-k) 0 ⟨Nat.zero_le _,by first|rfl|assumption|simp⟩ ⟨F0,trivial⟩ C2 trivial C1 A6 (fun k hk=>?_)
 obtain ⟨hk,he⟩:=hk;conv=>whnf
 refine Eo (fun h'=>?_) fun h'=>?_<;>conv=>whnf
 ·have h':k<x.news.length:=by omega
  repeat' (first|(refine L4 ?_;conv=>whnf)|(refine L5 ?_;conv=>whnf)|(refine ⟨fun h=>?_,fun h=>?_⟩<;>conv=>whnf)|(refine As (G9 _ _ _) rfl (A7 ?_))|(refine Ft ?_;conv=>whnf)|(refine Ax 7 rfl [0,1,2,3,4,5,6,7,8] A6 (A7 ?_))|(refine Ax 13 rfl [0,1,2,3,4,5,6,7,8,9,10,11,12,13,14,15,16,17,18,19,20,21,22,23,24,25,26,27,28,29,30,31,32,33] A6 (A7 ?_))|fail)
  all_goals try (refine Am A0 rfl rfl ⟨congrArg vb (decide_eq_false fun p=>?_),trivial⟩;obtain ⟨q1,q2⟩:=p.2.2.2.2 _ (At (d:=default) h');clear p he hu hG hW hH hK hT;simp only [beq_iff_eq,beq_eq_false_iff_ne,bne_iff_ne,bne_eq_false_iff_eq,Bool.not_eq_true',Bool.not_eq_false',Go.Sx.Al,Go.Sx.B4,decide_eq_true_eq,decide_eq_false_iff_not,ne_eq,Int.not_lt,Int.not_le,ge_iff_le,gt_iff_lt,Int.toNat_zero,Int.toNat_one,Int.toNat_natCast] at *;omega)
  all_goals
   have hs:Ls x.graph.workers (x.news.getD k default):=by
    refine ⟨?_,?_⟩<;>clear he hu hG hW hH hK hT<;>(simp only [beq_iff_eq,beq_eq_false_iff_ne,bne_iff_ne,bne_eq_false_iff_eq,Bool.not_eq_true',Bool.not_eq_false',Go.Sx.Al,Go.Sx.B4,decide_eq_true_eq,decide_eq_false_iff_not,ne_eq,Int.not_lt,Int.not_le,ge_iff_le,gt_iff_lt,Int.toNat_zero,Int.toNat_one,Int.toNat_natCast] at *;omega)
   refine Az [] (k+1) ⟨by omega,Dy he hs⟩ Ad ⟨rfl,trivial⟩ trivial C2 A6 C1 A6
 have e:k=x.news.length:=by omega
 have hN:∀t∈x.news,Ls x.graph.workers t:=Hc (p:=Ls x.graph.workers) (e▸he);exact Am A0 rfl rfl ⟨congrArg vb (decide_eq_true ⟨hH,hW,hK,hT,hN⟩),trivial⟩
theorem I9 (l:List Aa)(h:l.length≤16777216):B3 Tryz.prog 132 [.one (Af l)] [.one (Af l)]:=by
 refine Aw A0 false Tryz.func132 rfl B5 fun W=>?_;conv=>whnf
 refine Bj A0 rfl rfl rfl rfl rfl rfl rfl rfl rfl rfl rfl (Af l) (C9) (fun _=>G5 l) Ad (A7 ?_);exact Am A0 rfl rfl ⟨rfl,trivial⟩
theorem Ff (l:List Ae)(h:l.length≤16777216):B3 Tryz.prog 173 [.one (Ak l)] [.one (Ak l)]:=by
 refine Aw A0 false Tryz.func173 rfl B5 fun W=>?_;conv=>whnf
 refine Bj A0 rfl rfl rfl rfl rfl rfl rfl rfl rfl rfl rfl (Ak l) (C9) (fun _=>Ex l) Ad (A7 ?_);exact Am A0 rfl rfl ⟨rfl,trivial⟩
theorem Ml (l:Ca)(h:l.w≤16777216):B3 Tryz.prog 143 [.agg l.c] [.agg l.c]:=by
 have h:l.queue.length≤16777216:=h;refine Aw A0 false Tryz.func143 rfl B5 fun W=>?_;conv=>whnf
 refine Bd (I9 l.queue h) rfl (A7 ?_);exact Am A0 rfl rfl ⟨⟨rfl,rfl,rfl,rfl,rfl,rfl,trivial⟩,trivial⟩
theorem Mm (l:Ca)(h:l.w≤16777216):B3 Tryz.prog 179 [.agg l.c] [.agg l.c]:=by
 have h:l.queue.length≤16777216:=h;refine Aw A0 false Tryz.func179 rfl B5 fun W=>?_;conv=>whnf
 refine Bj A0 rfl rfl rfl rfl rfl rfl rfl rfl rfl rfl rfl (Af l.queue) (C9) (fun _=>G5 l.queue) Ad (A7 ?_);exact Am A0 rfl rfl ⟨⟨rfl,rfl,rfl,rfl,rfl,rfl,trivial⟩,trivial⟩
set_option maxHeartbeats 8000000 in
theorem Hm (x:Ab)(h:x.w≤16777216):B3 Tryz.prog 142 [.agg x.c] [.agg x.c]:=by
 simp only [Ab.w] at h;refine A5l A0 false Tryz.func142 rfl B5 fun W us hul huv huo hp=>?_
 match us,hul with
 | [v0,v1,v2,v3,v4,v5,v6,v7],_=>
 conv=>whnf
 refine H0 rfl ?_;refine Bp A0 false 0 rfl rfl A6 rfl (A4 Br) ?_;refine Bp A0 false 3 rfl rfl A6 rfl (A4 Br) ?_;refine Bp A0 false 6 rfl rfl A6 rfl (A4 Br) ?_;refine Bp A0 false 9 rfl rfl A6 rfl (A4 Br) ?_;refine Bp A0 false 12 rfl rfl A6 rfl (A4 Br) ?_;refine Bp A0 false 15 rfl rfl A6 rfl (A4 Br) ?_;refine Bp A0 false 18 rfl rfl A6 rfl (A4 Br) ?_;refine Bp A0 false 21 rfl rfl A6 rfl (A4 Br) ?_;refine Kz [2,5,8,11,14,17,20,23,24,25] [⟨1,4,.rd v0⟩,⟨4,7,.rd v1⟩,⟨7,10,.rd v2⟩,⟨10,13,.rd v3⟩,⟨13,16,.rd v4⟩,⟨16,19,.rd v5⟩,⟨19,22,.rd v6⟩,⟨22,25,.rd v7⟩] A6 ?_;refine Bl (s':=?_) A0 rfl A6 E8 ?_ ?_;rotate_left;refine A7 ?_;refine A6q hp 0 0 rfl rfl ?_;refine Bd (I9 x.queue Ad) rfl (A7 ?_);exact B6
 refine Bl (s':=?_) A0 rfl A6 E8 ?_ ?_;rotate_left;refine A7 ?_;refine A6q hp 0 1 rfl rfl ?_;refine Bd (I9 x.staged Ad) rfl (A7 ?_);exact B6
 refine Bl (s':=?_) A0 rfl A6 E8 ?_ ?_;rotate_left;refine A7 ?_;refine A6q hp 0 2 rfl rfl ?_;refine Bd (I9 x.inputs Ad) rfl (A7 ?_);exact B6
 refine Bl (s':=?_) A0 rfl A6 E8 ?_ ?_;rotate_left;refine A7 ?_;refine A6q hp 0 3 rfl rfl ?_;refine Bd (Ff x.cells Ad) rfl (A7 ?_);exact B6
 refine Bl (s':=?_) A0 rfl A6 E8 ?_ ?_;rotate_left;refine A7 ?_;refine Hu hp 4 rfl 16 rfl ?_;refine Bj A0 rfl rfl rfl rfl rfl rfl rfl rfl rfl rfl rfl (Bh x.sums) (C9) (fun _=>Oo x.sums) Ad (A7 ?_);exact B6
 refine Bl (s':=?_) A0 rfl A6 E8 ?_ ?_;rotate_left;refine A7 ?_;refine Hu hp 5 rfl 19 rfl ?_;refine Bj A0 rfl rfl rfl rfl rfl rfl rfl rfl rfl rfl rfl (Dw x.black) (C9) (fun _=>Pp x.black) Ad (A7 ?_);exact B6
 refine Bl (s':=?_) A0 rfl A6 E8 ?_ ?_;rotate_left;refine A7 ?_;refine Hu hp 6 rfl 22 rfl ?_;refine Bj A0 rfl rfl rfl rfl rfl rfl rfl rfl rfl rfl rfl (Dw x.caps) (C9) (fun _=>Pp x.caps) Ad (A7 ?_);exact B6
 refine Bl (s':=?_) A0 rfl A6 E8 ?_ ?_;rotate_left;refine A7 ?_;refine Hu hp 7 rfl 25 rfl ?_;refine Bj A0 rfl rfl rfl rfl rfl rfl rfl rfl rfl rfl rfl (G1 x.dones) (C9) (fun _=>A0m x.dones) Ad (A7 ?_);exact B6
 refine Bl (s':=?_) A0 rfl A6 E8 ?_ ?_;rotate_left;refine A7 ?_;(repeat refine Ap ?_);exact B6
 refine Bl (s':=?_) A0 rfl A6 E8 ?_ ?_;rotate_left;refine A7 ?_;(repeat refine Ap ?_);exact B6
 refine Jf A0 A6 E8 (GW.out (G3 ?_));conv=>whnf
 exact Am A0 rfl rfl ⟨⟨rfl,rfl,rfl,rfl,rfl,rfl,rfl,rfl,trivial⟩,trivial⟩
set_option maxHeartbeats 8000000 in
theorem Iv (x:Ab)(h:x.w≤16777216):B3 Tryz.prog 178 [.agg x.c] [.agg x.c]:=by
 simp only [Ab.w] at h;refine A5l A0 false Tryz.func178 rfl B5 fun W us hul huv huo hp=>?_
 match us,hul with
 | [v0,v1,v2,v3,v4,v5,v6,v7],_=>
 conv=>whnf
 refine H0 rfl ?_;refine Bp A0 false 1 rfl rfl A6 rfl (A4 Br) ?_;refine Bp A0 false 5 rfl rfl A6 rfl (A4 Br) ?_;refine Bp A0 false 9 rfl rfl A6 rfl (A4 Br) ?_;refine Bp A0 false 13 rfl rfl A6 rfl (A4 Br) ?_;refine Bp A0 false 17 rfl rfl A6 rfl (A4 Br) ?_;refine Bp A0 false 21 rfl rfl A6 rfl (A4 Br) ?_;refine Bp A0 false 25 rfl rfl A6 rfl (A4 Br) ?_;refine Bp A0 false 29 rfl rfl A6 rfl (A4 Br) ?_;refine Kz [3,7,11,15,19,23,27,31,32,33] [⟨0,3,.emp 5⟩,⟨2,5,.rd v0⟩,⟨4,7,.emp 5⟩,⟨6,9,.rd v1⟩,⟨8,11,.emp 5⟩,⟨10,13,.rd v2⟩,⟨12,15,.emp 4⟩,⟨14,17,.rd v3⟩,⟨16,19,.emp 1⟩,⟨18,21,.rd v4⟩,⟨20,23,.emp 1⟩,⟨22,25,.rd v5⟩,⟨24,27,.emp 1⟩,⟨26,29,.rd v6⟩,⟨28,31,.emp 2⟩,⟨30,33,.rd v7⟩] A6 ?_;refine Bl (s':=?_) A0 rfl A6 E8 ?_ ?_;rotate_left;refine A7 ?_;refine Hu hp 0 rfl 5 rfl ?_;refine Bj A0 rfl rfl rfl rfl rfl rfl rfl rfl rfl rfl rfl (Af x.queue) (C9) (fun _=>G5 x.queue) Ad (A7 ?_);exact B6
 refine Bl (s':=?_) A0 rfl A6 E8 ?_ ?_;rotate_left;refine A7 ?_;refine Hu hp 1 rfl 9 rfl ?_;refine Bj A0 rfl rfl rfl rfl rfl rfl rfl rfl rfl rfl rfl (Af x.staged) (C9) (fun _=>G5 x.staged) Ad (A7 ?_);exact B6
 refine Bl (s':=?_) A0 rfl A6 E8 ?_ ?_;rotate_left;refine A7 ?_;refine Hu hp 2 rfl 13 rfl ?_;refine Bj A0 rfl rfl rfl rfl rfl rfl rfl rfl rfl rfl rfl (Af x.inputs) (C9) (fun _=>G5 x.inputs) Ad (A7 ?_);exact B6
 refine Bl (s':=?_) A0 rfl A6 E8 ?_ ?_;rotate_left;refine A7 ?_;refine Hu hp 3 rfl 17 rfl ?_;refine Bj A0 rfl rfl rfl rfl rfl rfl rfl rfl rfl rfl rfl (Ak x.cells) (C9) (fun _=>Ex x.cells) Ad (A7 ?_);exact B6
 refine Bl (s':=?_) A0 rfl A6 E8 ?_ ?_;rotate_left;refine A7 ?_;refine Hu hp 4 rfl 21 rfl ?_;refine Bj A0 rfl rfl rfl rfl rfl rfl rfl rfl rfl rfl rfl (Bh x.sums) (C9) (fun _=>Oo x.sums) Ad (A7 ?_);exact B6
 refine Bl (s':=?_) A0 rfl A6 E8 ?_ ?_;rotate_left;refine A7 ?_;refine Hu hp 5 rfl 25 rfl ?_;refine Bj A0 rfl rfl rfl rfl rfl rfl rfl rfl rfl rfl rfl (Dw x.black) (C9) (fun _=>Pp x.black) Ad (A7 ?_);exact B6
 refine Bl (s':=?_) A0 rfl A6 E8 ?_ ?_;rotate_left;refine A7 ?_;refine Hu hp 6 rfl 29 rfl ?_;refine Bj A0 rfl rfl rfl rfl rfl rfl rfl rfl rfl rfl rfl (Dw x.caps) (C9) (fun _=>Pp x.caps) Ad (A7 ?_);exact B6
 refine Bl (s':=?_) A0 rfl A6 E8 ?_ ?_;rotate_left;refine A7 ?_;refine Hu hp 7 rfl 33 rfl ?_;refine Bj A0 rfl rfl rfl rfl rfl rfl rfl rfl rfl rfl rfl (G1 x.dones) (C9) (fun _=>A0m x.dones) Ad (A7 ?_);exact B6
 refine Bl (s':=?_) A0 rfl A6 E8 ?_ ?_;rotate_left;refine A7 ?_;(repeat refine Ap ?_);exact B6
 refine Bl (s':=?_) A0 rfl A6 E8 ?_ ?_;rotate_left;refine A7 ?_;(repeat refine Ap ?_);exact B6
 refine Jf A0 A6 E8 (GW.out (G3 ?_));conv=>whnf
 exact Am A0 rfl rfl ⟨⟨rfl,rfl,rfl,rfl,rfl,rfl,rfl,rfl,trivial⟩,trivial⟩
theorem B7j (x:Bw)(h:x.w≤16777216):B3 Tryz.prog 93 [.agg x.c] [.agg x.c]:=by
 have h:x.outs.length≤16777216:=h;refine Aw A0 false Tryz.func93 rfl B5 fun W=>?_;conv=>whnf
 refine Bj A0 rfl rfl rfl rfl rfl rfl rfl rfl rfl rfl rfl (Bh x.outs) (C9) (fun _=>Oo x.outs) Ad (A7 ?_);exact Am A0 rfl rfl ⟨⟨rfl,rfl,rfl,rfl,trivial⟩,trivial⟩
theorem Je (x:Ah)(h:x.w≤16777216):B3 Tryz.prog 64 [.agg x.c] [.agg x.c]:=by
 have h:x.nodes.length+(x.nodes.map Bw.w).sum≤16777216:=h;refine Aw A0 false Tryz.func64 rfl B5 fun W=>?_;conv=>whnf
 refine X1 2 0 4 (fun i=>Bw.c (([]:List Bw).getD i default)) rfl rfl ?_
 refine Bk A0 false [] (fun k:Nat=>[(14,.c (vi k))]) (fun _=>[⟨0,[.c (Bg x.nodes),.c (vi x.workers),.c (vi x.cap)]⟩,⟨2,[.own 3,.c (vi x.workers),.c (vi x.cap)]⟩,⟨1,[.any,.any,.any]⟩]) (fun k=>[⟨3,Bg (x.nodes.take k)⟩])
  (fun k=>k≤x.nodes.length) (fun k=>x.nodes.length-k) 0 (Nat.zero_le _) ⟨rfl,trivial⟩ C2 ⟨rfl,trivial⟩ trivial A6 (fun k hk=>?_)
 conv=>whnf
 refine Eo (fun h=>?_) fun h=>?_<;>conv=>whnf
 ·have h:k<x.nodes.length:=by omega
  have hle:=I5 Bw.w x.nodes k h;(repeat refine Ap ?_);refine C23 rfl [0,1,2,3,4,5,6,7] A6 (A7 ?_);refine Bd (B7j (x.nodes.getD k default) Ad) rfl (A7 ?_);refine Kg A0 rfl rfl rfl rfl rfl rfl rfl rfl rfl (A7 ?_);refine Bj A0 rfl rfl rfl rfl rfl rfl rfl rfl rfl rfl rfl (Bg (x.nodes.take k++[x.nodes.getD k default])) (An rfl) C6 (by simp only [List.length_take];omega) (A7 ?_);(repeat refine Ap ?_);refine Az [(3,7)] (k+1) Ad Ad ⟨rfl,trivial⟩ ⟨?_,trivial⟩ C2 A6 trivial A6;exact congrArg Bg (Fj x.nodes k h).symm
 refine Am A0 rfl rfl ⟨⟨?_,rfl,rfl,trivial⟩,trivial⟩;exact congrArg Bg (Da _ _ Ad)
theorem Jk (x:Ah)(h:x.w≤16777216):B3 Tryz.prog 65 [.agg x.c] [.agg x.c]:=by
 have h:x.nodes.length+(x.nodes.map Bw.w).sum≤16777216:=h;refine Aw A0 false Tryz.func65 rfl B5 fun W=>?_;conv=>whnf
 refine Es 3 (Bg []) rfl Cq ?_
 refine Bk A0 false [7] (fun k:Nat=>[(4,.c (vi k))]) (fun _=>[⟨0,[.c (Bg x.nodes),.c (vi x.workers),.c (vi x.cap)]⟩,⟨2,[.own 3,.c (vi x.workers),.c (vi x.cap)]⟩,⟨1,[.any,.any,.any]⟩]) (fun k=>[⟨3,Bg (x.nodes.take k)⟩])
  (fun k=>k≤x.nodes.length) (fun k=>x.nodes.length-k) 0 (Nat.zero_le _) ⟨rfl,trivial⟩ C2 ⟨rfl,trivial⟩ trivial A6 (fun k hk=>?_)
 conv=>whnf
 refine Eo (fun h=>?_) fun h=>?_<;>conv=>whnf
 ·have h:k<x.nodes.length:=by omega
  have hle:=I5 Bw.w x.nodes k h;have ho:(x.nodes.getD k default).outs.length≤16777216:=by simp only [Bw.w] at hle;omega
  (repeat refine Ap ?_);refine Bj A0 rfl rfl rfl rfl rfl rfl rfl rfl rfl rfl rfl (Bh (x.nodes.getD k default).outs) (C9) (fun _=>Oo _) (by first|omega|(simp only [Int.toNat_natCast];omega)) (A7 ?_);refine Kg A0 rfl rfl rfl rfl rfl rfl rfl rfl rfl (A7 ?_);refine Bj A0 rfl rfl rfl rfl rfl rfl rfl rfl rfl rfl rfl (Bg (x.nodes.take k++[x.nodes.getD k default])) (An rfl) C6 (by simp only [List.length_take];omega) (A7 ?_);(repeat refine Ap ?_);refine Az [(3,8)] (k+1) Ad Ad ⟨rfl,trivial⟩ ⟨?_,trivial⟩ C2 A6 trivial A6;exact congrArg Bg (Fj x.nodes k h).symm
 refine Am A0 rfl rfl ⟨⟨?_,rfl,rfl,trivial⟩,trivial⟩;exact congrArg Bg (Da _ _ Ad)
set_option maxHeartbeats 8000000 in
theorem Ew (x:A3)(h:x.w≤16777216):B3 Tryz.prog 110 [.agg x.c] [.agg x.c]:=by
 have hg:=A3.graph_le h;have h2:=h;simp only [A3.w,wS] at h2;refine A5l A0 false Tryz.func110 rfl B5 fun W us hul huv huo hp=>?_
 match us,hul with
 | [v0,v1,v2,v3,v4,v5,v6],_=>
 conv=>whnf
 refine B2v 4 ?_;refine C4z A0 false (J:=Unit) [10,13,16,17] (fun _=>[(3,.box 2 0)]) (fun _=>[⟨2,[.own 3,.c (vi x.graph.workers),.c (vi x.graph.cap),.c (.val (.slice none 0 0)),.c (.val (.slice none 0 0)),.own 4,.own 5]⟩,⟨0,[.c (.val v0),.c (.val v1),.c (.val v2),.c (.val v3),.c (.val v4),.c (.val v5),.c (.val v6)]⟩,⟨1,[.c (.val (.slice none 0 0)),.c (vi 0),.c (vi 0),.c (.val (.slice none 0 0)),.c (.val (.slice none 0 0)),.c (.val (.slice none 0 0)),.c (.val (.slice none 0 0))]⟩]) (fun _=>[⟨3,Bg x.graph.nodes⟩,⟨4,Bm x.tokens⟩,⟨5,Cc x.news⟩]) (fun _=>True) ?_ ?_
 ·conv=>whnf
  refine H0 rfl ?_;refine Bp A0 false 0 rfl rfl A6 rfl (A4 Br) ?_;refine Bp A0 false 3 rfl rfl A6 rfl (A4 Br) ?_;refine Bp A0 false 6 rfl rfl A6 rfl (A4 Br) ?_;refine Kz [2,5,8,9,10,11] [⟨1,9,.ra [v0,v1,v2]⟩,⟨4,12,.rd v5⟩,⟨7,15,.rd v6⟩] A6 ?_;refine Kr (s1:=?_) (s2:=?_) A0 [2,5,8,9,10,11] 2 10 [5,8,9,10,11] [2,5,8,9,11] rfl rfl A6 E8 B5 B5 ?_ ?_ ?_ ?_;rotate_left 2;refine A7 ?_;refine Mb hp 0 0 0 rfl rfl rfl ?_;refine Mb hp 0 1 1 rfl rfl rfl ?_;refine Mb hp 0 2 2 rfl rfl rfl ?_;refine Bd (Je x.graph hg) rfl (A7 ?_);exact B6
  refine Kr (s1:=?_) (s2:=?_) A0 [5,8,9,10,11] 5 10 [8,9,10,11] [5,8,9,11] rfl rfl A6 E8 B5 B5 ?_ ?_ ?_ ?_;rotate_left 2;refine A7 ?_;refine Hu hp 5 rfl 12 rfl ?_;refine Bj A0 rfl rfl rfl rfl rfl rfl rfl rfl rfl rfl rfl (Bm x.tokens) (C9) (fun _=>Jy x.tokens) Ad (A7 ?_);exact B6
  refine Kr (s1:=?_) (s2:=?_) A0 [8,9,10,11] 8 10 [9,10,11] [8,9,11] rfl rfl A6 E8 B5 B5 ?_ ?_ ?_ ?_;rotate_left 2;refine A7 ?_;refine Hu hp 6 rfl 15 rfl ?_;refine Bj A0 rfl rfl rfl rfl rfl rfl rfl rfl rfl rfl rfl (Cc x.news) (C9) (fun _=>G4 x.news) Ad (A7 ?_);exact B6
  refine Kr (s1:=?_) (s2:=?_) A0 [9,10,11] 9 10 [10,11] [9,11] rfl rfl A6 E8 B5 B5 ?_ ?_ ?_ ?_;rotate_left 2;refine A7 ?_;(repeat refine Ap ?_);exact B6
  refine Bl (s':=?_) A0 rfl A6 E8 ?_ ?_;rotate_left;refine A7 ?_;(repeat refine Ap ?_);exact B6
  refine Bl (s':=?_) A0 rfl A6 E8 ?_ ?_;rotate_left;refine A7 ?_;(repeat refine Ap ?_);exact B6
  refine Jf A0 A6 E8 (GW.out (G3 ?_));conv=>whnf
  exact Az [(2,9),(3,6),(4,7),(5,8)] () trivial Ng ⟨rfl,trivial⟩ ⟨rfl,rfl,rfl,trivial⟩ C2 A6 trivial A6
  refine A7 ?_;(repeat refine Ap ?_);exact B6
  refine Bl (s':=?_) A0 rfl A6 E8 ?_ ?_;rotate_left;refine A7 ?_;(repeat refine Ap ?_);exact B6
  refine Bl (s':=?_) A0 rfl A6 E8 ?_ ?_;rotate_left;refine A7 ?_;(repeat refine Ap ?_);exact B6
  refine Jf A0 A6 E8 (GW.out (G3 ?_));conv=>whnf
  exact Az [(2,9),(3,6),(4,7),(5,8)] () trivial Ng ⟨rfl,trivial⟩ ⟨rfl,rfl,rfl,trivial⟩ C2 A6 trivial A6
  refine A7 ?_;(repeat refine Ap ?_);exact B6
  refine Bl (s':=?_) A0 rfl A6 E8 ?_ ?_;rotate_left;refine A7 ?_;refine Hu hp 6 rfl 15 rfl ?_;refine Bj A0 rfl rfl rfl rfl rfl rfl rfl rfl rfl rfl rfl (Cc x.news) (C9) (fun _=>G4 x.news) Ad (A7 ?_);exact B6
  refine Bl (s':=?_) A0 rfl A6 E8 ?_ ?_;rotate_left;refine A7 ?_;(repeat refine Ap ?_);exact B6
  refine Bl (s':=?_) A0 rfl A6 E8 ?_ ?_;rotate_left;refine A7 ?_;(repeat refine Ap ?_);exact B6
  refine Jf A0 A6 E8 (GW.out (G3 ?_));conv=>whnf
  exact Az [(2,8),(3,6),(4,7),(5,9)] () trivial Ng ⟨rfl,trivial⟩ ⟨rfl,rfl,rfl,trivial⟩ C2 A6 trivial A6
  refine A7 ?_;(repeat refine Ap ?_);exact B6
  refine Bl (s':=?_) A0 rfl A6 E8 ?_ ?_;rotate_left;refine A7 ?_;refine Hu hp 5 rfl 12 rfl ?_;refine Bj A0 rfl rfl rfl rfl rfl rfl rfl rfl rfl rfl rfl (Bm x.tokens) (C9) (fun _=>Jy x.tokens) Ad (A7 ?_);exact B6
  refine Bl (s':=?_) A0 rfl A6 E8 ?_ ?_;rotate_left;refine A7 ?_;refine Hu hp 6 rfl 15 rfl ?_;refine Bj A0 rfl rfl rfl rfl rfl rfl rfl rfl rfl rfl rfl (Cc x.news) (C9) (fun _=>G4 x.news) Ad (A7 ?_);exact B6
  refine Bl (s':=?_) A0 rfl A6 E8 ?_ ?_;rotate_left;refine A7 ?_;(repeat refine Ap ?_);exact B6
  refine Bl (s':=?_) A0 rfl A6 E8 ?_ ?_;rotate_left;refine A7 ?_;(repeat refine Ap ?_);exact B6
  refine Jf A0 A6 E8 (GW.out (G3 ?_));conv=>whnf
  exact Az [(2,7),(3,6),(4,8),(5,9)] () trivial Ng ⟨rfl,trivial⟩ ⟨rfl,rfl,rfl,trivial⟩ C2 A6 trivial A6
  refine A7 ?_;(repeat refine Ap ?_);exact B6
  refine Bl (s':=?_) A0 rfl A6 E8 ?_ ?_;rotate_left;refine A7 ?_;refine Mb hp 0 0 0 rfl rfl rfl ?_;refine Mb hp 0 1 1 rfl rfl rfl ?_;refine Mb hp 0 2 2 rfl rfl rfl ?_;refine Bd (Je x.graph hg) rfl (A7 ?_);exact B6
  refine Bl (s':=?_) A0 rfl A6 E8 ?_ ?_;rotate_left;refine A7 ?_;refine Hu hp 5 rfl 12 rfl ?_;refine Bj A0 rfl rfl rfl rfl rfl rfl rfl rfl rfl rfl rfl (Bm x.tokens) (C9) (fun _=>Jy x.tokens) Ad (A7 ?_);exact B6
  refine Bl (s':=?_) A0 rfl A6 E8 ?_ ?_;rotate_left;refine A7 ?_;refine Hu hp 6 rfl 15 rfl ?_;refine Bj A0 rfl rfl rfl rfl rfl rfl rfl rfl rfl rfl rfl (Cc x.news) (C9) (fun _=>G4 x.news) Ad (A7 ?_);exact B6
  refine Bl (s':=?_) A0 rfl A6 E8 ?_ ?_;rotate_left;refine A7 ?_;(repeat refine Ap ?_);exact B6
  refine Bl (s':=?_) A0 rfl A6 E8 ?_ ?_;rotate_left;refine A7 ?_;(repeat refine Ap ?_);exact B6
  refine Jf A0 A6 E8 (GW.out (G3 ?_));conv=>whnf
  exact Az [(2,6),(3,7),(4,8),(5,9)] () trivial Ng ⟨rfl,trivial⟩ ⟨rfl,rfl,rfl,trivial⟩ C2 A6 trivial A6
 intro _ _;refine A6p hp 0 3 3 rfl rfl rfl ?_;refine A6p hp 0 4 4 rfl rfl rfl ?_;refine X1 2 3 8 (fun i=>Ab.c (([]:List Ab).getD i default)) rfl rfl ?_;refine X1 2 4 6 (fun i=>Ca.c (([]:List Ca).getD i default)) rfl rfl ?_;refine A7 ?_
 refine Bk A0 false [] (fun k:Nat=>[(21,.c (vi k))]) (fun k=>[⟨2,[.own 3,.c (vi x.graph.workers),.c (vi x.graph.cap),.own 6,.own 7,.own 4,.own 5]⟩,⟨0,[.c (.val v0),.c (.val v1),.c (.val v2),.c (Ar x.workers),.c (C4 x.links),.c (.val v5),.c (.val v6)]⟩,⟨1,[.c (.val (.slice none 0 0)),.c (vi 0),.c (vi 0),.c (.val (.slice none 0 0)),.c (.val (.slice none 0 0)),.c (.val (.slice none 0 0)),.c (.val (.slice none 0 0))]⟩]) (fun k=>[⟨3,Bg x.graph.nodes⟩,⟨4,Bm x.tokens⟩,⟨5,Cc x.news⟩,⟨6,Ar (x.workers.take k)⟩,⟨7,C4 []⟩])
  (fun k=>k≤x.workers.length) (fun k=>x.workers.length-k) 0 (Nat.zero_le _) ⟨F0,trivial⟩ C2 ⟨Dm,Dm,Dm,Dm,Dm,trivial⟩ C1 A6 (fun k hk=>?_)
 conv=>whnf
 refine Eo (fun h'=>?_) fun h'=>?_<;>conv=>whnf
 ·have h':k<x.workers.length:=by omega
  have hw:=A3.worker_le h h';(repeat refine Ap ?_)
  first|(refine Ax 1 rfl [0,1,3,4,6,7,2,5,8,9,10,11] A6 (A7 ?_))|(refine Ax 5 rfl [0,1,2,3,4,5,6,7] A6 (A7 ?_))|(refine Ax 10 rfl [0,1,2,3,4,5,6,7] A6 (A7 ?_))
  (repeat refine Ap ?_);refine Bd (Hm (x.workers.getD k default) hw) rfl (A7 ?_);refine Kg A0 rfl rfl rfl rfl rfl rfl rfl rfl rfl (A7 ?_);refine Bj A0 rfl rfl rfl rfl rfl rfl rfl rfl rfl rfl rfl (Ar (x.workers.take k++[x.workers.getD k default])) (An rfl) C6 (by simp only [List.length_take];omega) (A7 ?_);(repeat refine Ap ?_);refine Az [(6,18)] (k+1) Ad Ad ⟨rfl,trivial⟩ ⟨rfl,rfl,rfl,congrArg Ar (Fj x.workers k h').symm,rfl,trivial⟩ C2 A6 C1 A6
 rw [Da x.workers k Ad]
 refine Bk A0 false [] (fun j:Nat=>[(36,.c (vi j))]) (fun j=>[⟨2,[.own 3,.c (vi x.graph.workers),.c (vi x.graph.cap),.own 6,.own 7,.own 4,.own 5]⟩,⟨0,[.c (.val v0),.c (.val v1),.c (.val v2),.c (Ar x.workers),.c (C4 x.links),.c (.val v5),.c (.val v6)]⟩,⟨1,[.c (.val (.slice none 0 0)),.c (vi 0),.c (vi 0),.c (.val (.slice none 0 0)),.c (.val (.slice none 0 0)),.c (.val (.slice none 0 0)),.c (.val (.slice none 0 0))]⟩]) (fun j=>[⟨3,Bg x.graph.nodes⟩,⟨4,Bm x.tokens⟩,⟨5,Cc x.news⟩,⟨6,Ar x.workers⟩,⟨7,C4 (x.links.take j)⟩])
  (fun j=>j≤x.links.length) (fun j=>x.links.length-j) 0 (Nat.zero_le _) ⟨F0,trivial⟩ C2 ⟨Dm,Dm,Dm,Dm,Dm,trivial⟩ C1 A6 (fun j hj=>?_)
 conv=>whnf
 refine Eo (fun h''=>?_) fun h''=>?_<;>conv=>whnf
 ·have h'':j<x.links.length:=by omega
  have hl:=A3.link_le h h'';(repeat refine Ap ?_)
  first|(refine Ax 1 rfl [0,1,3,4,6,7,2,5,8,9,10,11] A6 (A7 ?_))|(refine Ax 5 rfl [0,1,2,3,4,5,6,7] A6 (A7 ?_))|(refine Ax 10 rfl [0,1,2,3,4,5,6,7] A6 (A7 ?_))
  (repeat refine Ap ?_);refine Bd (Ml (x.links.getD j default) hl) rfl (A7 ?_);refine Kg A0 rfl rfl rfl rfl rfl rfl rfl rfl rfl (A7 ?_);refine Bj A0 rfl rfl rfl rfl rfl rfl rfl rfl rfl rfl rfl (C4 (x.links.take j++[x.links.getD j default])) (An rfl) C6 (by simp only [List.length_take];omega) (A7 ?_);(repeat refine Ap ?_);refine Az [(7,11)] (j+1) Ad Ad ⟨rfl,trivial⟩ ⟨rfl,rfl,rfl,rfl,congrArg C4 (Fj x.links j h'').symm,trivial⟩ C2 A6 C1 A6
 refine Am A0 rfl rfl ⟨⟨rfl,rfl,rfl,rfl,?_,rfl,rfl,trivial⟩,trivial⟩;exact congrArg C4 (Da _ _ Ad)
set_option maxHeartbeats 8000000 in
theorem Yn (x:A3)(h:x.w≤16777216):B3 Tryz.prog 148 [.agg x.c] [.agg x.c]:=by
 have hg:=A3.graph_le h;have h2:=h;simp only [A3.w,wS] at h2;refine A5l A0 false Tryz.func148 rfl B5 fun W us hul huv huo hp=>?_
 match us,hul with
 | [v0,v1,v2,v3,v4,v5,v6],_=>
 conv=>whnf
 refine B2v 4 ?_;refine C4z A0 false (J:=Unit) [8,9,12,13,16,17] (fun _=>[(3,.box 2 0)]) (fun _=>[⟨2,[.own 3,.c (vi x.graph.workers),.c (vi x.graph.cap),.c (.val (.slice none 0 0)),.c (.val (.slice none 0 0)),.own 4,.own 5]⟩,⟨0,[.c (.val v0),.c (.val v1),.c (.val v2),.c (.val v3),.c (.val v4),.c (.val v5),.c (.val v6)]⟩,⟨1,[.c (.val (.slice none 0 0)),.c (vi 0),.c (vi 0),.c (.val (.slice none 0 0)),.c (.val (.slice none 0 0)),.c (.val (.slice none 0 0)),.c (.val (.slice none 0 0))]⟩]) (fun _=>[⟨3,Bg x.graph.nodes⟩,⟨4,Bm x.tokens⟩,⟨5,Cc x.news⟩]) (fun _=>True) ?_ ?_
 ·conv=>whnf
  refine H0 rfl ?_;refine Bp A0 false 0 rfl rfl A6 rfl (A4 Br) ?_;refine Bp A0 false 4 rfl rfl A6 rfl (A4 Br) ?_;refine Bp A0 false 8 rfl rfl A6 rfl (A4 Br) ?_;refine Kz [2,6,10,11,12,13] [⟨1,7,.ra [v0,v1,v2]⟩,⟨3,9,.emp 5⟩,⟨5,11,.rd v5⟩,⟨7,13,.emp 3⟩,⟨9,15,.rd v6⟩] A6 ?_;refine Kr (s1:=?_) (s2:=?_) A0 [2,6,10,11,12,13] 2 12 [6,10,11,12,13] [2,6,10,11,13] rfl rfl A6 E8 B5 B5 ?_ ?_ ?_ ?_;rotate_left 2;refine A7 ?_;refine Mb hp 0 0 0 rfl rfl rfl ?_;refine Mb hp 0 1 1 rfl rfl rfl ?_;refine Mb hp 0 2 2 rfl rfl rfl ?_;refine Bd (Jk x.graph hg) rfl (A7 ?_);exact B6
  refine Kr (s1:=?_) (s2:=?_) A0 [6,10,11,12,13] 6 12 [10,11,12,13] [6,10,11,13] rfl rfl A6 E8 B5 B5 ?_ ?_ ?_ ?_;rotate_left 2;refine A7 ?_;refine Hu hp 5 rfl 11 rfl ?_;refine Bj A0 rfl rfl rfl rfl rfl rfl rfl rfl rfl rfl rfl (Bm x.tokens) (C9) (fun _=>Jy x.tokens) Ad (A7 ?_);exact B6
  refine Kr (s1:=?_) (s2:=?_) A0 [10,11,12,13] 10 12 [11,12,13] [10,11,13] rfl rfl A6 E8 B5 B5 ?_ ?_ ?_ ?_;rotate_left 2;refine A7 ?_;refine Hu hp 6 rfl 15 rfl ?_;refine Bj A0 rfl rfl rfl rfl rfl rfl rfl rfl rfl rfl rfl (Cc x.news) (C9) (fun _=>G4 x.news) Ad (A7 ?_);exact B6
  refine Kr (s1:=?_) (s2:=?_) A0 [11,12,13] 11 12 [12,13] [11,13] rfl rfl A6 E8 B5 B5 ?_ ?_ ?_ ?_;rotate_left 2;refine A7 ?_;(repeat refine Ap ?_);exact B6
  refine Bl (s':=?_) A0 rfl A6 E8 ?_ ?_;rotate_left;refine A7 ?_;(repeat refine Ap ?_);exact B6
  refine Bl (s':=?_) A0 rfl A6 E8 ?_ ?_;rotate_left;refine A7 ?_;(repeat refine Ap ?_);exact B6
  refine Jf A0 A6 E8 (GW.out (G3 ?_));conv=>whnf
  exact Az [(2,11),(3,6),(4,8),(5,10)] () trivial Ng ⟨rfl,trivial⟩ ⟨rfl,rfl,rfl,trivial⟩ C2 A6 trivial A6
  refine A7 ?_;(repeat refine Ap ?_);exact B6
  refine Bl (s':=?_) A0 rfl A6 E8 ?_ ?_;rotate_left;refine A7 ?_;(repeat refine Ap ?_);exact B6
  refine Bl (s':=?_) A0 rfl A6 E8 ?_ ?_;rotate_left;refine A7 ?_;(repeat refine Ap ?_);exact B6
  refine Jf A0 A6 E8 (GW.out (G3 ?_));conv=>whnf
  exact Az [(2,11),(3,6),(4,8),(5,10)] () trivial Ng ⟨rfl,trivial⟩ ⟨rfl,rfl,rfl,trivial⟩ C2 A6 trivial A6
  refine A7 ?_;(repeat refine Ap ?_);exact B6
  refine Bl (s':=?_) A0 rfl A6 E8 ?_ ?_;rotate_left;refine A7 ?_;refine Hu hp 6 rfl 15 rfl ?_;refine Bj A0 rfl rfl rfl rfl rfl rfl rfl rfl rfl rfl rfl (Cc x.news) (C9) (fun _=>G4 x.news) Ad (A7 ?_);exact B6
  refine Bl (s':=?_) A0 rfl A6 E8 ?_ ?_;rotate_left;refine A7 ?_;(repeat refine Ap ?_);exact B6
  refine Bl (s':=?_) A0 rfl A6 E8 ?_ ?_;rotate_left;refine A7 ?_;(repeat refine Ap ?_);exact B6
  refine Jf A0 A6 E8 (GW.out (G3 ?_));conv=>whnf
  exact Az [(2,9),(3,6),(4,8),(5,11)] () trivial Ng ⟨rfl,trivial⟩ ⟨rfl,rfl,rfl,trivial⟩ C2 A6 trivial A6
  refine A7 ?_;(repeat refine Ap ?_);exact B6
  refine Bl (s':=?_) A0 rfl A6 E8 ?_ ?_;rotate_left;refine A7 ?_;refine Hu hp 5 rfl 11 rfl ?_;refine Bj A0 rfl rfl rfl rfl rfl rfl rfl rfl rfl rfl rfl (Bm x.tokens) (C9) (fun _=>Jy x.tokens) Ad (A7 ?_);exact B6
  refine Bl (s':=?_) A0 rfl A6 E8 ?_ ?_;rotate_left;refine A7 ?_;refine Hu hp 6 rfl 15 rfl ?_;refine Bj A0 rfl rfl rfl rfl rfl rfl rfl rfl rfl rfl rfl (Cc x.news) (C9) (fun _=>G4 x.news) Ad (A7 ?_);exact B6
  refine Bl (s':=?_) A0 rfl A6 E8 ?_ ?_;rotate_left;refine A7 ?_;(repeat refine Ap ?_);exact B6
  refine Bl (s':=?_) A0 rfl A6 E8 ?_ ?_;rotate_left;refine A7 ?_;(repeat refine Ap ?_);exact B6
  refine Jf A0 A6 E8 (GW.out (G3 ?_));conv=>whnf
  exact Az [(2,7),(3,6),(4,9),(5,11)] () trivial Ng ⟨rfl,trivial⟩ ⟨rfl,rfl,rfl,trivial⟩ C2 A6 trivial A6
  refine A7 ?_;(repeat refine Ap ?_);exact B6
  refine Bl (s':=?_) A0 rfl A6 E8 ?_ ?_;rotate_left;refine A7 ?_;refine Mb hp 0 0 0 rfl rfl rfl ?_;refine Mb hp 0 1 1 rfl rfl rfl ?_;refine Mb hp 0 2 2 rfl rfl rfl ?_;refine Bd (Jk x.graph hg) rfl (A7 ?_);exact B6
  refine Bl (s':=?_) A0 rfl A6 E8 ?_ ?_;rotate_left;refine A7 ?_;refine Hu hp 5 rfl 11 rfl ?_;refine Bj A0 rfl rfl rfl rfl rfl rfl rfl rfl rfl rfl rfl (Bm x.tokens) (C9) (fun _=>Jy x.tokens) Ad (A7 ?_);exact B6
  refine Bl (s':=?_) A0 rfl A6 E8 ?_ ?_;rotate_left;refine A7 ?_;refine Hu hp 6 rfl 15 rfl ?_;refine Bj A0 rfl rfl rfl rfl rfl rfl rfl rfl rfl rfl rfl (Cc x.news) (C9) (fun _=>G4 x.news) Ad (A7 ?_);exact B6
  refine Bl (s':=?_) A0 rfl A6 E8 ?_ ?_;rotate_left;refine A7 ?_;(repeat refine Ap ?_);exact B6
  refine Bl (s':=?_) A0 rfl A6 E8 ?_ ?_;rotate_left;refine A7 ?_;(repeat refine Ap ?_);exact B6
  refine Jf A0 A6 E8 (GW.out (G3 ?_));conv=>whnf
  exact Az [(2,6),(3,7),(4,9),(5,11)] () trivial Ng ⟨rfl,trivial⟩ ⟨rfl,rfl,rfl,trivial⟩ C2 A6 trivial A6
 intro _ _;refine A6p hp 0 3 3 rfl rfl rfl ?_;refine A6p hp 0 4 4 rfl rfl rfl ?_;refine X1 2 3 8 (fun i=>Ab.c (([]:List Ab).getD i default)) rfl rfl ?_;refine X1 2 4 6 (fun i=>Ca.c (([]:List Ca).getD i default)) rfl rfl ?_;refine A7 ?_
 refine Bk A0 false [] (fun k:Nat=>[(4,.c (vi k))]) (fun k=>[⟨2,[.own 3,.c (vi x.graph.workers),.c (vi x.graph.cap),.own 6,.own 7,.own 4,.own 5]⟩,⟨0,[.c (.val v0),.c (.val v1),.c (.val v2),.c (Ar x.workers),.c (C4 x.links),.c (.val v5),.c (.val v6)]⟩,⟨1,[.c (.val (.slice none 0 0)),.c (vi 0),.c (vi 0),.c (.val (.slice none 0 0)),.c (.val (.slice none 0 0)),.c (.val (.slice none 0 0)),.c (.val (.slice none 0 0))]⟩]) (fun k=>[⟨3,Bg x.graph.nodes⟩,⟨4,Bm x.tokens⟩,⟨5,Cc x.news⟩,⟨6,Ar (x.workers.take k)⟩,⟨7,C4 []⟩])
  (fun k=>k≤x.workers.length) (fun k=>x.workers.length-k) 0 (Nat.zero_le _) ⟨F0,trivial⟩ C2 ⟨Dm,Dm,Dm,Dm,Dm,trivial⟩ C1 A6 (fun k hk=>?_)
 conv=>whnf
 refine Eo (fun h'=>?_) fun h'=>?_<;>conv=>whnf
 ·have h':k<x.workers.length:=by omega
  have hw:=A3.worker_le h h';(repeat refine Ap ?_)
  first|(refine Ax 1 rfl [0,1,4,5,8,9,2,3,6,7,10,11,12,13] A6 (A7 ?_))|(refine Ax 5 rfl [0,1,2,3,4,5,6,7,8,9,10,11] A6 (A7 ?_))|(refine Ax 9 rfl [0,1,2,3,4,5,6,7,8,9,10,11] A6 (A7 ?_))
  (repeat refine Ap ?_);refine Bd (Iv (x.workers.getD k default) hw) rfl (A7 ?_);refine Kg A0 rfl rfl rfl rfl rfl rfl rfl rfl rfl (A7 ?_);refine Bj A0 rfl rfl rfl rfl rfl rfl rfl rfl rfl rfl rfl (Ar (x.workers.take k++[x.workers.getD k default])) (An rfl) C6 (by simp only [List.length_take];omega) (A7 ?_);(repeat refine Ap ?_);refine Az [(6,17)] (k+1) Ad Ad ⟨rfl,trivial⟩ ⟨rfl,rfl,rfl,congrArg Ar (Fj x.workers k h').symm,rfl,trivial⟩ C2 A6 C1 A6
 rw [Da x.workers k Ad]
 refine Bk A0 false [] (fun j:Nat=>[(5,.c (vi j))]) (fun j=>[⟨2,[.own 3,.c (vi x.graph.workers),.c (vi x.graph.cap),.own 6,.own 7,.own 4,.own 5]⟩,⟨0,[.c (.val v0),.c (.val v1),.c (.val v2),.c (Ar x.workers),.c (C4 x.links),.c (.val v5),.c (.val v6)]⟩,⟨1,[.c (.val (.slice none 0 0)),.c (vi 0),.c (vi 0),.c (.val (.slice none 0 0)),.c (.val (.slice none 0 0)),.c (.val (.slice none 0 0)),.c (.val (.slice none 0 0))]⟩]) (fun j=>[⟨3,Bg x.graph.nodes⟩,⟨4,Bm x.tokens⟩,⟨5,Cc x.news⟩,⟨6,Ar x.workers⟩,⟨7,C4 (x.links.take j)⟩])
  (fun j=>j≤x.links.length) (fun j=>x.links.length-j) 0 (Nat.zero_le _) ⟨F0,trivial⟩ C2 ⟨Dm,Dm,Dm,Dm,Dm,trivial⟩ C1 A6 (fun j hj=>?_)
 conv=>whnf
 refine Eo (fun h''=>?_) fun h''=>?_<;>conv=>whnf
 ·have h'':j<x.links.length:=by omega
  have hl:=A3.link_le h h'';(repeat refine Ap ?_)
  first|(refine Ax 1 rfl [0,1,4,5,8,9,2,3,6,7,10,11,12,13] A6 (A7 ?_))|(refine Ax 5 rfl [0,1,2,3,4,5,6,7,8,9,10,11] A6 (A7 ?_))|(refine Ax 9 rfl [0,1,2,3,4,5,6,7,8,9,10,11] A6 (A7 ?_))
  (repeat refine Ap ?_);refine Bd (Mm (x.links.getD j default) hl) rfl (A7 ?_);refine Kg A0 rfl rfl rfl rfl rfl rfl rfl rfl rfl (A7 ?_);refine Bj A0 rfl rfl rfl rfl rfl rfl rfl rfl rfl rfl rfl (C4 (x.links.take j++[x.links.getD j default])) (An rfl) C6 (by simp only [List.length_take];omega) (A7 ?_);(repeat refine Ap ?_);refine Az [(7,10)] (j+1) Ad Ad ⟨rfl,trivial⟩ ⟨rfl,rfl,rfl,rfl,congrArg C4 (Fj x.links j h'').symm,trivial⟩ C2 A6 C1 A6
 refine Am A0 rfl rfl ⟨⟨rfl,rfl,rfl,rfl,?_,rfl,rfl,trivial⟩,trivial⟩;exact congrArg C4 (Da _ _ Ad)
theorem A2j (x:A3)(e:Int)(h:x.w≤16777216):B3 Tryz.prog 186 [.agg x.c,.one (vi e)] [.one (vb (Na x e))]:=by
 have hl:=A3.workers_le h;refine Aw A0 false Tryz.func186 rfl B5 fun W=>?_;conv=>whnf
 refine Eo (fun h0=>?_) fun h0=>?_<;>conv=>whnf
 ·have hw:=Go.Sx.A3.worker_le h (show 0<x.workers.length by omega)
  repeat' (first|(refine L4 ?_;conv=>whnf)|(refine L5 ?_;conv=>whnf)|(refine ⟨fun h=>?_,fun h=>?_⟩<;>conv=>whnf)|(refine Gi ?_;conv=>whnf)|fail)
  refine As (A2h (x.workers.getD 0 default) e Ad) rfl (A7 ?_)
  repeat' (first|(refine L4 ?_;conv=>whnf)|(refine L5 ?_;conv=>whnf)|(refine ⟨fun h=>?_,fun h=>?_⟩<;>conv=>whnf)|(refine Gi ?_;conv=>whnf)|fail)
  exact Am A0 rfl rfl ⟨congrArg vb (by rw [Na,if_pos Ad]),trivial⟩
 repeat' (first|(refine L4 ?_;conv=>whnf)|(refine L5 ?_;conv=>whnf)|(refine ⟨fun h=>?_,fun h=>?_⟩<;>conv=>whnf)|(refine Gi ?_;conv=>whnf)|fail)
 exact Am A0 rfl rfl ⟨congrArg vb (by rw [Na,if_neg Ad]),trivial⟩
end Go.Proofs.YtdendlkeiaccpaaGreat
