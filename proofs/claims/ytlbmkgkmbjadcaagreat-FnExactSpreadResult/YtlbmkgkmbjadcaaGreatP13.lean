/- Part 13 of the proof that each of the laws FnExactRunScriptOf, FnExactSpreadResult returns true for every input. No conditions. -/
import Derived.Test.YtlbmkgkmbjadcaaGreatP11
import Derived.Test.YtlbmkgkmbjadcaaGreatP12

set_option linter.unusedSimpArgs false
set_option linter.unusedVariables false
set_option maxRecDepth 100000
namespace Go.Proofs.YtlbmkgkmbjadcaaGreat
open Go.Sx
theorem A4.graph_le {c:A4}{n:Nat}(h:c.w≤n):c.graph.w≤n:=by simp only [A4.w] at h;omega
theorem A4.worker_le {c:A4}{n:Nat}(h:c.w≤n){k:Nat}(hk:k<c.workers.length):(c.workers.getD k default).w≤n:=by
 simp only [A4.w,wS] at h
 have hle:=Bz A6.w c.workers k hk
 omega
theorem A4.link_le {c:A4}{n:Nat}(h:c.w≤n){k:Nat}(hk:k<c.links.length):(c.links.getD k default).w≤n:=by
 simp only [A4.w,wS] at h
 have hle:=Bz As.w c.links k hk
 omega
def Jl (c:A4):Prop:=∀l∈c.links,l.got≤9223372036854775807
def Yw (c:A4) (i:Nat) (l:As):Prop:=l.cap=c.graph.cap∧Ss c.graph.nodes.length l.queue∧((i:Int).tdiv c.graph.workers=(i:Int).tmod c.graph.workers→l.queue.length=0)
instance (c:A4) (i:Nat) (l:As):Decidable (Yw c i l):=by unfold Yw;infer_instance
def La (c:A4) (i:Nat):Prop:=Gd (c.links.getD i default)∧Yw c i (c.links.getD i default)
instance (c:A4) (i:Nat):Decidable (La c i):=by unfold La;infer_instance
def Oh (n:Int) (t:Ay):Prop:=(0≤t.at_∧t.at_≤n-1)∧(t.going=false→t.at_=0)∧(-1000000≤t.sum∧t.sum≤1000000)
instance (n:Int) (t:Ay):Decidable (Oh n t):=by unfold Oh;infer_instance
def M0 (n:Int) (x:B7):Prop:=(0≤x.to_∧x.to_≤n-1)∧(0≤x.epoch∧x.epoch≤3)
instance (n:Int) (x:B7):Decidable (M0 n x):=by unfold M0;infer_instance
def Oj (c:A4):Prop:=H1 c.graph∧c.workers.length=c.graph.workers∧c.links.length=c.graph.workers * c.graph.workers∧c.tokens.length=4
instance (c:A4):Decidable (Oj c):=by unfold Oj;infer_instance
def Bg (c:A4):Prop:=Oj c∧(∀w∈c.workers,Da c.graph.nodes.length w)∧(∀i,i<c.links.length→La c i)∧(∀t∈c.tokens,Oh c.graph.workers t)∧∀x∈c.news,M0 c.graph.workers x
instance (c:A4):Decidable (Bg c):=by unfold Bg;infer_instance
def B8 (c:A4):Bool:=decide (Bg c)
theorem B5t {n:Int}(h1:1≤n)(h2:n≤4):1≤n * n∧n * n≤16:=by
 have:n=1∨n=2∨n=3∨n=4:=by omega
 rcases this with rfl|rfl|rfl|rfl<;>decide
theorem A8d {n k:Int}(hn:1≤n)(hk:0≤k):0≤k.tdiv n∧k.tdiv n≤k:=by
 obtain ⟨m,rfl⟩:=Int.eq_ofNat_of_zero_le hk
 obtain ⟨d,rfl⟩:=Int.eq_ofNat_of_zero_le (show 0≤n by omega)
 rw [←Int.ofNat_tdiv]
 exact ⟨Int.natCast_nonneg _,Int.ofNat_le.2 (Nat.div_le_self m d)⟩
set_option maxHeartbeats 2000000 in
theorem K1 (x:A4)(hx:x.w≤16777216)(hgo:Jl x):Aq Tryz.prog 136 [.agg x.c] [.one (vb (B8 x))]:=by
 have hg:=A4.graph_le hx
 have hx2:=hx
 simp only [A4.w,wS] at hx2
 refine Aj A0 false Tryz.func136 rfl Bs fun W=>?_
 conv=>whnf
 refine Ai (Ip x.graph hg) rfl (Ae ?_)
 refine ⟨fun hG=>?_,fun hG=>?_⟩<;>conv=>whnf
 ·repeat refine B9 ?_
  exact Ah A0 rfl rfl ⟨congrArg vb (decide_eq_false fun p=>by rw [show Fi x.graph=true from decide_eq_true p.1.1] at hG;exact absurd hG Bs),trivial⟩
 have hG:H1 x.graph:=of_decide_eq_true (show Fi x.graph=true by simpa using hG)
 have hn1:=hG.2.1.1
 have hn2:=hG.2.1.2
 have hnn:=B5t hn1 hn2
 repeat' (first|(refine Ki ?_;conv=>whnf)|(refine Kj ?_;conv=>whnf)|(refine ⟨fun h=>?_,fun h=>?_⟩<;>conv=>whnf)|(refine Fe ?_;conv=>whnf)|(refine Ak 13 rfl [0,1,2,3,4,5,6,7,8,9,10,11,12,13,14,15,16,17,18,19,20,21,22,23,24,25,26,27,28,29,30,31,32,33] A5 (Ae ?_))|fail)
 all_goals try (refine Ah A0 rfl rfl ⟨congrArg vb (decide_eq_false fun p=>?_),trivial⟩;obtain ⟨_,p1,p2,p3⟩:=p.1;clear p hgo hG;simp only [beq_iff_eq,beq_eq_false_iff_ne,bne_iff_ne,bne_eq_false_iff_eq,Bool.not_eq_true',Bool.not_eq_false',Go.Sx.Am,Go.Sx.Aw,decide_eq_true_eq,decide_eq_false_iff_not,ne_eq,Int.not_lt,Int.not_le,ge_iff_le,gt_iff_lt,Int.toNat_zero,Int.toNat_one,Int.toNat_natCast] at *;omega)
 have hH:Oj x:=by refine ⟨hG,?_,?_,?_⟩<;>(clear hgo hG;simp only [beq_iff_eq,beq_eq_false_iff_ne,bne_iff_ne,bne_eq_false_iff_eq,Bool.not_eq_true',Bool.not_eq_false',Go.Sx.Am,Go.Sx.Aw,decide_eq_true_eq,decide_eq_false_iff_not,ne_eq,Int.not_lt,Int.not_le,ge_iff_le,gt_iff_lt,Int.toNat_zero,Int.toNat_one,Int.toNat_natCast] at *;omega)
 rename_i a1 a2
 clear h a1 a2
 have hu:=Dd (fun i=>Da x.graph.nodes.length (x.workers.getD i default))
 refine B6 A0 false [] (fun k:Nat=>[(44,.c (vi k))]) (fun k=>[⟨0,[.c (Bb x.graph.nodes),.c (vi x.graph.workers),.c (vi x.graph.cap),.c (Ap x.workers),.c (Bu x.links),.c (Be x.tokens),.c (C3 x.news)]⟩]) (fun k=>[])
  (fun k=>k≤x.workers.length∧J2 (fun i=>Da x.graph.nodes.length (x.workers.getD i default)) k) (fun k=>x.workers.length-k) 0 ⟨Nat.zero_le _,by first|rfl|assumption|simp⟩ ⟨by first|rfl|simp [Cr,ren2,ren1,ren0],trivial⟩ Cp trivial Cc A5 (fun k hk=>?_)
 obtain ⟨hk,he⟩:=hk
 conv=>whnf
 refine F2 (fun h'=>?_) fun h'=>?_<;>conv=>whnf
 ·have h':k<x.workers.length:=by omega
  (repeat refine An ?_)
  refine Ai (Nt x.graph (x.workers.getD k default) hg (A4.worker_le hx h')) rfl (Ae ?_)
  refine ⟨fun h=>?_,fun h=>?_⟩<;>conv=>whnf
  ·exact Ah A0 rfl rfl ⟨congrArg vb (decide_eq_false fun p=>by rw [show Ib _ _=true from decide_eq_true (p.2.1 _ (B2 (d:=default) h'))] at h;exact absurd h Bs),trivial⟩
  ·(repeat refine An ?_)
   refine At [] (k+1) ⟨by omega,Dc he (of_decide_eq_true (show Ib _ _=true by simpa using h))⟩ Ad ⟨rfl,trivial⟩ trivial Cp A5 Cc A5
 have e:k=x.workers.length:=by omega
 have hW:∀w∈x.workers,Da x.graph.nodes.length w:=Gb (p:=fun w=>Da x.graph.nodes.length w) (e▸he)
 clear he hu
 have hu:=Dd (La x)
 refine B6 A0 false [] (fun k:Nat=>[(57,.c (vi k))]) (fun k=>[⟨0,[.c (Bb x.graph.nodes),.c (vi x.graph.workers),.c (vi x.graph.cap),.c (Ap x.workers),.c (Bu x.links),.c (Be x.tokens),.c (C3 x.news)]⟩]) (fun k=>[])
  (fun k=>k≤x.links.length∧J2 (La x) k) (fun k=>x.links.length-k) 0 ⟨Nat.zero_le _,by first|rfl|assumption|simp⟩ ⟨by first|rfl|simp [Cr,ren2,ren1,ren0],trivial⟩ Cp trivial Cc A5 (fun k hk=>?_)
 obtain ⟨hk,he⟩:=hk
 conv=>whnf
 refine F2 (fun h'=>?_) fun h'=>?_<;>conv=>whnf
 ·have h':k<x.links.length:=by omega
  have hq:(x.links.getD k default).queue.length≤16777216:=A4.link_le hx h'
  have hd:=A8d hn1 (show 0≤(k:Int) by omega)
  repeat' (first|(refine Ki ?_;conv=>whnf)|(refine Kj ?_;conv=>whnf)|(refine ⟨fun h=>?_,fun h=>?_⟩<;>conv=>whnf)|(refine Ai (Nr (x.links.getD k default) (A4.link_le hx h') (hgo _ (B2 h'))) rfl (Iy ?_);conv=>whnf)|(refine Ai (Py x.graph (x.links.getD k default).queue hg hq) rfl (Iy ?_);conv=>whnf)|(refine Fe ?_;conv=>whnf)|(refine Ak 13 rfl [0,1,2,3,4,5,6,7,8,9,10,11,12,13,14,15,16,17,18,19,20,21,22,23,24,25,26,27,28,29,30,31,32,33] A5 (Ae ?_))|fail)
  all_goals try (refine Ah A0 rfl rfl ⟨congrArg vb (decide_eq_false fun p=>?_),trivial⟩;obtain ⟨q1,q2,q3,q4⟩:=p.2.2.1 k h';clear p he hu hgo hG hW hH;simp only [Int.toNat_natCast,He,Qf] at *;first|(simp_all;done)|(simp_all;omega))
  all_goals
   have hs:La x k:=by
    refine ⟨of_decide_eq_true (show He _=true by simp_all),?_,of_decide_eq_true (show Qf _ _=true by simp_all),?_⟩<;>clear he hu hgo hG hW hH<;>simp only [Int.toNat_natCast] at * <;>first|(simp_all;done)|(simp_all;omega)
   refine At [] (k+1) ⟨by omega,Dc he hs⟩ Ad ⟨rfl,trivial⟩ trivial Cp A5 Cc A5
 have hK:∀i,i<x.links.length→La x i:=fun i hi=>he i Ad
 clear he hu
 have hu:=Dd (fun i=>Oh x.graph.workers (x.tokens.getD i default))
 refine B6 A0 false [] (fun k:Nat=>[(100,.c (vi k))]) (fun k=>[⟨0,[.c (Bb x.graph.nodes),.c (vi x.graph.workers),.c (vi x.graph.cap),.c (Ap x.workers),.c (Bu x.links),.c (Be x.tokens),.c (C3 x.news)]⟩]) (fun k=>[])
  (fun k=>k≤x.tokens.length∧J2 (fun i=>Oh x.graph.workers (x.tokens.getD i default)) k) (fun k=>x.tokens.length-k) 0 ⟨Nat.zero_le _,by first|rfl|assumption|simp⟩ ⟨by first|rfl|simp [Cr,ren2,ren1,ren0],trivial⟩ Cp trivial Cc A5 (fun k hk=>?_)
 obtain ⟨hk,he⟩:=hk
 conv=>whnf
 refine F2 (fun h'=>?_) fun h'=>?_<;>conv=>whnf
 ·have h':k<x.tokens.length:=by omega
  repeat' (first|(refine Ki ?_;conv=>whnf)|(refine Kj ?_;conv=>whnf)|(refine ⟨fun h=>?_,fun h=>?_⟩<;>conv=>whnf)|(refine Ai (Hj _ _ _) rfl (Ae ?_))|(refine Fe ?_;conv=>whnf)|(refine Ak 13 rfl [0,1,2,3,4,5,6,7,8,9,10,11,12,13,14,15,16,17,18,19,20,21,22,23,24,25,26,27,28,29,30,31,32,33] A5 (Ae ?_))|fail)
  all_goals try (refine Ah A0 rfl rfl ⟨congrArg vb (decide_eq_false fun p=>?_),trivial⟩;obtain ⟨q1,q2,q3⟩:=p.2.2.2.1 _ (B2 (d:=default) h');clear p he hu hgo hG hW hH hK;simp only [Int.toNat_natCast] at *;first|(simp only [beq_iff_eq,beq_eq_false_iff_ne,bne_iff_ne,bne_eq_false_iff_eq,Bool.not_eq_true',Bool.not_eq_false',Go.Sx.Am,Go.Sx.Aw,decide_eq_true_eq,decide_eq_false_iff_not,ne_eq,Int.not_lt,Int.not_le,ge_iff_le,gt_iff_lt,Int.toNat_zero,Int.toNat_one,Int.toNat_natCast] at *;omega)|(simp only [beq_iff_eq,beq_eq_false_iff_ne,bne_iff_ne,bne_eq_false_iff_eq,Bool.not_eq_true',Bool.not_eq_false',Go.Sx.Am,Go.Sx.Aw,decide_eq_true_eq,decide_eq_false_iff_not,ne_eq,Int.not_lt,Int.not_le,ge_iff_le,gt_iff_lt,Int.toNat_zero,Int.toNat_one,Int.toNat_natCast] at *;simp_all;done)|(simp_all;done))
  all_goals
   have hs:Oh x.graph.workers (x.tokens.getD k default):=by
    refine ⟨?_,?_,?_⟩<;>clear he hu hgo hG hW hH hK<;>simp only [Int.toNat_natCast] at * <;>first|(simp only [beq_iff_eq,beq_eq_false_iff_ne,bne_iff_ne,bne_eq_false_iff_eq,Bool.not_eq_true',Bool.not_eq_false',Go.Sx.Am,Go.Sx.Aw,decide_eq_true_eq,decide_eq_false_iff_not,ne_eq,Int.not_lt,Int.not_le,ge_iff_le,gt_iff_lt,Int.toNat_zero,Int.toNat_one,Int.toNat_natCast] at *;omega)|(simp only [beq_iff_eq,beq_eq_false_iff_ne,bne_iff_ne,bne_eq_false_iff_eq,Bool.not_eq_true',Bool.not_eq_false',Go.Sx.Am,Go.Sx.Aw,decide_eq_true_eq,decide_eq_false_iff_not,ne_eq,Int.not_lt,Int.not_le,ge_iff_le,gt_iff_lt,Int.toNat_zero,Int.toNat_one,Int.toNat_natCast] at *;simp_all;done)|(simp_all;done)
   refine At [] (k+1) ⟨by omega,Dc he hs⟩ Ad ⟨rfl,trivial⟩ trivial Cp A5 Cc A5
 have e:k=x.tokens.length:=by omega
 have hT:∀t∈x.tokens,Oh x.graph.workers t:=Gb (p:=Oh x.graph.workers) (e▸he)
 clear he hu
 have hu:=Dd (fun i=>M0 x.graph.workers (x.news.getD i default))
 refine B6 A0 false [] (fun k:Nat=>[(130,.c (vi k))]) (fun k=>[⟨0,[.c (Bb x.graph.nodes),.c (vi x.graph.workers),.c (vi x.graph.cap),.c (Ap x.workers),.c (Bu x.links),.c (Be x.tokens),.c (C3 x.news)]⟩]) (fun k=>[])
  (fun k=>k≤x.news.length∧J2 (fun i=>M0 x.graph.workers (x.news.getD i default)) k) (fun k=>x.news.length-k) 0 ⟨Nat.zero_le _,by first|rfl|assumption|simp⟩ ⟨by first|rfl|simp [Cr,ren2,ren1,ren0],trivial⟩ Cp trivial Cc A5 (fun k hk=>?_)
 obtain ⟨hk,he⟩:=hk
 conv=>whnf
 refine F2 (fun h'=>?_) fun h'=>?_<;>conv=>whnf
 ·have h':k<x.news.length:=by omega
  repeat' (first|(refine Ki ?_;conv=>whnf)|(refine Kj ?_;conv=>whnf)|(refine ⟨fun h=>?_,fun h=>?_⟩<;>conv=>whnf)|(refine Ai (Hj _ _ _) rfl (Ae ?_))|(refine Fe ?_;conv=>whnf)|(refine Ak 13 rfl [0,1,2,3,4,5,6,7,8,9,10,11,12,13,14,15,16,17,18,19,20,21,22,23,24,25,26,27,28,29,30,31,32,33] A5 (Ae ?_))|fail)
  all_goals try (refine Ah A0 rfl rfl ⟨congrArg vb (decide_eq_false fun p=>?_),trivial⟩;obtain ⟨q1,q2⟩:=p.2.2.2.2 _ (B2 (d:=default) h');clear p he hu hgo hG hW hH hK hT;simp only [beq_iff_eq,beq_eq_false_iff_ne,bne_iff_ne,bne_eq_false_iff_eq,Bool.not_eq_true',Bool.not_eq_false',Go.Sx.Am,Go.Sx.Aw,decide_eq_true_eq,decide_eq_false_iff_not,ne_eq,Int.not_lt,Int.not_le,ge_iff_le,gt_iff_lt,Int.toNat_zero,Int.toNat_one,Int.toNat_natCast] at *;omega)
  all_goals
   have hs:M0 x.graph.workers (x.news.getD k default):=by
    refine ⟨?_,?_⟩<;>clear he hu hgo hG hW hH hK hT<;>(simp only [beq_iff_eq,beq_eq_false_iff_ne,bne_iff_ne,bne_eq_false_iff_eq,Bool.not_eq_true',Bool.not_eq_false',Go.Sx.Am,Go.Sx.Aw,decide_eq_true_eq,decide_eq_false_iff_not,ne_eq,Int.not_lt,Int.not_le,ge_iff_le,gt_iff_lt,Int.toNat_zero,Int.toNat_one,Int.toNat_natCast] at *;omega)
   refine At [] (k+1) ⟨by omega,Dc he hs⟩ Ad ⟨rfl,trivial⟩ trivial Cp A5 Cc A5
 have e:k=x.news.length:=by omega
 have hN:∀t∈x.news,M0 x.graph.workers t:=Gb (p:=M0 x.graph.workers) (e▸he)
 exact Ah A0 rfl rfl ⟨congrArg vb (decide_eq_true ⟨hH,hW,hK,hT,hN⟩),trivial⟩
set_option maxHeartbeats 2000000 in
theorem Ym (x:A4)(hx:x.w≤16777216):Aq Tryz.prog 143 [.agg x.c] [.one (vb (B8 x))]:=by
 have hg:=A4.graph_le hx
 have hx2:=hx
 simp only [A4.w,wS] at hx2
 refine Aj A0 false Tryz.func143 rfl Bs fun W=>?_
 conv=>whnf
 refine Ai (Mh x.graph hg) rfl (Ae ?_)
 refine ⟨fun hG=>?_,fun hG=>?_⟩<;>conv=>whnf
 ·repeat refine B9 ?_
  exact Ah A0 rfl rfl ⟨congrArg vb (decide_eq_false fun p=>by rw [show Fi x.graph=true from decide_eq_true p.1.1] at hG;exact absurd hG Bs),trivial⟩
 have hG:H1 x.graph:=of_decide_eq_true (show Fi x.graph=true by simpa using hG)
 have hn1:=hG.2.1.1
 have hn2:=hG.2.1.2
 have hnn:=B5t hn1 hn2
 repeat' (first|(refine Ki ?_;conv=>whnf)|(refine Kj ?_;conv=>whnf)|(refine ⟨fun h=>?_,fun h=>?_⟩<;>conv=>whnf)|(refine Fe ?_;conv=>whnf)|(refine Ak 7 rfl [0,1,2,3,4,5,6,7,8] A5 (Ae ?_))|(refine Ak 13 rfl [0,1,2,3,4,5,6,7,8,9,10,11,12,13,14,15,16,17,18,19,20,21,22,23,24,25,26,27,28,29,30,31,32,33] A5 (Ae ?_))|fail)
 all_goals try (refine Ah A0 rfl rfl ⟨congrArg vb (decide_eq_false fun p=>?_),trivial⟩;obtain ⟨_,p1,p2,p3⟩:=p.1;clear p hG;simp only [beq_iff_eq,beq_eq_false_iff_ne,bne_iff_ne,bne_eq_false_iff_eq,Bool.not_eq_true',Bool.not_eq_false',Go.Sx.Am,Go.Sx.Aw,decide_eq_true_eq,decide_eq_false_iff_not,ne_eq,Int.not_lt,Int.not_le,ge_iff_le,gt_iff_lt,Int.toNat_zero,Int.toNat_one,Int.toNat_natCast] at *;omega)
 have hH:Oj x:=by refine ⟨hG,?_,?_,?_⟩<;>(clear hG;simp only [beq_iff_eq,beq_eq_false_iff_ne,bne_iff_ne,bne_eq_false_iff_eq,Bool.not_eq_true',Bool.not_eq_false',Go.Sx.Am,Go.Sx.Aw,decide_eq_true_eq,decide_eq_false_iff_not,ne_eq,Int.not_lt,Int.not_le,ge_iff_le,gt_iff_lt,Int.toNat_zero,Int.toNat_one,Int.toNat_natCast] at *;omega)
 rename_i a1 a2
 clear h a1 a2
 have hu:=Dd (fun i=>Da x.graph.nodes.length (x.workers.getD i default))
 refine B6 A0 false [] (fun k:Nat=>[(4,.c (vi k))]) (fun k=>[⟨0,[.c (Bb x.graph.nodes),.c (vi x.graph.workers),.c (vi x.graph.cap),.c (Ap x.workers),.c (Bu x.links),.c (Be x.tokens),.c (C3 x.news)]⟩]) (fun k=>[])
  (fun k=>k≤x.workers.length∧J2 (fun i=>Da x.graph.nodes.length (x.workers.getD i default)) k) (fun k=>x.workers.length-k) 0 ⟨Nat.zero_le _,by first|rfl|assumption|simp⟩ ⟨by first|rfl|simp [Cr,ren2,ren1,ren0],trivial⟩ Cp trivial Cc A5 (fun k hk=>?_)
 obtain ⟨hk,he⟩:=hk
 conv=>whnf
 have hwl:=hH.2.1
 refine F2 (fun h'=>?_) fun h'=>?_<;>conv=>whnf
 ·have h':k<x.workers.length:=by omega
  (repeat refine An ?_)
  first|(refine Ak 7 rfl [0,1,2,3,4,5,6,7,8] A5 (Ae ?_))|(refine Ak 13 rfl [0,1,2,3,4,5,6,7,8,9,10,11,12,13,14,15,16,17,18,19,20,21,22,23,24,25,26,27,28,29,30,31,32,33] A5 (Ae ?_))
  (repeat refine An ?_)
  refine Ai (A1y x.graph (x.workers.getD k default) hg (A4.worker_le hx h')) rfl (Ae ?_)
  refine ⟨fun h=>?_,fun h=>?_⟩<;>conv=>whnf
  ·exact Ah A0 rfl rfl ⟨congrArg vb (decide_eq_false fun p=>by rw [show Ib _ _=true from decide_eq_true (p.2.1 _ (B2 (d:=default) h'))] at h;exact absurd h Bs),trivial⟩
  ·(repeat refine An ?_)
   refine At [] (k+1) ⟨by omega,Dc he (of_decide_eq_true (show Ib _ _=true by simpa using h))⟩ Ad ⟨rfl,trivial⟩ trivial Cp A5 Cc A5
 have e:k=x.workers.length:=by omega
 have hW:∀w∈x.workers,Da x.graph.nodes.length w:=Gb (p:=fun w=>Da x.graph.nodes.length w) (e▸he)
 clear he hu
 have hu:=Dd (La x)
 refine B6 A0 false [] (fun k:Nat=>[(5,.c (vi k))]) (fun k=>[⟨0,[.c (Bb x.graph.nodes),.c (vi x.graph.workers),.c (vi x.graph.cap),.c (Ap x.workers),.c (Bu x.links),.c (Be x.tokens),.c (C3 x.news)]⟩]) (fun k=>[])
  (fun k=>k≤x.links.length∧J2 (La x) k) (fun k=>x.links.length-k) 0 ⟨Nat.zero_le _,by first|rfl|assumption|simp⟩ ⟨by first|rfl|simp [Cr,ren2,ren1,ren0],trivial⟩ Cp trivial Cc A5 (fun k hk=>?_)
 obtain ⟨hk,he⟩:=hk
 conv=>whnf
 refine F2 (fun h'=>?_) fun h'=>?_<;>conv=>whnf
 ·have h':k<x.links.length:=by omega
  have hq:(x.links.getD k default).queue.length≤16777216:=A4.link_le hx h'
  have hd:=A8d hn1 (show 0≤(k:Int) by omega)
  repeat' (first|(refine Ki ?_;conv=>whnf)|(refine Kj ?_;conv=>whnf)|(refine ⟨fun h=>?_,fun h=>?_⟩<;>conv=>whnf)|(refine Ai (O4 (x.links.getD k default) (A4.link_le hx h')) rfl (Iy ?_);conv=>whnf)|(refine Ai (Q3 x.graph (x.links.getD k default).queue hg hq) rfl (Iy ?_);conv=>whnf)|(refine Fe ?_;conv=>whnf)|(refine Ak 7 rfl [0,1,2,3,4,5,6,7,8] A5 (Ae ?_))|(refine Ak 13 rfl [0,1,2,3,4,5,6,7,8,9,10,11,12,13,14,15,16,17,18,19,20,21,22,23,24,25,26,27,28,29,30,31,32,33] A5 (Ae ?_))|fail)
  all_goals try (refine Ah A0 rfl rfl ⟨congrArg vb (decide_eq_false fun p=>?_),trivial⟩;obtain ⟨q1,q2,q3,q4⟩:=p.2.2.1 k h';clear p he hu hG hW hH;simp only [Int.toNat_natCast,He,Qf] at *;first|(simp_all;done)|(simp_all;omega))
  all_goals
   have hs:La x k:=by
    refine ⟨of_decide_eq_true (show He _=true by simp_all),?_,of_decide_eq_true (show Qf _ _=true by simp_all),?_⟩<;>clear he hu hG hW hH<;>simp only [Int.toNat_natCast] at * <;>first|(simp_all;done)|(simp_all;omega)
   refine At [] (k+1) ⟨by omega,Dc he hs⟩ Ad ⟨rfl,trivial⟩ trivial Cp A5 Cc A5
 have hK:∀i,i<x.links.length→La x i:=fun i hi=>he i Ad
 clear he hu
 have hu:=Dd (fun i=>Oh x.graph.workers (x.tokens.getD i default))
 refine B6 A0 false [] (fun k:Nat=>[(7,.c (vi k))]) (fun k=>[⟨0,[.c (Bb x.graph.nodes),.c (vi x.graph.workers),.c (vi x.graph.cap),.c (Ap x.workers),.c (Bu x.links),.c (Be x.tokens),.c (C3 x.news)]⟩]) (fun k=>[])
  (fun k=>k≤x.tokens.length∧J2 (fun i=>Oh x.graph.workers (x.tokens.getD i default)) k) (fun k=>x.tokens.length-k) 0 ⟨Nat.zero_le _,by first|rfl|assumption|simp⟩ ⟨by first|rfl|simp [Cr,ren2,ren1,ren0],trivial⟩ Cp trivial Cc A5 (fun k hk=>?_)
 obtain ⟨hk,he⟩:=hk
 conv=>whnf
 refine F2 (fun h'=>?_) fun h'=>?_<;>conv=>whnf
 ·have h':k<x.tokens.length:=by omega
  repeat' (first|(refine Ki ?_;conv=>whnf)|(refine Kj ?_;conv=>whnf)|(refine ⟨fun h=>?_,fun h=>?_⟩<;>conv=>whnf)|(refine Ai (Gv _ _ _) rfl (Ae ?_))|(refine Fe ?_;conv=>whnf)|(refine Ak 7 rfl [0,1,2,3,4,5,6,7,8] A5 (Ae ?_))|(refine Ak 13 rfl [0,1,2,3,4,5,6,7,8,9,10,11,12,13,14,15,16,17,18,19,20,21,22,23,24,25,26,27,28,29,30,31,32,33] A5 (Ae ?_))|fail)
  all_goals try (refine Ah A0 rfl rfl ⟨congrArg vb (decide_eq_false fun p=>?_),trivial⟩;obtain ⟨q1,q2,q3⟩:=p.2.2.2.1 _ (B2 (d:=default) h');clear p he hu hG hW hH hK;simp only [Int.toNat_natCast] at *;first|(simp only [beq_iff_eq,beq_eq_false_iff_ne,bne_iff_ne,bne_eq_false_iff_eq,Bool.not_eq_true',Bool.not_eq_false',Go.Sx.Am,Go.Sx.Aw,decide_eq_true_eq,decide_eq_false_iff_not,ne_eq,Int.not_lt,Int.not_le,ge_iff_le,gt_iff_lt,Int.toNat_zero,Int.toNat_one,Int.toNat_natCast] at *;omega)|(simp only [beq_iff_eq,beq_eq_false_iff_ne,bne_iff_ne,bne_eq_false_iff_eq,Bool.not_eq_true',Bool.not_eq_false',Go.Sx.Am,Go.Sx.Aw,decide_eq_true_eq,decide_eq_false_iff_not,ne_eq,Int.not_lt,Int.not_le,ge_iff_le,gt_iff_lt,Int.toNat_zero,Int.toNat_one,Int.toNat_natCast] at *;simp_all;done)|(simp_all;done))
  all_goals
   have hs:Oh x.graph.workers (x.tokens.getD k default):=by
    refine ⟨?_,?_,?_⟩<;>clear he hu hG hW hH hK<;>simp only [Int.toNat_natCast] at * <;>first|(simp only [beq_iff_eq,beq_eq_false_iff_ne,bne_iff_ne,bne_eq_false_iff_eq,Bool.not_eq_true',Bool.not_eq_false',Go.Sx.Am,Go.Sx.Aw,decide_eq_true_eq,decide_eq_false_iff_not,ne_eq,Int.not_lt,Int.not_le,ge_iff_le,gt_iff_lt,Int.toNat_zero,Int.toNat_one,Int.toNat_natCast] at *;omega)|(simp only [beq_iff_eq,beq_eq_false_iff_ne,bne_iff_ne,bne_eq_false_iff_eq,Bool.not_eq_true',Bool.not_eq_false',Go.Sx.Am,Go.Sx.Aw,decide_eq_true_eq,decide_eq_false_iff_not,ne_eq,Int.not_lt,Int.not_le,ge_iff_le,gt_iff_lt,Int.toNat_zero,Int.toNat_one,Int.toNat_natCast] at *;simp_all;done)|(simp_all;done)
   refine At [] (k+1) ⟨by omega,Dc he hs⟩ Ad ⟨rfl,trivial⟩ trivial Cp A5 Cc A5
 have e:k=x.tokens.length:=by omega
 have hT:∀t∈x.tokens,Oh x.graph.workers t:=Gb (p:=Oh x.graph.workers) (e▸he)
 clear he hu
 have hu:=Dd (fun i=>M0 x.graph.workers (x.news.getD i default))
 refine B6 A0 false [] (fun k:Nat=>[(8,.c (vi k))]) (fun k=>[⟨0,[.c (Bb x.graph.nodes),.c (vi x.graph.workers),.c (vi x.graph.cap),.c (Ap x.workers),.c (Bu x.links),.c (Be x.tokens),.c (C3 x.news)]⟩]) (fun k=>[])
  (fun k=>k≤x.news.length∧J2 (fun i=>M0 x.graph.workers (x.news.getD i default)) k) (fun k=>x.news.length-k) 0 ⟨Nat.zero_le _,by first|rfl|assumption|simp⟩ ⟨by first|rfl|simp [Cr,ren2,ren1,ren0],trivial⟩ Cp trivial Cc A5 (fun k hk=>?_)
 obtain ⟨hk,he⟩:=hk
 conv=>whnf
 refine F2 (fun h'=>?_) fun h'=>?_<;>conv=>whnf
 ·have h':k<x.news.length:=by omega
  repeat' (first|(refine Ki ?_;conv=>whnf)|(refine Kj ?_;conv=>whnf)|(refine ⟨fun h=>?_,fun h=>?_⟩<;>conv=>whnf)|(refine Ai (Gv _ _ _) rfl (Ae ?_))|(refine Fe ?_;conv=>whnf)|(refine Ak 7 rfl [0,1,2,3,4,5,6,7,8] A5 (Ae ?_))|(refine Ak 13 rfl [0,1,2,3,4,5,6,7,8,9,10,11,12,13,14,15,16,17,18,19,20,21,22,23,24,25,26,27,28,29,30,31,32,33] A5 (Ae ?_))|fail)
  all_goals try (refine Ah A0 rfl rfl ⟨congrArg vb (decide_eq_false fun p=>?_),trivial⟩;obtain ⟨q1,q2⟩:=p.2.2.2.2 _ (B2 (d:=default) h');clear p he hu hG hW hH hK hT;simp only [beq_iff_eq,beq_eq_false_iff_ne,bne_iff_ne,bne_eq_false_iff_eq,Bool.not_eq_true',Bool.not_eq_false',Go.Sx.Am,Go.Sx.Aw,decide_eq_true_eq,decide_eq_false_iff_not,ne_eq,Int.not_lt,Int.not_le,ge_iff_le,gt_iff_lt,Int.toNat_zero,Int.toNat_one,Int.toNat_natCast] at *;omega)
  all_goals
   have hs:M0 x.graph.workers (x.news.getD k default):=by
    refine ⟨?_,?_⟩<;>clear he hu hG hW hH hK hT<;>(simp only [beq_iff_eq,beq_eq_false_iff_ne,bne_iff_ne,bne_eq_false_iff_eq,Bool.not_eq_true',Bool.not_eq_false',Go.Sx.Am,Go.Sx.Aw,decide_eq_true_eq,decide_eq_false_iff_not,ne_eq,Int.not_lt,Int.not_le,ge_iff_le,gt_iff_lt,Int.toNat_zero,Int.toNat_one,Int.toNat_natCast] at *;omega)
   refine At [] (k+1) ⟨by omega,Dc he hs⟩ Ad ⟨rfl,trivial⟩ trivial Cp A5 Cc A5
 have e:k=x.news.length:=by omega
 have hN:∀t∈x.news,M0 x.graph.workers t:=Gb (p:=M0 x.graph.workers) (e▸he)
 exact Ah A0 rfl rfl ⟨congrArg vb (decide_eq_true ⟨hH,hW,hK,hT,hN⟩),trivial⟩
end Go.Proofs.YtlbmkgkmbjadcaaGreat
