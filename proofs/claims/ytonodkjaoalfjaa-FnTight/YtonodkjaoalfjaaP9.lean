/- Part 9 of the proof that each of the laws FnTight returns true for every input. No conditions. -/
import Derived.Test.YtonodkjaoalfjaaP8
import Derived.Test.YtonodkjaoalfjaaP4
import Derived.Test.YtonodkjaoalfjaaP6

set_option linter.unusedSimpArgs false
set_option linter.unusedVariables false
set_option maxRecDepth 100000
namespace Go.Proofs.Ytonodkjaoalfjaa
open Go.Sx
theorem A3.graph_le {c:A3}{n:Nat}(h:c.w≤n):c.graph.w≤n:=by simp only [A3.w] at h;omega
theorem A3.worker_le {c:A3}{n:Nat}(h:c.w≤n){k:Nat}(hk:k<c.workers.length):(c.workers.getD k default).w≤n:=by
 simp only [A3.w,wS] at h
 have hle:=Fm Ad.w c.workers k hk
 omega
theorem A3.link_le {c:A3}{n:Nat}(h:c.w≤n){k:Nat}(hk:k<c.links.length):(c.links.getD k default).w≤n:=by
 simp only [A3.w,wS] at h
 have hle:=Fm C0.w c.links k hk
 omega
def Se (c:A3) (i:Nat) (l:C0):Prop:=l.cap=c.graph.cap∧Nk c.graph.nodes.length l.queue∧((i:Int).tdiv c.graph.workers=(i:Int).tmod c.graph.workers→l.queue.length=0)
instance (c:A3) (i:Nat) (l:C0):Decidable (Se c i l):=by unfold Se;infer_instance
def Lr (c:A3) (i:Nat):Prop:=Fc (c.links.getD i default)∧Se c i (c.links.getD i default)
instance (c:A3) (i:Nat):Decidable (Lr c i):=by unfold Lr;infer_instance
def Nl (n:Int) (t:Dw):Prop:=(0≤t.at_∧t.at_≤n-1)∧(t.going=false→t.at_=0)∧(-1000000≤t.sum∧t.sum≤1000000)
instance (n:Int) (t:Dw):Decidable (Nl n t):=by unfold Nl;infer_instance
def Me (n:Int) (x:Ez):Prop:=(0≤x.to_∧x.to_≤n-1)∧(0≤x.epoch∧x.epoch≤3)
instance (n:Int) (x:Ez):Decidable (Me n x):=by unfold Me;infer_instance
def Md (c:A3):Prop:=Fh c.graph∧c.workers.length=c.graph.workers∧c.links.length=c.graph.workers * c.graph.workers∧c.tokens.length=4
instance (c:A3):Decidable (Md c):=by unfold Md;infer_instance
def Ar (c:A3):Prop:=Md c∧(∀w∈c.workers,Cf c.graph.nodes.length w)∧(∀i,i<c.links.length→Lr c i)∧(∀t∈c.tokens,Nl c.graph.workers t)∧∀x∈c.news,Me c.graph.workers x
instance (c:A3):Decidable (Ar c):=by unfold Ar;infer_instance
def Aq (c:A3):Bool:=decide (Ar c)
theorem A7k {n:Int}(h1:1≤n)(h2:n≤4):1≤n * n∧n * n≤16:=by
 have:n=1∨n=2∨n=3∨n=4:=by omega
 rcases this with rfl|rfl|rfl|rfl<;>decide
theorem A5w {n k:Int}(hn:1≤n)(hk:0≤k):0≤k.tdiv n∧k.tdiv n≤k:=by
 obtain ⟨m,rfl⟩:=Int.eq_ofNat_of_zero_le hk
 obtain ⟨d,rfl⟩:=Int.eq_ofNat_of_zero_le (show 0≤n by omega)
 rw [←Int.ofNat_tdiv]
 exact ⟨Int.natCast_nonneg _,Int.ofNat_le.2 (Nat.div_le_self m d)⟩
set_option maxHeartbeats 2000000 in
theorem S5 (x:A3)(hx:x.w≤16777216):Bp Try.prog 54 [.agg x.c] [.one (vb (Aq x))]:=by
 have hg:=A3.graph_le hx
 have hx2:=hx
 simp only [A3.w,wS] at hx2
 refine Bm A0 false Try.func54 rfl Cb fun W=>?_
 conv=>whnf
 refine B7 (Is x.graph hg) rfl (Af ?_)
 refine ⟨fun hG=>?_,fun hG=>?_⟩<;>conv=>whnf
 ·repeat refine Bg ?_
  exact B1 A0 rfl rfl ⟨congrArg vb (decide_eq_false fun p=>by rw [show Jq x.graph=true from decide_eq_true p.1.1] at hG;exact absurd hG Cb),trivial⟩
 have hG:Fh x.graph:=of_decide_eq_true (show Jq x.graph=true by simpa using hG)
 have hn1:=hG.2.1.1
 have hn2:=hG.2.1.2
 have hnn:=A7k hn1 hn2
 repeat' (first|(refine L9 ?_;conv=>whnf)|(refine La ?_;conv=>whnf)|(refine ⟨fun h=>?_,fun h=>?_⟩<;>conv=>whnf)|(refine Hf ?_;conv=>whnf)|(refine At 7 rfl [0,1,2,3,4,5,6,7,8] A6 (Af ?_))|(refine At 13 rfl [0,1,2,3,4,5,6,7,8,9,10,11,12,13,14,15,16,17,18,19,20,21,22,23,24,25,26,27,28,29,30,31,32,33] A6 (Af ?_))|fail)
 all_goals try (refine B1 A0 rfl rfl ⟨congrArg vb (decide_eq_false fun p=>?_),trivial⟩;obtain ⟨_,p1,p2,p3⟩:=p.1;clear p hG;simp only [beq_iff_eq,beq_eq_false_iff_ne,bne_iff_ne,bne_eq_false_iff_eq,Bool.not_eq_true',Bool.not_eq_false',Go.Sx.Al,Go.Sx.B3,decide_eq_true_eq,decide_eq_false_iff_not,ne_eq,Int.not_lt,Int.not_le,ge_iff_le,gt_iff_lt,Int.toNat_zero,Int.toNat_one,Int.toNat_natCast] at *;omega)
 have hH:Md x:=by refine ⟨hG,?_,?_,?_⟩<;>(clear hG;simp only [beq_iff_eq,beq_eq_false_iff_ne,bne_iff_ne,bne_eq_false_iff_eq,Bool.not_eq_true',Bool.not_eq_false',Go.Sx.Al,Go.Sx.B3,decide_eq_true_eq,decide_eq_false_iff_not,ne_eq,Int.not_lt,Int.not_le,ge_iff_le,gt_iff_lt,Int.toNat_zero,Int.toNat_one,Int.toNat_natCast] at *;omega)
 rename_i a1 a2
 clear h a1 a2
 have hu:=E8 (fun i=>Cf x.graph.nodes.length (x.workers.getD i default))
 refine Cc A0 false [] (fun k:Nat=>[(4,.c (vi k))]) (fun k=>[⟨0,[.c (Bt x.graph.nodes),.c (vi x.graph.workers),.c (vi x.graph.cap),.c (Ap x.workers),.c (D7 x.links),.c (Cl x.tokens),.c (D0 x.news)]⟩]) (fun k=>[])
  (fun k=>k≤x.workers.length∧Kd (fun i=>Cf x.graph.nodes.length (x.workers.getD i default)) k) (fun k=>x.workers.length-k) 0 ⟨Nat.zero_le _,by first|rfl|assumption|simp⟩ ⟨by first|rfl|simp [Dc,ren2,ren1,ren0],trivial⟩ D8 trivial Dg A6 (fun k hk=>?_)
 obtain ⟨hk,he⟩:=hk
 conv=>whnf
 have hwl:=hH.2.1
 refine G2 (fun h'=>?_) fun h'=>?_<;>conv=>whnf
 ·have h':k<x.workers.length:=by omega
  (repeat refine Ak ?_)
  first|(refine At 7 rfl [0,1,2,3,4,5,6,7,8] A6 (Af ?_))|(refine At 13 rfl [0,1,2,3,4,5,6,7,8,9,10,11,12,13,14,15,16,17,18,19,20,21,22,23,24,25,26,27,28,29,30,31,32,33] A6 (Af ?_))
  (repeat refine Ak ?_)
  refine B7 (Ue x.graph (x.workers.getD k default) hg (A3.worker_le hx h')) rfl (Af ?_)
  refine ⟨fun h=>?_,fun h=>?_⟩<;>conv=>whnf
  ·exact B1 A0 rfl rfl ⟨congrArg vb (decide_eq_false fun p=>by rw [show Ro _ _=true from decide_eq_true (p.2.1 _ (B9 (d:=default) h'))] at h;exact absurd h Cb),trivial⟩
  ·(repeat refine Ak ?_)
   refine B8 [] (k+1) ⟨by omega,E7 he (of_decide_eq_true (show Ro _ _=true by simpa using h))⟩ Ag ⟨rfl,trivial⟩ trivial D8 A6 Dg A6
 have e:k=x.workers.length:=by omega
 have hW:∀w∈x.workers,Cf x.graph.nodes.length w:=I9 (p:=fun w=>Cf x.graph.nodes.length w) (e▸he)
 clear he hu
 have hu:=E8 (Lr x)
 refine Cc A0 false [] (fun k:Nat=>[(5,.c (vi k))]) (fun k=>[⟨0,[.c (Bt x.graph.nodes),.c (vi x.graph.workers),.c (vi x.graph.cap),.c (Ap x.workers),.c (D7 x.links),.c (Cl x.tokens),.c (D0 x.news)]⟩]) (fun k=>[])
  (fun k=>k≤x.links.length∧Kd (Lr x) k) (fun k=>x.links.length-k) 0 ⟨Nat.zero_le _,by first|rfl|assumption|simp⟩ ⟨by first|rfl|simp [Dc,ren2,ren1,ren0],trivial⟩ D8 trivial Dg A6 (fun k hk=>?_)
 obtain ⟨hk,he⟩:=hk
 conv=>whnf
 refine G2 (fun h'=>?_) fun h'=>?_<;>conv=>whnf
 ·have h':k<x.links.length:=by omega
  have hq:(x.links.getD k default).queue.length≤16777216:=A3.link_le hx h'
  have hd:=A5w hn1 (show 0≤(k:Int) by omega)
  repeat' (first|(refine L9 ?_;conv=>whnf)|(refine La ?_;conv=>whnf)|(refine ⟨fun h=>?_,fun h=>?_⟩<;>conv=>whnf)|(refine B7 (Jx (x.links.getD k default) (A3.link_le hx h')) rfl (J4 ?_);conv=>whnf)|(refine B7 (L8 x.graph (x.links.getD k default).queue hg hq) rfl (J4 ?_);conv=>whnf)|(refine Hf ?_;conv=>whnf)|(refine At 7 rfl [0,1,2,3,4,5,6,7,8] A6 (Af ?_))|(refine At 13 rfl [0,1,2,3,4,5,6,7,8,9,10,11,12,13,14,15,16,17,18,19,20,21,22,23,24,25,26,27,28,29,30,31,32,33] A6 (Af ?_))|fail)
  all_goals try (refine B1 A0 rfl rfl ⟨congrArg vb (decide_eq_false fun p=>?_),trivial⟩;obtain ⟨q1,q2,q3,q4⟩:=p.2.2.1 k h';clear p he hu hG hW hH;simp only [Int.toNat_natCast,Jr,Vh] at *;first|(simp_all;done)|(simp_all;omega))
  all_goals
   have hs:Lr x k:=by
    refine ⟨of_decide_eq_true (show Jr _=true by simp_all),?_,of_decide_eq_true (show Vh _ _=true by simp_all),?_⟩<;>clear he hu hG hW hH<;>simp only [Int.toNat_natCast] at * <;>first|(simp_all;done)|(simp_all;omega)
   refine B8 [] (k+1) ⟨by omega,E7 he hs⟩ Ag ⟨rfl,trivial⟩ trivial D8 A6 Dg A6
 have hK:∀i,i<x.links.length→Lr x i:=fun i hi=>he i Ag
 clear he hu
 have hu:=E8 (fun i=>Nl x.graph.workers (x.tokens.getD i default))
 refine Cc A0 false [] (fun k:Nat=>[(7,.c (vi k))]) (fun k=>[⟨0,[.c (Bt x.graph.nodes),.c (vi x.graph.workers),.c (vi x.graph.cap),.c (Ap x.workers),.c (D7 x.links),.c (Cl x.tokens),.c (D0 x.news)]⟩]) (fun k=>[])
  (fun k=>k≤x.tokens.length∧Kd (fun i=>Nl x.graph.workers (x.tokens.getD i default)) k) (fun k=>x.tokens.length-k) 0 ⟨Nat.zero_le _,by first|rfl|assumption|simp⟩ ⟨by first|rfl|simp [Dc,ren2,ren1,ren0],trivial⟩ D8 trivial Dg A6 (fun k hk=>?_)
 obtain ⟨hk,he⟩:=hk
 conv=>whnf
 refine G2 (fun h'=>?_) fun h'=>?_<;>conv=>whnf
 ·have h':k<x.tokens.length:=by omega
  repeat' (first|(refine L9 ?_;conv=>whnf)|(refine La ?_;conv=>whnf)|(refine ⟨fun h=>?_,fun h=>?_⟩<;>conv=>whnf)|(refine B7 (Er _ _ _) rfl (Af ?_))|(refine Hf ?_;conv=>whnf)|(refine At 7 rfl [0,1,2,3,4,5,6,7,8] A6 (Af ?_))|(refine At 13 rfl [0,1,2,3,4,5,6,7,8,9,10,11,12,13,14,15,16,17,18,19,20,21,22,23,24,25,26,27,28,29,30,31,32,33] A6 (Af ?_))|fail)
  all_goals try (refine B1 A0 rfl rfl ⟨congrArg vb (decide_eq_false fun p=>?_),trivial⟩;obtain ⟨q1,q2,q3⟩:=p.2.2.2.1 _ (B9 (d:=default) h');clear p he hu hG hW hH hK;simp only [Int.toNat_natCast] at *;first|(simp only [beq_iff_eq,beq_eq_false_iff_ne,bne_iff_ne,bne_eq_false_iff_eq,Bool.not_eq_true',Bool.not_eq_false',Go.Sx.Al,Go.Sx.B3,decide_eq_true_eq,decide_eq_false_iff_not,ne_eq,Int.not_lt,Int.not_le,ge_iff_le,gt_iff_lt,Int.toNat_zero,Int.toNat_one,Int.toNat_natCast] at *;omega)|(simp only [beq_iff_eq,beq_eq_false_iff_ne,bne_iff_ne,bne_eq_false_iff_eq,Bool.not_eq_true',Bool.not_eq_false',Go.Sx.Al,Go.Sx.B3,decide_eq_true_eq,decide_eq_false_iff_not,ne_eq,Int.not_lt,Int.not_le,ge_iff_le,gt_iff_lt,Int.toNat_zero,Int.toNat_one,Int.toNat_natCast] at *;simp_all;done)|(simp_all;done))
  all_goals
   have hs:Nl x.graph.workers (x.tokens.getD k default):=by
    refine ⟨?_,?_,?_⟩<;>clear he hu hG hW hH hK<;>simp only [Int.toNat_natCast] at * <;>first|(simp only [beq_iff_eq,beq_eq_false_iff_ne,bne_iff_ne,bne_eq_false_iff_eq,Bool.not_eq_true',Bool.not_eq_false',Go.Sx.Al,Go.Sx.B3,decide_eq_true_eq,decide_eq_false_iff_not,ne_eq,Int.not_lt,Int.not_le,ge_iff_le,gt_iff_lt,Int.toNat_zero,Int.toNat_one,Int.toNat_natCast] at *;omega)|(simp only [beq_iff_eq,beq_eq_false_iff_ne,bne_iff_ne,bne_eq_false_iff_eq,Bool.not_eq_true',Bool.not_eq_false',Go.Sx.Al,Go.Sx.B3,decide_eq_true_eq,decide_eq_false_iff_not,ne_eq,Int.not_lt,Int.not_le,ge_iff_le,gt_iff_lt,Int.toNat_zero,Int.toNat_one,Int.toNat_natCast] at *;simp_all;done)|(simp_all;done)
   refine B8 [] (k+1) ⟨by omega,E7 he hs⟩ Ag ⟨rfl,trivial⟩ trivial D8 A6 Dg A6
 have e:k=x.tokens.length:=by omega
 have hT:∀t∈x.tokens,Nl x.graph.workers t:=I9 (p:=Nl x.graph.workers) (e▸he)
 clear he hu
 have hu:=E8 (fun i=>Me x.graph.workers (x.news.getD i default))
 refine Cc A0 false [] (fun k:Nat=>[(8,.c (vi k))]) (fun k=>[⟨0,[.c (Bt x.graph.nodes),.c (vi x.graph.workers),.c (vi x.graph.cap),.c (Ap x.workers),.c (D7 x.links),.c (Cl x.tokens),.c (D0 x.news)]⟩]) (fun k=>[])
  (fun k=>k≤x.news.length∧Kd (fun i=>Me x.graph.workers (x.news.getD i default)) k) (fun k=>x.news.length-k) 0 ⟨Nat.zero_le _,by first|rfl|assumption|simp⟩ ⟨by first|rfl|simp [Dc,ren2,ren1,ren0],trivial⟩ D8 trivial Dg A6 (fun k hk=>?_)
 obtain ⟨hk,he⟩:=hk
 conv=>whnf
 refine G2 (fun h'=>?_) fun h'=>?_<;>conv=>whnf
 ·have h':k<x.news.length:=by omega
  repeat' (first|(refine L9 ?_;conv=>whnf)|(refine La ?_;conv=>whnf)|(refine ⟨fun h=>?_,fun h=>?_⟩<;>conv=>whnf)|(refine B7 (Er _ _ _) rfl (Af ?_))|(refine Hf ?_;conv=>whnf)|(refine At 7 rfl [0,1,2,3,4,5,6,7,8] A6 (Af ?_))|(refine At 13 rfl [0,1,2,3,4,5,6,7,8,9,10,11,12,13,14,15,16,17,18,19,20,21,22,23,24,25,26,27,28,29,30,31,32,33] A6 (Af ?_))|fail)
  all_goals try (refine B1 A0 rfl rfl ⟨congrArg vb (decide_eq_false fun p=>?_),trivial⟩;obtain ⟨q1,q2⟩:=p.2.2.2.2 _ (B9 (d:=default) h');clear p he hu hG hW hH hK hT;simp only [beq_iff_eq,beq_eq_false_iff_ne,bne_iff_ne,bne_eq_false_iff_eq,Bool.not_eq_true',Bool.not_eq_false',Go.Sx.Al,Go.Sx.B3,decide_eq_true_eq,decide_eq_false_iff_not,ne_eq,Int.not_lt,Int.not_le,ge_iff_le,gt_iff_lt,Int.toNat_zero,Int.toNat_one,Int.toNat_natCast] at *;omega)
  all_goals
   have hs:Me x.graph.workers (x.news.getD k default):=by
    refine ⟨?_,?_⟩<;>clear he hu hG hW hH hK hT<;>(simp only [beq_iff_eq,beq_eq_false_iff_ne,bne_iff_ne,bne_eq_false_iff_eq,Bool.not_eq_true',Bool.not_eq_false',Go.Sx.Al,Go.Sx.B3,decide_eq_true_eq,decide_eq_false_iff_not,ne_eq,Int.not_lt,Int.not_le,ge_iff_le,gt_iff_lt,Int.toNat_zero,Int.toNat_one,Int.toNat_natCast] at *;omega)
   refine B8 [] (k+1) ⟨by omega,E7 he hs⟩ Ag ⟨rfl,trivial⟩ trivial D8 A6 Dg A6
 have e:k=x.news.length:=by omega
 have hN:∀t∈x.news,Me x.graph.workers t:=I9 (p:=Me x.graph.workers) (e▸he)
 exact B1 A0 rfl rfl ⟨congrArg vb (decide_eq_true ⟨hH,hW,hK,hT,hN⟩),trivial⟩
theorem Hq (l:C0)(h:l.w≤16777216):Bp Try.prog 71 [.agg l.c] [.agg l.c]:=by
 have h:l.queue.length≤16777216:=h
 refine Bm A0 false Try.func71 rfl Cb fun W=>?_
 conv=>whnf
 refine B4 A0 rfl rfl rfl rfl rfl rfl rfl rfl rfl rfl rfl (A8 l.queue) (Ah) (fun _=>Aj l.queue) Ag (Af ?_)
 exact B1 A0 rfl rfl ⟨⟨rfl,rfl,rfl,rfl,rfl,rfl,trivial⟩,trivial⟩
set_option maxHeartbeats 8000000 in
theorem Rc (x:Ad)(h:x.w≤16777216):Bp Try.prog 70 [.agg x.c] [.agg x.c]:=by
 simp only [Ad.w] at h
 refine A15 A0 false Try.func70 rfl Cb fun W us hul huv huo hp=>?_
 match us,hul with
 | [v0,v1,v2,v3,v4,v5,v6,v7],_=>
 conv=>whnf
 refine J7 rfl ?_
 refine Bi A0 false 1 rfl rfl A6 rfl (Aa D3) ?_
 refine Bi A0 false 5 rfl rfl A6 rfl (Aa D3) ?_
 refine Bi A0 false 9 rfl rfl A6 rfl (Aa D3) ?_
 refine Bi A0 false 13 rfl rfl A6 rfl (Aa D3) ?_
 refine Bi A0 false 17 rfl rfl A6 rfl (Aa D3) ?_
 refine Bi A0 false 21 rfl rfl A6 rfl (Aa D3) ?_
 refine Bi A0 false 25 rfl rfl A6 rfl (Aa D3) ?_
 refine Bi A0 false 29 rfl rfl A6 rfl (Aa D3) ?_
 refine Kt [3,7,11,15,19,23,27,31,32,33] [⟨0,3,.emp 5⟩,⟨2,5,.rd v0⟩,⟨4,7,.emp 5⟩,⟨6,9,.rd v1⟩,⟨8,11,.emp 5⟩,⟨10,13,.rd v2⟩,⟨12,15,.emp 4⟩,⟨14,17,.rd v3⟩,⟨16,19,.emp 1⟩,⟨18,21,.rd v4⟩,⟨20,23,.emp 1⟩,⟨22,25,.rd v5⟩,⟨24,27,.emp 1⟩,⟨26,29,.rd v6⟩,⟨28,31,.emp 2⟩,⟨30,33,.rd v7⟩] A6 ?_
 refine B2 (s':=?_) A0 rfl A6 Db ?_ ?_
 rotate_left
 refine go A0 false ?_
 conv=>whnf
 refine I8 hp 0 rfl 5 rfl ?_
 refine B4 A0 rfl rfl rfl rfl rfl rfl rfl rfl rfl rfl rfl (A8 x.queue) (Ah) (fun _=>Aj x.queue) Ag (Af ?_)
 exact Ay
 refine B2 (s':=?_) A0 rfl A6 Db ?_ ?_
 rotate_left
 refine go A0 false ?_
 conv=>whnf
 refine I8 hp 1 rfl 9 rfl ?_
 refine B4 A0 rfl rfl rfl rfl rfl rfl rfl rfl rfl rfl rfl (A8 x.staged) (Ah) (fun _=>Aj x.staged) Ag (Af ?_)
 exact Ay
 refine B2 (s':=?_) A0 rfl A6 Db ?_ ?_
 rotate_left
 refine go A0 false ?_
 conv=>whnf
 refine I8 hp 2 rfl 13 rfl ?_
 refine B4 A0 rfl rfl rfl rfl rfl rfl rfl rfl rfl rfl rfl (A8 x.inputs) (Ah) (fun _=>Aj x.inputs) Ag (Af ?_)
 exact Ay
 refine B2 (s':=?_) A0 rfl A6 Db ?_ ?_
 rotate_left
 refine go A0 false ?_
 conv=>whnf
 refine I8 hp 3 rfl 17 rfl ?_
 refine B4 A0 rfl rfl rfl rfl rfl rfl rfl rfl rfl rfl rfl (Aw x.cells) (Ah) (fun _=>Dr x.cells) Ag (Af ?_)
 exact Ay
 refine B2 (s':=?_) A0 rfl A6 Db ?_ ?_
 rotate_left
 refine go A0 false ?_
 conv=>whnf
 refine I8 hp 4 rfl 21 rfl ?_
 refine B4 A0 rfl rfl rfl rfl rfl rfl rfl rfl rfl rfl rfl (Ds x.sums) (Ah) (fun _=>Nr x.sums) Ag (Af ?_)
 exact Ay
 refine B2 (s':=?_) A0 rfl A6 Db ?_ ?_
 rotate_left
 refine go A0 false ?_
 conv=>whnf
 refine I8 hp 5 rfl 25 rfl ?_
 refine B4 A0 rfl rfl rfl rfl rfl rfl rfl rfl rfl rfl rfl (Ei x.black) (Ah) (fun _=>Q8 x.black) Ag (Af ?_)
 exact Ay
 refine B2 (s':=?_) A0 rfl A6 Db ?_ ?_
 rotate_left
 refine go A0 false ?_
 conv=>whnf
 refine I8 hp 6 rfl 29 rfl ?_
 refine B4 A0 rfl rfl rfl rfl rfl rfl rfl rfl rfl rfl rfl (Ei x.caps) (Ah) (fun _=>Q8 x.caps) Ag (Af ?_)
 exact Ay
 refine B2 (s':=?_) A0 rfl A6 Db ?_ ?_
 rotate_left
 refine go A0 false ?_
 conv=>whnf
 refine I8 hp 7 rfl 33 rfl ?_
 refine B4 A0 rfl rfl rfl rfl rfl rfl rfl rfl rfl rfl rfl (Iy x.dones) (Ah) (fun _=>Wo x.dones) Ag (Af ?_)
 exact Ay
 refine B2 (s':=?_) A0 rfl A6 Db ?_ ?_
 rotate_left
 refine go A0 false ?_
 conv=>whnf
 (repeat refine Ak ?_)
 exact Ay
 refine B2 (s':=?_) A0 rfl A6 Db ?_ ?_
 rotate_left
 refine go A0 false ?_
 conv=>whnf
 (repeat refine Ak ?_)
 exact Ay
 refine Ix A0 A6 Db (GW.out (J4 ?_))
 conv=>whnf
 exact B1 A0 rfl rfl ⟨⟨rfl,rfl,rfl,rfl,rfl,rfl,rfl,rfl,trivial⟩,trivial⟩
end Go.Proofs.Ytonodkjaoalfjaa
