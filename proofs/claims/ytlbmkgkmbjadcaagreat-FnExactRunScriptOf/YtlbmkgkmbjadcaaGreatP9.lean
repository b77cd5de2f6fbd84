/- Part 9 of the proof that each of the laws FnExactRunScriptOf, FnExactSpreadResult returns true for every input. No conditions. -/
import Derived.Test.YtlbmkgkmbjadcaaGreatP8

set_option linter.unusedSimpArgs false
set_option linter.unusedVariables false
set_option maxRecDepth 100000
namespace Go.Proofs.YtlbmkgkmbjadcaaGreat
open Go.Sx
def T4 (g:Ar) (k:Int):Int:=(g.nodes.getD k.toNat default).kind
def Ok (g:Ar) (i:Nat) (x:Au) (k:Int):Prop:=k<g.nodes.length∧(x.kind=7→k≤i∧(T4 g k=5∨T4 g k=6))∧(x.kind≠7→i<k)
instance (g:Ar) (i:Nat) (x:Au) (k:Int):Decidable (Ok g i x k):=by unfold Ok;infer_instance
def M3 (g:Ar) (i:Nat):Prop:=Jm (g.nodes.getD i default)∧((g.nodes.getD i default).kind=1↔i=0)∧∀k∈(g.nodes.getD i default).outs,Ok g i (g.nodes.getD i default) k
instance (g:Ar) (i:Nat):Decidable (M3 g i):=by unfold M3;infer_instance
def H1 (g:Ar):Prop:=(1≤g.nodes.length∧g.nodes.length≤8)∧(1≤g.workers∧g.workers≤4)∧(1≤g.cap∧g.cap≤4)∧∀i,i<g.nodes.length→M3 g i
instance (g:Ar):Decidable (H1 g):=by unfold H1;infer_instance
def Fi (g:Ar):Bool:=decide (H1 g)
def J2 (p:Nat→Prop) (k:Nat):Prop:=∀i,i<k→p i
theorem Dd (p:Nat→Prop):J2 p 0:=fun i h=>absurd h (Nat.not_lt_zero i)
theorem Dc {p:Nat→Prop}{k:Nat}(h:J2 p k)(hk:p k):J2 p (k+1):=fun i hi=>by
 by_cases e:i=k
 ·subst e;exact hk
 ·exact h i Ad
theorem Gb {α:Type} [Inhabited α] {l:List α}{p:α→Prop}(h:J2 (fun i=>p (l.getD i default)) l.length):∀x∈l,p x:=fun x hx=>by
 obtain ⟨i,hi,e⟩:=List.getElem_of_mem hx
 have:p (l.getD i default):=h i hi
 rw [List.getD,List.getElem?_eq_getElem hi] at this
 rw [←e];exact this
theorem Ar.nodes_le {g:Ar}{n:Nat}(h:g.w≤n):g.nodes.length≤n:=by
 have:g.nodes.length+(g.nodes.map Au.w).sum≤n:=h
 omega
theorem Ar.node_le {g:Ar}{n:Nat}(h:g.w≤n){k:Nat}(hk:k<g.nodes.length):(g.nodes.getD k default).w≤n:=by
 have:g.nodes.length+(g.nodes.map Au.w).sum≤n:=h
 have hle:=Bz Au.w g.nodes k hk
 omega
theorem B2v {z:Int}{k:Nat}(h:((z==1) !=((k:Int)==0))=true):¬ (z=1↔k=0):=by
 intro q
 by_cases e:k=0
 ·have:=q.2 e
  subst this;subst e
  exact absurd h Bs
 ·have e1:¬ z=1:=fun e2=>e (q.1 e2)
  rw [beq_eq_false_iff_ne.2 e1,beq_eq_false_iff_ne.2 (show (k:Int)≠0 by omega)] at h
  exact absurd h Bs
theorem B2u {z:Int}{k:Nat}(h:((z==1) !=((k:Int)==0))=false):z=1↔k=0:=by
 have h:=bne_eq_false_iff_eq.1 h
 constructor
 ·intro e
  have h2:((k:Int)==0)=true:=by rw [←h,e];rfl
  have:=eq_of_beq h2
  omega
 ·intro e
  have h2:(z==1)=true:=by rw [h,e];rfl
  exact eq_of_beq h2
theorem Mh (g:Ar)(hg:g.w≤16777216):Aq Tryz.prog 85 [.agg g.c] [.one (vb (Fi g))]:=by
 have hn:=Ar.nodes_le hg
 have hu:=Dd (M3 g)
 refine Aj A0 false Tryz.func85 rfl Bs fun W=>?_
 conv=>whnf
 repeat' (first|(refine Ki ?_;conv=>whnf)|(refine Kj ?_;conv=>whnf)|(refine ⟨fun h=>?_,fun h=>?_⟩<;>conv=>whnf)|(refine Ai (Gv _ _ _) rfl (Ae ?_))|(refine Fe ?_;conv=>whnf)|fail)
 all_goals try (refine Ah A0 rfl rfl ⟨congrArg vb (decide_eq_false fun p=>?_),trivial⟩;have p1:=p.1;have p2:=p.2.1;have p3:=p.2.2.1;clear p;simp only [beq_iff_eq,beq_eq_false_iff_ne,bne_iff_ne,bne_eq_false_iff_eq,Bool.not_eq_true',Bool.not_eq_false',Go.Sx.Am,Go.Sx.Aw,decide_eq_true_eq,decide_eq_false_iff_not,ne_eq,Int.not_lt,Int.not_le,ge_iff_le,gt_iff_lt,Int.toNat_zero,Int.toNat_one,Int.toNat_natCast] at * <;>omega)
 refine B6 A0 false [] (fun k:Nat=>[(3,.c (vi k))]) (fun k=>[⟨0,[.c (Bb g.nodes),.c (vi g.workers),.c (vi g.cap)]⟩]) (fun k=>[])
  (fun k=>k≤g.nodes.length∧J2 (M3 g) k) (fun k=>g.nodes.length-k) 0 ⟨Nat.zero_le _,by first|rfl|assumption|simp⟩ ⟨by first|rfl|simp [Cr,ren2,ren1,ren0],trivial⟩ Cp trivial Cc A5 (fun k hk=>?_)
 obtain ⟨hk,he⟩:=hk
 conv=>whnf
 refine F2 (fun h'=>?_) fun h'=>?_<;>conv=>whnf
 ·have h':k<g.nodes.length:=by omega
  have hw:=Ar.node_le hg h'
  have hq:(g.nodes.getD k default).outs.length≤16777216:=hw
  have hv:=Dd (fun j=>Ok g k (g.nodes.getD k default) ((g.nodes.getD k default).outs.getD j default))
  repeat' (first|(refine Ki ?_;conv=>whnf)|(refine Kj ?_;conv=>whnf)|(refine ⟨fun h=>?_,fun h=>?_⟩<;>conv=>whnf)|(refine Ai (Xt (g.nodes.getD k default) hw) rfl (Iy ?_);conv=>whnf)|(refine Fe ?_;conv=>whnf)|fail)
  ·exact Ah A0 rfl rfl ⟨congrArg vb (decide_eq_false fun p=>by rw [show Ko (g.nodes.getD k default)=true from decide_eq_true (p.2.2.2 k h').1] at h;exact absurd h Bs),trivial⟩
  ·exact Ah A0 rfl rfl ⟨congrArg vb (decide_eq_false fun p=>B2v h (p.2.2.2 k h').2.1),trivial⟩
  ·rename_i hno
   have hN:Jm (g.nodes.getD k default):=of_decide_eq_true (show Ko (g.nodes.getD k default)=true by cases hq2:Ko (g.nodes.getD k default)<;>simp_all only [Bool.not_false,Bool.true_eq_false])
   have hK:(g.nodes.getD k default).kind=1↔k=0:=B2u h
   have hO:=hN.2.2.2.2.2.2.2.2
   refine B6 A0 false [] (fun j:Nat=>[(5,.c (vi j))]) (fun j=>[⟨0,[.c (Bb g.nodes),.c (vi g.workers),.c (vi g.cap)]⟩,⟨1,[.c (vi (g.nodes.getD k default).kind),.c (vi (g.nodes.getD k default).a),.c (vi (g.nodes.getD k default).b),.c (Eu (g.nodes.getD k default).outs)]⟩]) (fun j=>[])
    (fun j=>j≤(g.nodes.getD k default).outs.length∧J2 (fun j=>Ok g k (g.nodes.getD k default) ((g.nodes.getD k default).outs.getD j default)) j) (fun j=>(g.nodes.getD k default).outs.length-j) 0 ⟨Nat.zero_le _,by first|rfl|assumption|simp⟩ ⟨by first|rfl|simp [Cr,ren2,ren1,ren0],trivial⟩ Cp trivial Cc A5 (fun j hj=>?_)
   obtain ⟨hj,hej⟩:=hj
   conv=>whnf
   refine F2 (fun h2=>?_) fun h2=>?_<;>conv=>whnf
   ·have h2:j<(g.nodes.getD k default).outs.length:=by first|omega|(simp only [Int.toNat_natCast] at h2;omega)
    have hb:=hO _ (B2 (d:=default) h2)
    repeat' (first|(refine Ki ?_;conv=>whnf)|(refine Kj ?_;conv=>whnf)|(refine ⟨fun h=>?_,fun h=>?_⟩<;>conv=>whnf)|(refine Fe ?_;conv=>whnf)|fail)
    all_goals try (refine Ah A0 rfl rfl ⟨congrArg vb (decide_eq_false fun p=>?_),trivial⟩;have q:=(p.2.2.2 k h').2.2 _ (B2 (d:=default) h2);clear p hej he hv hu hN hK hO;simp only [Ok,T4] at q;simp only [beq_iff_eq,beq_eq_false_iff_ne,bne_iff_ne,bne_eq_false_iff_eq,Bool.not_eq_true',Bool.not_eq_false',Go.Sx.Am,Go.Sx.Aw,decide_eq_true_eq,decide_eq_false_iff_not,ne_eq,Int.not_lt,Int.not_le,ge_iff_le,gt_iff_lt,Int.toNat_zero,Int.toNat_one,Int.toNat_natCast] at * <;>omega)
    all_goals
     refine At [] (j+1) ⟨by omega,Dc hej (by clear hej he hv hu hN hK hO;simp only [Ok,T4];simp only [beq_iff_eq,beq_eq_false_iff_ne,bne_iff_ne,bne_eq_false_iff_eq,Bool.not_eq_true',Bool.not_eq_false',Go.Sx.Am,Go.Sx.Aw,decide_eq_true_eq,decide_eq_false_iff_not,ne_eq,Int.not_lt,Int.not_le,ge_iff_le,gt_iff_lt,Int.toNat_zero,Int.toNat_one,Int.toNat_natCast] at * <;>omega)⟩ Ad ⟨rfl,trivial⟩ trivial Cp A5 Cc A5
   ·have e:j=(g.nodes.getD k default).outs.length:=by first|omega|(simp only [Int.toNat_natCast] at h2;omega)
    (repeat refine An ?_)
    refine At [] (k+1) ⟨by omega,Dc he ⟨hN,hK,Gb (e▸hej)⟩⟩ Ad ⟨rfl,trivial⟩ trivial Cp A5 Cc A5
 ·have e:k=g.nodes.length:=by omega
  exact Ah A0 rfl rfl ⟨congrArg vb (decide_eq_true ⟨by simp only [beq_iff_eq,beq_eq_false_iff_ne,bne_iff_ne,bne_eq_false_iff_eq,Bool.not_eq_true',Bool.not_eq_false',Go.Sx.Am,Go.Sx.Aw,decide_eq_true_eq,decide_eq_false_iff_not,ne_eq,Int.not_lt,Int.not_le,ge_iff_le,gt_iff_lt,Int.toNat_zero,Int.toNat_one,Int.toNat_natCast] at * <;>omega,by simp only [beq_iff_eq,beq_eq_false_iff_ne,bne_iff_ne,bne_eq_false_iff_eq,Bool.not_eq_true',Bool.not_eq_false',Go.Sx.Am,Go.Sx.Aw,decide_eq_true_eq,decide_eq_false_iff_not,ne_eq,Int.not_lt,Int.not_le,ge_iff_le,gt_iff_lt,Int.toNat_zero,Int.toNat_one,Int.toNat_natCast] at * <;>omega,by simp only [beq_iff_eq,beq_eq_false_iff_ne,bne_iff_ne,bne_eq_false_iff_eq,Bool.not_eq_true',Bool.not_eq_false',Go.Sx.Am,Go.Sx.Aw,decide_eq_true_eq,decide_eq_false_iff_not,ne_eq,Int.not_lt,Int.not_le,ge_iff_le,gt_iff_lt,Int.toNat_zero,Int.toNat_one,Int.toNat_natCast] at * <;>omega,e▸he⟩),trivial⟩
def N5 (l:List Aa):Prop:=∀i,i<l.length-1→J6 (l.getD i default) (l.getD (i+1) default)<0
instance (l:List Aa):Decidable (N5 l):=by unfold N5;infer_instance
def Pu (l:List Aa):Bool:=decide (N5 l)
theorem A25 (l:List Aa)(hl:l.length≤16777216):Aq Tryz.prog 224 [.one (Ao l)] [.one (vb (Pu l))]:=by
 refine Aj A0 false Tryz.func224 rfl Bs fun W=>?_
 conv=>whnf
 refine B6 A0 false [] (fun j:Nat=>[(3,.c (vi ((j:Int)+1)))]) (fun j=>[]) (fun j=>[]) (fun j=>j≤l.length∧J2 (fun i=>J6 (l.getD i default) (l.getD (i+1) default)<0) j) (fun j=>l.length-j) (0) (⟨Nat.zero_le _,Dd _⟩) ⟨by first|rfl|simp [Cr,ren2,ren1,ren0],trivial⟩ trivial trivial Cc A5 (fun j hj=>?_)
 conv=>whnf
 obtain ⟨hj,he⟩:=hj
 refine F2 (fun h=>?_) fun h=>?_<;>conv=>whnf
 ·have h:j+1<l.length:=by omega
  have e1:((j:Int)+1-1).toNat=j:=by omega
  have e2:((j:Int)+1).toNat=j+1:=by omega
  (repeat refine An ?_)
  first|(refine Ak 4 rfl [0,1,2,3,4,5,6,7,8,9,10] A5 (Ae ?_))
  (repeat refine An ?_)
  refine Ai (Qb (l.getD ((j:Int)+1-1).toNat default) (l.getD ((j:Int)+1).toNat default)) rfl (Ae ?_)
  refine F2 (fun h2=>?_) fun h2=>?_<;>conv=>whnf
  all_goals rw [e1,e2] at h2
  ·exact Ah A0 rfl rfl ⟨congrArg vb (decide_eq_false fun p=>by have:=p j Ad;omega),trivial⟩
  ·(repeat refine An ?_)
   refine At [] (j+1) (⟨by omega,Dc he Ad⟩) Ad ⟨rfl,trivial⟩ trivial trivial A5 Cc A5
 ·exact Ah A0 rfl rfl ⟨congrArg vb (decide_eq_true fun i hi=>he i Ad),trivial⟩
theorem A4e (l:List Aa)(hl:l.length≤16777216):Aq Tryz.prog 230 [.one (Ao l)] [.one (vb (Pu l))]:=by
 refine Aj A0 false Tryz.func230 rfl Bs fun W=>?_
 conv=>whnf
 refine B6 A0 false [] (fun j:Nat=>[(3,.c (vi ((j:Int)+1)))]) (fun j=>[]) (fun j=>[]) (fun j=>j≤l.length∧J2 (fun i=>J6 (l.getD i default) (l.getD (i+1) default)<0) j) (fun j=>l.length-j) (0) (⟨Nat.zero_le _,Dd _⟩) ⟨by first|rfl|simp [Cr,ren2,ren1,ren0],trivial⟩ trivial trivial Cc A5 (fun j hj=>?_)
 conv=>whnf
 obtain ⟨hj,he⟩:=hj
 refine F2 (fun h=>?_) fun h=>?_<;>conv=>whnf
 ·have h:j+1<l.length:=by omega
  have e1:((j:Int)+1-1).toNat=j:=by omega
  have e2:((j:Int)+1).toNat=j+1:=by omega
  (repeat refine An ?_)
  first|(refine Ak 4 rfl [0,1,2,3,4,5,6,7,8,9,10] A5 (Ae ?_))
  (repeat refine An ?_)
  refine Ai (Qp (l.getD ((j:Int)+1-1).toNat default) (l.getD ((j:Int)+1).toNat default)) rfl (Ae ?_)
  refine F2 (fun h2=>?_) fun h2=>?_<;>conv=>whnf
  all_goals rw [e1,e2] at h2
  ·exact Ah A0 rfl rfl ⟨congrArg vb (decide_eq_false fun p=>by have:=p j Ad;omega),trivial⟩
  ·(repeat refine An ?_)
   refine At [] (j+1) (⟨by omega,Dc he Ad⟩) Ad ⟨rfl,trivial⟩ trivial trivial A5 Cc A5
 ·exact Ah A0 rfl rfl ⟨congrArg vb (decide_eq_true fun i hi=>he i Ad),trivial⟩
def Ss (n:Nat) (l:List A3):Prop:=∀r∈l,Gx r∧r.op<n
instance (n:Nat) (l:List A3):Decidable (Ss n l):=by unfold Ss;infer_instance
def Qf (n:Nat) (l:List A3):Bool:=decide (Ss n l)
theorem Nq (g:Ar)(k:Int)(hg:g.w≤16777216):Aq Tryz.prog 218 [.agg g.c,.one (vi k)] [.one (vb (Eg k 0 (g.nodes.length-1)))]:=by
 have hn:=Ar.nodes_le hg
 refine Aj A0 false Tryz.func218 rfl Bs fun W=>?_
 conv=>whnf
 (repeat refine An ?_)
 refine Ai (Hj k 0 (g.nodes.length-1)) rfl (Ae ?_)
 exact Ah A0 rfl rfl ⟨rfl,trivial⟩
theorem Hl {r:A3}:F8 r=true↔Gx r:=decide_eq_true_iff
theorem Py (g:Ar)(l:List A3)(hg:g.w≤16777216)(hl:l.length≤16777216):Aq Tryz.prog 182 [.agg g.c,.one (A9 l)] [.one (vb (Qf g.nodes.length l))]:=by
 have hu:=Dd (fun i=>Gx (l.getD i default)∧(l.getD i default).op<g.nodes.length)
 have hn:=Ar.nodes_le hg
 refine Aj A0 false Tryz.func182 rfl Bs fun W=>?_
 conv=>whnf
 refine B6 A0 false [] (fun k:Nat=>[(9,.c (vi k))]) (fun k=>[⟨0,[.c (Bb g.nodes),.c (vi g.workers),.c (vi g.cap)]⟩]) (fun k=>[])
  (fun k=>k≤l.length∧J2 (fun i=>Gx (l.getD i default)∧(l.getD i default).op<g.nodes.length) k) (fun k=>l.length-k) 0 ⟨Nat.zero_le _,by first|rfl|assumption|simp⟩ ⟨by first|rfl|simp [Cr,ren2,ren1,ren0],trivial⟩ Cp trivial Cc A5 (fun k hk=>?_)
 obtain ⟨hk,he⟩:=hk
 conv=>whnf
 refine F2 (fun h'=>?_) fun h'=>?_<;>conv=>whnf
 ·have h':k<l.length:=by omega
  repeat' (first|(refine Ki ?_;conv=>whnf)|(refine Kj ?_;conv=>whnf)|(refine ⟨fun h=>?_,fun h=>?_⟩<;>conv=>whnf)|(refine Ai (Ht (l.getD k default)) rfl (Iy ?_);conv=>whnf)|(refine Ai (Nq g _ hg) rfl (Ae ?_))|(refine Fe ?_;conv=>whnf)|fail)
  all_goals try (refine Ah A0 rfl rfl ⟨congrArg vb (decide_eq_false fun p=>?_),trivial⟩;obtain ⟨p1,p2⟩:=p _ (B2 (d:=default) h');first|(rw [Hl.2 p1] at h;exact absurd h Bs)|(have p3:=p1.1;clear he hu;simp only [beq_iff_eq,beq_eq_false_iff_ne,bne_iff_ne,bne_eq_false_iff_eq,Bool.not_eq_true',Bool.not_eq_false',Go.Sx.Am,Go.Sx.Aw,decide_eq_true_eq,decide_eq_false_iff_not,ne_eq,Int.not_lt,Int.not_le,ge_iff_le,gt_iff_lt,Int.toNat_zero,Int.toNat_one,Int.toNat_natCast] at * <;>omega))
  all_goals
   have hp:Gx (l.getD k default):=Hl.1 (by first|(simpa using h)|(rename_i q _;simpa using q)|(rename_i q;simpa using q))
   refine At [] (k+1) ⟨by omega,Dc he ⟨hp,by clear he hu hp;simp only [beq_iff_eq,beq_eq_false_iff_ne,bne_iff_ne,bne_eq_false_iff_eq,Bool.not_eq_true',Bool.not_eq_false',Go.Sx.Am,Go.Sx.Aw,decide_eq_true_eq,decide_eq_false_iff_not,ne_eq,Int.not_lt,Int.not_le,ge_iff_le,gt_iff_lt,Int.toNat_zero,Int.toNat_one,Int.toNat_natCast] at * <;>omega⟩⟩ Ad ⟨rfl,trivial⟩ trivial Cp A5 Cc A5
 ·have e:k=l.length:=by omega
  exact Ah A0 rfl rfl ⟨congrArg vb (decide_eq_true (Gb (p:=fun r=>Gx r∧r.op<g.nodes.length) (e▸he))),trivial⟩
theorem Q3 (g:Ar)(l:List A3)(hg:g.w≤16777216)(hl:l.length≤16777216):Aq Tryz.prog 190 [.agg g.c,.one (A9 l)] [.one (vb (Qf g.nodes.length l))]:=by
 have hu:=Dd (fun i=>Gx (l.getD i default)∧(l.getD i default).op<g.nodes.length)
 have hn:=Ar.nodes_le hg
 refine Aj A0 false Tryz.func190 rfl Bs fun W=>?_
 conv=>whnf
 refine B6 A0 false [] (fun k:Nat=>[(5,.c (vi k))]) (fun k=>[⟨0,[.c (Bb g.nodes),.c (vi g.workers),.c (vi g.cap)]⟩]) (fun k=>[])
  (fun k=>k≤l.length∧J2 (fun i=>Gx (l.getD i default)∧(l.getD i default).op<g.nodes.length) k) (fun k=>l.length-k) 0 ⟨Nat.zero_le _,by first|rfl|assumption|simp⟩ ⟨by first|rfl|simp [Cr,ren2,ren1,ren0],trivial⟩ Cp trivial Cc A5 (fun k hk=>?_)
 obtain ⟨hk,he⟩:=hk
 conv=>whnf
 refine F2 (fun h'=>?_) fun h'=>?_<;>conv=>whnf
 ·have h':k<l.length:=by omega
  repeat' (first|(refine Ki ?_;conv=>whnf)|(refine Kj ?_;conv=>whnf)|(refine ⟨fun h=>?_,fun h=>?_⟩<;>conv=>whnf)|(refine Ai (Hy (l.getD k default)) rfl (Iy ?_);conv=>whnf)|(refine Ai (Gv _ _ _) rfl (Ae ?_))|(refine Fe ?_;conv=>whnf)|(refine Ak 4 rfl [0,1,2,3,4,5,6,7,8,9,10,11,12,13,14,15,16] A5 (Ae ?_))|fail)
  all_goals try (refine Ah A0 rfl rfl ⟨congrArg vb (decide_eq_false fun p=>?_),trivial⟩;obtain ⟨p1,p2⟩:=p _ (B2 (d:=default) h');first|(rw [Hl.2 p1] at h;exact absurd h Bs)|(have p3:=p1.1;clear he hu;simp only [beq_iff_eq,beq_eq_false_iff_ne,bne_iff_ne,bne_eq_false_iff_eq,Bool.not_eq_true',Bool.not_eq_false',Go.Sx.Am,Go.Sx.Aw,decide_eq_true_eq,decide_eq_false_iff_not,ne_eq,Int.not_lt,Int.not_le,ge_iff_le,gt_iff_lt,Int.toNat_zero,Int.toNat_one,Int.toNat_natCast] at * <;>omega))
  all_goals
   have hp:Gx (l.getD k default):=Hl.1 (by first|(simpa using h)|(rename_i q _;simpa using q)|(rename_i q;simpa using q))
   refine At [] (k+1) ⟨by omega,Dc he ⟨hp,by clear he hu hp;simp only [beq_iff_eq,beq_eq_false_iff_ne,bne_iff_ne,bne_eq_false_iff_eq,Bool.not_eq_true',Bool.not_eq_false',Go.Sx.Am,Go.Sx.Aw,decide_eq_true_eq,decide_eq_false_iff_not,ne_eq,Int.not_lt,Int.not_le,ge_iff_le,gt_iff_lt,Int.toNat_zero,Int.toNat_one,Int.toNat_natCast] at * <;>omega⟩⟩ Ad ⟨rfl,trivial⟩ trivial Cp A5 Cc A5
 ·have e:k=l.length:=by omega
  exact Ah A0 rfl rfl ⟨congrArg vb (decide_eq_true (Gb (p:=fun r=>Gx r∧r.op<g.nodes.length) (e▸he))),trivial⟩
def B0o (l:List A3):Prop:=∀r∈l,Gx r
instance (l:List A3):Decidable (B0o l):=by unfold B0o;infer_instance
theorem A9f (l:List A3)(hl:l.length≤16777216):Aq Tryz.prog 225 [.one (A9 l)] [.one (vb (decide (B0o l)))]:=by
 have hu:=Dd (fun i=>Gx (l.getD i default))
 refine Aj A0 false Tryz.func225 rfl Bs fun W=>?_
 conv=>whnf
 refine B6 A0 false [] (fun k:Nat=>[(7,.c (vi k))]) (fun k=>[]) (fun k=>[])
  (fun k=>k≤l.length∧J2 (fun i=>Gx (l.getD i default)) k) (fun k=>l.length-k) 0 ⟨Nat.zero_le _,by first|rfl|assumption|simp⟩ ⟨by first|rfl|simp [Cr,ren2,ren1,ren0],trivial⟩ trivial trivial Cc A5 (fun k hk=>?_)
 obtain ⟨hk,he⟩:=hk
 conv=>whnf
 refine F2 (fun h'=>?_) fun h'=>?_<;>conv=>whnf
 ·have h':k<l.length:=by omega
  (repeat refine An ?_)
  refine Ai (Ht (l.getD k default)) rfl (Ae ?_)
  refine ⟨fun h=>?_,fun h=>?_⟩<;>conv=>whnf
  ·exact Ah A0 rfl rfl ⟨congrArg vb (decide_eq_false fun p=>by rw [Hl.2 (p _ (B2 (d:=default) h'))] at h;exact absurd h Bs),trivial⟩
  ·(repeat refine An ?_)
   refine At [] (k+1) ⟨by omega,Dc he (Hl.1 (by simpa using h))⟩ Ad ⟨rfl,trivial⟩ trivial trivial A5 Cc A5
 ·have e:k=l.length:=by omega
  exact Ah A0 rfl rfl ⟨congrArg vb (decide_eq_true (Gb (p:=Gx) (e▸he))),trivial⟩
def V8 (l:As):Prop:=(1≤l.cap∧l.cap≤4)∧(0≤l.credits∧l.credits≤l.cap)∧(0≤l.back∧l.back≤l.cap)∧l.credits+l.back+l.queue.length=l.cap∧(0≤l.sent∧l.sent≤1000000000)∧0≤l.got∧l.sent-l.got=l.queue.length
instance (l:As):Decidable (V8 l):=by unfold V8;infer_instance
def Gd (l:As):Prop:=V8 l∧B0o l.queue
instance (l:As):Decidable (Gd l):=by unfold Gd;infer_instance
def He (l:As):Bool:=decide (Gd l)
theorem Nr (l:As)(hl:l.w≤16777216)(og2:l.got≤9223372036854775807):Aq Tryz.prog 181 [.agg l.c] [.one (vb (He l))]:=by
 have hq:l.queue.length≤16777216:=hl
 refine Aj A0 false Tryz.func181 rfl Bs fun W=>?_
 conv=>whnf
 repeat' (first|(refine Ki ?_;conv=>whnf)|(refine Kj ?_;conv=>whnf)|(refine ⟨fun h=>?_,fun h=>?_⟩<;>conv=>whnf)|(refine Ai (Hj _ _ _) rfl (Ae ?_))|(refine Ai (A9f l.queue hq) rfl (Ae ?_))|(refine Fe ?_;conv=>whnf)|fail)
 all_goals first
  |(refine Ah A0 rfl rfl ⟨congrArg vb (decide_eq_false fun p=>?_),trivial⟩;obtain ⟨⟨p1,p2,p3,p4,p5,p6,p7⟩,_⟩:=p;simp only [beq_iff_eq,beq_eq_false_iff_ne,bne_iff_ne,bne_eq_false_iff_eq,Bool.not_eq_true',Bool.not_eq_false',Go.Sx.Am,Go.Sx.Aw,decide_eq_true_eq,decide_eq_false_iff_not,ne_eq,Int.not_lt,Int.not_le,ge_iff_le,gt_iff_lt,Int.toNat_zero,Int.toNat_one,Int.toNat_natCast] at * <;>omega)
  |(refine Ah A0 rfl rfl ⟨congrArg vb (decide_eq_decide.2 ⟨fun p=>p.2,fun p=>⟨?_,p⟩⟩),trivial⟩;refine ⟨?_,?_,?_,?_,?_,?_,?_⟩<;>(simp only [beq_iff_eq,beq_eq_false_iff_ne,bne_iff_ne,bne_eq_false_iff_eq,Bool.not_eq_true',Bool.not_eq_false',Go.Sx.Am,Go.Sx.Aw,decide_eq_true_eq,decide_eq_false_iff_not,ne_eq,Int.not_lt,Int.not_le,ge_iff_le,gt_iff_lt,Int.toNat_zero,Int.toNat_one,Int.toNat_natCast] at * <;>omega))
theorem O4 (l:As)(hl:l.w≤16777216):Aq Tryz.prog 189 [.agg l.c] [.one (vb (He l))]:=by
 have hq:l.queue.length≤16777216:=hl
 have hu:=Dd (fun i=>Gx (l.queue.getD i default))
 refine Aj A0 false Tryz.func189 rfl Bs fun W=>?_
 conv=>whnf
 refine B6 A0 false [] (fun k:Nat=>[(3,.c (vi k))]) (fun k=>[⟨0,[.c (vi l.cap),.c (A9 l.queue),.c (vi l.credits),.c (vi l.back),.c (vi l.sent),.c (vi l.got)]⟩]) (fun k=>[])
  (fun k=>k≤l.queue.length∧J2 (fun i=>Gx (l.queue.getD i default)) k) (fun k=>l.queue.length-k) 0 ⟨Nat.zero_le _,by first|rfl|assumption|simp⟩ ⟨by first|rfl|simp [Cr,ren2,ren1,ren0],trivial⟩ Cp trivial Cc A5 (fun k hk=>?_)
 obtain ⟨hk,he⟩:=hk
 conv=>whnf
 refine F2 (fun h'=>?_) fun h'=>?_<;>conv=>whnf
 ·have h':k<l.queue.length:=by omega
  (repeat refine An ?_)
  refine Ai (Hy (l.queue.getD k default)) rfl (Ae ?_)
  refine ⟨fun h=>?_,fun h=>?_⟩<;>conv=>whnf
  ·exact Ah A0 rfl rfl ⟨congrArg vb (decide_eq_false fun p=>by rw [Hl.2 (p.2 _ (B2 (d:=default) h'))] at h;exact absurd h Bs),trivial⟩
  ·(repeat refine An ?_)
   refine At [] (k+1) ⟨by omega,Dc he (Hl.1 (by simpa using h))⟩ Ad ⟨rfl,trivial⟩ trivial Cp A5 Cc A5
 ·have e:k=l.queue.length:=by omega
  have hA:B0o l.queue:=Gb (p:=Gx) (e▸he)
  clear he hu
  repeat' (first|(refine Ki ?_;conv=>whnf)|(refine Kj ?_;conv=>whnf)|(refine ⟨fun h=>?_,fun h=>?_⟩<;>conv=>whnf)|(refine Ai (Gv _ _ _) rfl (Ae ?_))|(refine Fe ?_;conv=>whnf)|fail)
  all_goals first
   |(refine Ah A0 rfl rfl ⟨congrArg vb (decide_eq_false fun p=>?_),trivial⟩;obtain ⟨⟨p1,p2,p3,p4,p5,p6,p7⟩,_⟩:=p;clear hA;simp only [beq_iff_eq,beq_eq_false_iff_ne,bne_iff_ne,bne_eq_false_iff_eq,Bool.not_eq_true',Bool.not_eq_false',Go.Sx.Am,Go.Sx.Aw,decide_eq_true_eq,decide_eq_false_iff_not,ne_eq,Int.not_lt,Int.not_le,ge_iff_le,gt_iff_lt,Int.toNat_zero,Int.toNat_one,Int.toNat_natCast] at * <;>omega)
   |(refine Ah A0 rfl rfl ⟨congrArg vb (decide_eq_decide.2 ⟨fun p=>p.1.2.2.2.2.2.1,fun p=>⟨?_,hA⟩⟩),trivial⟩;clear hA;refine ⟨?_,?_,?_,?_,?_,?_,?_⟩<;>(simp only [beq_iff_eq,beq_eq_false_iff_ne,bne_iff_ne,bne_eq_false_iff_eq,Bool.not_eq_true',Bool.not_eq_false',Go.Sx.Am,Go.Sx.Aw,decide_eq_true_eq,decide_eq_false_iff_not,ne_eq,Int.not_lt,Int.not_le,ge_iff_le,gt_iff_lt,Int.toNat_zero,Int.toNat_one,Int.toNat_natCast] at * <;>omega))
end Go.Proofs.YtlbmkgkmbjadcaaGreat
