/- Part 7 of the proof that each of the laws FnTight returns true for every input. No conditions. -/
import Derived.Test.YtonodkjaoalfjaaP6

set_option linter.unusedSimpArgs false
set_option linter.unusedVariables false
set_option maxRecDepth 100000
namespace Go.Proofs.Ytonodkjaoalfjaa
open Go.Sx
theorem A12 {p:Prop}(d:Decidable p)(q:Prop) [Decidable q]:(Decidable.rec (motive:=fun _=>Bool) (fun _=>false) (fun _=>decide q) d=true)↔(p∧q):=by
 cases d<;>simp [*]
theorem Rg (x:C3)(hx:x.w≤16777216):Bp Try.prog 50 [.agg x.c] [.one (vb (O2 x))]:=by
 have hl:x.outs.length≤16777216:=hx
 have hw1:1≤x.a→x.a≤10→IntKind.wrap .i64 (x.a-1)=x.a-1:=fun h1 h2=>Fo (by show _∧_;omega)
 refine A6g 20 A0 true Try.func50 rfl Cb fun W=>?_
 conv=>whnf
 refine A68 A0 true (J:=Bool×Bool) [12,13,14,15,16,17,18,19,20,21,22,23,24,25,26,27,28,29,30,31,32,33,34] (fun j=>[(3,.c (vb j.1)),(4,.c (vb j.2))]) (fun _=>[⟨0,[.c (vi x.kind),.c (vi x.a),.c (vi x.b),.c (Ds x.outs)]⟩]) (fun _=>[]) (fun j=>((j.1=true∧j.2=true∧1≤x.kind∧x.kind≤8)↔Xw x)) ?_ ?_
 ·conv=>whnf
  repeat' (first|(refine L9 ?_;conv=>whnf)|(refine La ?_;conv=>whnf)|(refine ⟨fun h=>?_,fun h=>?_⟩<;>conv=>whnf)|(refine B7 (Er _ _ _) rfl (go A0 true ?_);conv=>whnf)|(refine Hf ?_;conv=>whnf)|(refine At 16 rfl [0,1,2,3,4,5,6,7,8,9,10,11,12,13,14,15,16,17,18,19,20,21] A6 (go A0 true ?_);conv=>whnf)|fail)
  all_goals
   refine B8 [] (_,_) ?_ Cb ⟨rfl,rfl,trivial⟩ trivial D8 A6 trivial A6
   unfold Xw
   try simp only [A12]
   simp only [beq_iff_eq,beq_eq_false_iff_ne,bne_iff_ne,bne_eq_false_iff_eq,Bool.not_eq_true',Bool.not_eq_false',Go.Sx.Al,Go.Sx.B3,decide_eq_true_eq,decide_eq_false_iff_not,ne_eq,Int.not_lt,Int.not_le,ge_iff_le,gt_iff_lt,Int.toNat_zero,Int.toNat_one,Int.toNat_natCast] at * <;>omega
 rintro ⟨a,b⟩ hp
 have hu:Uu x.outs 0∧(2≤0→x.outs.getD 0 default≠x.outs.getD 1 default):=⟨fun i h=>absurd h (Nat.not_lt_zero i),fun h=>by omega⟩
 conv=>whnf
 repeat' (first|(refine L9 ?_;conv=>whnf)|(refine La ?_;conv=>whnf)|(refine ⟨fun h=>?_,fun h=>?_⟩<;>conv=>whnf)|(refine B7 (Er _ _ _) rfl (go A0 true ?_);conv=>whnf)|(refine Hf ?_;conv=>whnf)|(refine At 16 rfl [0,1,2,3,4,5,6,7,8,9,10,11,12,13,14,15,16,17,18,19,20,21] A6 (go A0 true ?_);conv=>whnf)|fail)
 all_goals try (refine B1 A0 rfl rfl ⟨congrArg vb (decide_eq_false fun p=>?_),trivial⟩;have q:=hp.2 p.pars;obtain ⟨p1,p2,p3,p4,p5,p6,p7,p8,p9⟩:=p;clear hp hu p2 p3 p4 p5 p9;simp only [beq_iff_eq,beq_eq_false_iff_ne,bne_iff_ne,bne_eq_false_iff_eq,Bool.not_eq_true',Bool.not_eq_false',Go.Sx.Al,Go.Sx.B3,decide_eq_true_eq,decide_eq_false_iff_not,ne_eq,Int.not_lt,Int.not_le,ge_iff_le,gt_iff_lt,Int.toNat_zero,Int.toNat_one,Int.toNat_natCast] at * <;>first|omega|simp_all)
 all_goals
  refine Cc A0 true [] (fun k:Nat=>[(5,.c (vi k))]) (fun k=>[⟨0,[.c (vi x.kind),.c (vi x.a),.c (vi x.b),.c (Ds x.outs)]⟩]) (fun k=>[])
   (fun k=>k≤x.outs.length∧(Uu x.outs k∧(2≤k→x.outs.getD 0 default≠x.outs.getD 1 default))) (fun k=>x.outs.length-k) 0 ⟨Nat.zero_le _,by first|rfl|assumption|simp⟩ ⟨by first|rfl|simp [Dc,ren2,ren1,ren0],trivial⟩ D8 trivial Dg A6 (fun k hk=>?_)
  obtain ⟨hk,he⟩:=hk
  conv=>whnf
  refine G2 (fun h'=>?_) fun h'=>?_<;>conv=>whnf
  ·have h':k<x.outs.length:=by omega
   clear hp hu
   repeat' (first|(refine L9 ?_;conv=>whnf)|(refine La ?_;conv=>whnf)|(refine ⟨fun h=>?_,fun h=>?_⟩<;>conv=>whnf)|(refine B7 (Er _ _ _) rfl (go A0 true ?_);conv=>whnf)|(refine Hf ?_;conv=>whnf)|(refine At 16 rfl [0,1,2,3,4,5,6,7,8,9,10,11,12,13,14,15,16,17,18,19,20,21] A6 (go A0 true ?_);conv=>whnf)|fail)
   all_goals try (refine B1 A0 rfl rfl ⟨congrArg vb (decide_eq_false fun p=>?_),trivial⟩;have p9:=p.2.2.2.2.2.2.2.2 _ (B9 (d:=default) h');have p8:=p.2.2.2.2.2.2.2.1;have p6:=p.2.2.2.2.2.1;clear p he;simp only [beq_iff_eq,beq_eq_false_iff_ne,bne_iff_ne,bne_eq_false_iff_eq,Bool.not_eq_true',Bool.not_eq_false',Go.Sx.Al,Go.Sx.B3,decide_eq_true_eq,decide_eq_false_iff_not,ne_eq,Int.not_lt,Int.not_le,ge_iff_le,gt_iff_lt,Int.toNat_zero,Int.toNat_one,Int.toNat_natCast] at * <;>omega)
   all_goals
    refine B8 [] (k+1) ⟨by omega,⟨Wz he.1 (by clear he;simp only [beq_iff_eq,beq_eq_false_iff_ne,bne_iff_ne,bne_eq_false_iff_eq,Bool.not_eq_true',Bool.not_eq_false',Go.Sx.Al,Go.Sx.B3,decide_eq_true_eq,decide_eq_false_iff_not,ne_eq,Int.not_lt,Int.not_le,ge_iff_le,gt_iff_lt,Int.toNat_zero,Int.toNat_one,Int.toNat_natCast] at * <;>omega) (by clear he;simp only [beq_iff_eq,beq_eq_false_iff_ne,bne_iff_ne,bne_eq_false_iff_eq,Bool.not_eq_true',Bool.not_eq_false',Go.Sx.Al,Go.Sx.B3,decide_eq_true_eq,decide_eq_false_iff_not,ne_eq,Int.not_lt,Int.not_le,ge_iff_le,gt_iff_lt,Int.toNat_zero,Int.toNat_one,Int.toNat_natCast] at * <;>omega),by have q:=he.2;clear he;simp only [beq_iff_eq,beq_eq_false_iff_ne,bne_iff_ne,bne_eq_false_iff_eq,Bool.not_eq_true',Bool.not_eq_false',Go.Sx.Al,Go.Sx.B3,decide_eq_true_eq,decide_eq_false_iff_not,ne_eq,Int.not_lt,Int.not_le,ge_iff_le,gt_iff_lt,Int.toNat_zero,Int.toNat_one,Int.toNat_natCast] at * <;>omega⟩⟩ Ag ⟨congrArg (fun n=>AV.c (vi n)) (A1c k Ag),trivial⟩ trivial D8 A6 Dg A6
  ·have e:k=x.outs.length:=by omega
   have hq:Xw x:=hp.1 (by clear hp hu he;simp only [beq_iff_eq,beq_eq_false_iff_ne,bne_iff_ne,bne_eq_false_iff_eq,Bool.not_eq_true',Bool.not_eq_false',Go.Sx.Al,Go.Sx.B3,decide_eq_true_eq,decide_eq_false_iff_not,ne_eq,Int.not_lt,Int.not_le,ge_iff_le,gt_iff_lt,Int.toNat_zero,Int.toNat_one,Int.toNat_natCast] at * <;>first|omega|(refine ⟨?_,?_,?_,?_⟩<;>first|assumption|omega))
   have q:=he.2
   refine B1 A0 rfl rfl ⟨congrArg vb (decide_eq_true ⟨hq.1,hq.2.1,hq.2.2.1,hq.2.2.2.1,hq.2.2.2.2,?_,?_,?_,A0r (e▸he.1)⟩),trivial⟩
   all_goals (clear he hp hu hq;intros;simp only [beq_iff_eq,beq_eq_false_iff_ne,bne_iff_ne,bne_eq_false_iff_eq,Bool.not_eq_true',Bool.not_eq_false',Go.Sx.Al,Go.Sx.B3,decide_eq_true_eq,decide_eq_false_iff_not,ne_eq,Int.not_lt,Int.not_le,ge_iff_le,gt_iff_lt,Int.toNat_zero,Int.toNat_one,Int.toNat_natCast] at * <;>omega)
def Tt (g:An) (k:Int):Int:=(g.nodes.getD k.toNat default).kind
def Pn (g:An) (i:Nat) (x:C3) (k:Int):Prop:=k<g.nodes.length∧(x.kind=7→k≤i∧(Tt g k=5∨Tt g k=6))∧(x.kind≠7→i<k)
instance (g:An) (i:Nat) (x:C3) (k:Int):Decidable (Pn g i x k):=by unfold Pn;infer_instance
def L0 (g:An) (i:Nat):Prop:=Hw (g.nodes.getD i default)∧((g.nodes.getD i default).kind=1↔i=0)∧∀k∈(g.nodes.getD i default).outs,Pn g i (g.nodes.getD i default) k
instance (g:An) (i:Nat):Decidable (L0 g i):=by unfold L0;infer_instance
def Fh (g:An):Prop:=(1≤g.nodes.length∧g.nodes.length≤8)∧(1≤g.workers∧g.workers≤4)∧(1≤g.cap∧g.cap≤4)∧∀i,i<g.nodes.length→L0 g i
instance (g:An):Decidable (Fh g):=by unfold Fh;infer_instance
def Jq (g:An):Bool:=decide (Fh g)
def Kd (p:Nat→Prop) (k:Nat):Prop:=∀i,i<k→p i
theorem E8 (p:Nat→Prop):Kd p 0:=fun i h=>absurd h (Nat.not_lt_zero i)
theorem E7 {p:Nat→Prop}{k:Nat}(h:Kd p k)(hk:p k):Kd p (k+1):=fun i hi=>by
 by_cases e:i=k
 ·subst e;exact hk
 ·exact h i Ag
theorem I9 {α:Type} [Inhabited α] {l:List α}{p:α→Prop}(h:Kd (fun i=>p (l.getD i default)) l.length):∀x∈l,p x:=fun x hx=>by
 obtain ⟨i,hi,e⟩:=List.getElem_of_mem hx
 have:p (l.getD i default):=h i hi
 rw [List.getD,List.getElem?_eq_getElem hi] at this
 rw [←e];exact this
theorem An.nodes_le {g:An}{n:Nat}(h:g.w≤n):g.nodes.length≤n:=by
 have:g.nodes.length+(g.nodes.map C3.w).sum≤n:=h
 omega
theorem An.node_le {g:An}{n:Nat}(h:g.w≤n){k:Nat}(hk:k<g.nodes.length):(g.nodes.getD k default).w≤n:=by
 have:g.nodes.length+(g.nodes.map C3.w).sum≤n:=h
 have hle:=Fm C3.w g.nodes k hk
 omega
theorem A6s {z:Int}{k:Nat}(h:((z==1) !=((k:Int)==0))=true):¬ (z=1↔k=0):=by
 intro q
 by_cases e:k=0
 ·have:=q.2 e
  subst this;subst e
  exact absurd h Cb
 ·have e1:¬ z=1:=fun e2=>e (q.1 e2)
  rw [beq_eq_false_iff_ne.2 e1,beq_eq_false_iff_ne.2 (show (k:Int)≠0 by omega)] at h
  exact absurd h Cb
theorem A6r {z:Int}{k:Nat}(h:((z==1) !=((k:Int)==0))=false):z=1↔k=0:=by
 have h:=bne_eq_false_iff_eq.1 h
 constructor
 ·intro e
  have h2:((k:Int)==0)=true:=by rw [←h,e];rfl
  have:=eq_of_beq h2
  omega
 ·intro e
  have h2:(z==1)=true:=by rw [h,e];rfl
  exact eq_of_beq h2
theorem Is (g:An)(hg:g.w≤16777216):Bp Try.prog 25 [.agg g.c] [.one (vb (Jq g))]:=by
 have hn:=An.nodes_le hg
 have hu:=E8 (L0 g)
 refine Bm A0 false Try.func25 rfl Cb fun W=>?_
 conv=>whnf
 repeat' (first|(refine L9 ?_;conv=>whnf)|(refine La ?_;conv=>whnf)|(refine ⟨fun h=>?_,fun h=>?_⟩<;>conv=>whnf)|(refine B7 (Er _ _ _) rfl (Af ?_))|(refine Hf ?_;conv=>whnf)|fail)
 all_goals try (refine B1 A0 rfl rfl ⟨congrArg vb (decide_eq_false fun p=>?_),trivial⟩;have p1:=p.1;have p2:=p.2.1;have p3:=p.2.2.1;clear p;simp only [beq_iff_eq,beq_eq_false_iff_ne,bne_iff_ne,bne_eq_false_iff_eq,Bool.not_eq_true',Bool.not_eq_false',Go.Sx.Al,Go.Sx.B3,decide_eq_true_eq,decide_eq_false_iff_not,ne_eq,Int.not_lt,Int.not_le,ge_iff_le,gt_iff_lt,Int.toNat_zero,Int.toNat_one,Int.toNat_natCast] at * <;>omega)
 refine Cc A0 false [] (fun k:Nat=>[(3,.c (vi k))]) (fun k=>[⟨0,[.c (Bt g.nodes),.c (vi g.workers),.c (vi g.cap)]⟩]) (fun k=>[])
  (fun k=>k≤g.nodes.length∧Kd (L0 g) k) (fun k=>g.nodes.length-k) 0 ⟨Nat.zero_le _,by first|rfl|assumption|simp⟩ ⟨by first|rfl|simp [Dc,ren2,ren1,ren0],trivial⟩ D8 trivial Dg A6 (fun k hk=>?_)
 obtain ⟨hk,he⟩:=hk
 conv=>whnf
 refine G2 (fun h'=>?_) fun h'=>?_<;>conv=>whnf
 ·have h':k<g.nodes.length:=by omega
  have hw:=An.node_le hg h'
  have hq:(g.nodes.getD k default).outs.length≤16777216:=hw
  have hv:=E8 (fun j=>Pn g k (g.nodes.getD k default) ((g.nodes.getD k default).outs.getD j default))
  repeat' (first|(refine L9 ?_;conv=>whnf)|(refine La ?_;conv=>whnf)|(refine ⟨fun h=>?_,fun h=>?_⟩<;>conv=>whnf)|(refine B7 (Rg (g.nodes.getD k default) hw) rfl (J4 ?_);conv=>whnf)|(refine Hf ?_;conv=>whnf)|fail)
  ·exact B1 A0 rfl rfl ⟨congrArg vb (decide_eq_false fun p=>by rw [show O2 (g.nodes.getD k default)=true from decide_eq_true (p.2.2.2 k h').1] at h;exact absurd h Cb),trivial⟩
  ·exact B1 A0 rfl rfl ⟨congrArg vb (decide_eq_false fun p=>A6s h (p.2.2.2 k h').2.1),trivial⟩
  ·rename_i hno
   have hN:Hw (g.nodes.getD k default):=of_decide_eq_true (show O2 (g.nodes.getD k default)=true by cases hq2:O2 (g.nodes.getD k default)<;>simp_all only [Bool.not_false,Bool.true_eq_false])
   have hK:(g.nodes.getD k default).kind=1↔k=0:=A6r h
   have hO:=hN.2.2.2.2.2.2.2.2
   refine Cc A0 false [] (fun j:Nat=>[(5,.c (vi j))]) (fun j=>[⟨0,[.c (Bt g.nodes),.c (vi g.workers),.c (vi g.cap)]⟩,⟨1,[.c (vi (g.nodes.getD k default).kind),.c (vi (g.nodes.getD k default).a),.c (vi (g.nodes.getD k default).b),.c (Ds (g.nodes.getD k default).outs)]⟩]) (fun j=>[])
    (fun j=>j≤(g.nodes.getD k default).outs.length∧Kd (fun j=>Pn g k (g.nodes.getD k default) ((g.nodes.getD k default).outs.getD j default)) j) (fun j=>(g.nodes.getD k default).outs.length-j) 0 ⟨Nat.zero_le _,by first|rfl|assumption|simp⟩ ⟨by first|rfl|simp [Dc,ren2,ren1,ren0],trivial⟩ D8 trivial Dg A6 (fun j hj=>?_)
   obtain ⟨hj,hej⟩:=hj
   conv=>whnf
   refine G2 (fun h2=>?_) fun h2=>?_<;>conv=>whnf
   ·have h2:j<(g.nodes.getD k default).outs.length:=by first|omega|(simp only [Int.toNat_natCast] at h2;omega)
    have hb:=hO _ (B9 (d:=default) h2)
    repeat' (first|(refine L9 ?_;conv=>whnf)|(refine La ?_;conv=>whnf)|(refine ⟨fun h=>?_,fun h=>?_⟩<;>conv=>whnf)|(refine Hf ?_;conv=>whnf)|fail)
    all_goals try (refine B1 A0 rfl rfl ⟨congrArg vb (decide_eq_false fun p=>?_),trivial⟩;have q:=(p.2.2.2 k h').2.2 _ (B9 (d:=default) h2);clear p hej he hv hu hN hK hO;simp only [Pn,Tt] at q;simp only [beq_iff_eq,beq_eq_false_iff_ne,bne_iff_ne,bne_eq_false_iff_eq,Bool.not_eq_true',Bool.not_eq_false',Go.Sx.Al,Go.Sx.B3,decide_eq_true_eq,decide_eq_false_iff_not,ne_eq,Int.not_lt,Int.not_le,ge_iff_le,gt_iff_lt,Int.toNat_zero,Int.toNat_one,Int.toNat_natCast] at * <;>omega)
    all_goals
     refine B8 [] (j+1) ⟨by omega,E7 hej (by clear hej he hv hu hN hK hO;simp only [Pn,Tt];simp only [beq_iff_eq,beq_eq_false_iff_ne,bne_iff_ne,bne_eq_false_iff_eq,Bool.not_eq_true',Bool.not_eq_false',Go.Sx.Al,Go.Sx.B3,decide_eq_true_eq,decide_eq_false_iff_not,ne_eq,Int.not_lt,Int.not_le,ge_iff_le,gt_iff_lt,Int.toNat_zero,Int.toNat_one,Int.toNat_natCast] at * <;>omega)⟩ Ag ⟨rfl,trivial⟩ trivial D8 A6 Dg A6
   ·have e:j=(g.nodes.getD k default).outs.length:=by first|omega|(simp only [Int.toNat_natCast] at h2;omega)
    (repeat refine Ak ?_)
    refine B8 [] (k+1) ⟨by omega,E7 he ⟨hN,hK,I9 (e▸hej)⟩⟩ Ag ⟨rfl,trivial⟩ trivial D8 A6 Dg A6
 ·have e:k=g.nodes.length:=by omega
  exact B1 A0 rfl rfl ⟨congrArg vb (decide_eq_true ⟨by simp only [beq_iff_eq,beq_eq_false_iff_ne,bne_iff_ne,bne_eq_false_iff_eq,Bool.not_eq_true',Bool.not_eq_false',Go.Sx.Al,Go.Sx.B3,decide_eq_true_eq,decide_eq_false_iff_not,ne_eq,Int.not_lt,Int.not_le,ge_iff_le,gt_iff_lt,Int.toNat_zero,Int.toNat_one,Int.toNat_natCast] at * <;>omega,by simp only [beq_iff_eq,beq_eq_false_iff_ne,bne_iff_ne,bne_eq_false_iff_eq,Bool.not_eq_true',Bool.not_eq_false',Go.Sx.Al,Go.Sx.B3,decide_eq_true_eq,decide_eq_false_iff_not,ne_eq,Int.not_lt,Int.not_le,ge_iff_le,gt_iff_lt,Int.toNat_zero,Int.toNat_one,Int.toNat_natCast] at * <;>omega,by simp only [beq_iff_eq,beq_eq_false_iff_ne,bne_iff_ne,bne_eq_false_iff_eq,Bool.not_eq_true',Bool.not_eq_false',Go.Sx.Al,Go.Sx.B3,decide_eq_true_eq,decide_eq_false_iff_not,ne_eq,Int.not_lt,Int.not_le,ge_iff_le,gt_iff_lt,Int.toNat_zero,Int.toNat_one,Int.toNat_natCast] at * <;>omega,e▸he⟩),trivial⟩
def Ja (l:List Ax):Prop:=∀i,i<l.length-1→Hj (l.getD i default) (l.getD (i+1) default)<0
instance (l:List Ax):Decidable (Ja l):=by unfold Ja;infer_instance
def Ti (l:List Ax):Bool:=decide (Ja l)
theorem Vx (l:List Ax)(hl:l.length≤16777216):Bp Try.prog 81 [.one (Aw l)] [.one (vb (Ti l))]:=by
 refine Bm A0 false Try.func81 rfl Cb fun W=>?_
 conv=>whnf
 refine Cc A0 false [] (fun j:Nat=>[(3,.c (vi ((j:Int)+1)))]) (fun j=>[]) (fun j=>[]) (fun j=>j≤l.length∧Kd (fun i=>Hj (l.getD i default) (l.getD (i+1) default)<0) j) (fun j=>l.length-j) (0) (⟨Nat.zero_le _,E8 _⟩) ⟨by first|rfl|simp [Dc,ren2,ren1,ren0],trivial⟩ trivial trivial Dg A6 (fun j hj=>?_)
 conv=>whnf
 obtain ⟨hj,he⟩:=hj
 refine G2 (fun h=>?_) fun h=>?_<;>conv=>whnf
 ·have h:j+1<l.length:=by omega
  have e1:((j:Int)+1-1).toNat=j:=by omega
  have e2:((j:Int)+1).toNat=j+1:=by omega
  (repeat refine Ak ?_)
  first|(refine At 4 rfl [0,1,2,3,4,5,6,7,8,9,10] A6 (Af ?_))
  (repeat refine Ak ?_)
  refine B7 (Ll (l.getD ((j:Int)+1-1).toNat default) (l.getD ((j:Int)+1).toNat default)) rfl (Af ?_)
  refine G2 (fun h2=>?_) fun h2=>?_<;>conv=>whnf
  all_goals rw [e1,e2] at h2
  ·exact B1 A0 rfl rfl ⟨congrArg vb (decide_eq_false fun p=>by have:=p j Ag;omega),trivial⟩
  ·(repeat refine Ak ?_)
   refine B8 [] (j+1) (⟨by omega,E7 he Ag⟩) Ag ⟨rfl,trivial⟩ trivial trivial A6 Dg A6
 ·exact B1 A0 rfl rfl ⟨congrArg vb (decide_eq_true fun i hi=>he i Ag),trivial⟩
def Nk (n:Nat) (l:List Ac):Prop:=∀r∈l,Gt r∧r.op<n
instance (n:Nat) (l:List Ac):Decidable (Nk n l):=by unfold Nk;infer_instance
def Vh (n:Nat) (l:List Ac):Bool:=decide (Nk n l)
theorem Js {r:Ac}:Gp r=true↔Gt r:=decide_eq_true_iff
theorem L8 (g:An)(l:List Ac)(hg:g.w≤16777216)(hl:l.length≤16777216):Bp Try.prog 74 [.agg g.c,.one (A8 l)] [.one (vb (Vh g.nodes.length l))]:=by
 have hu:=E8 (fun i=>Gt (l.getD i default)∧(l.getD i default).op<g.nodes.length)
 have hn:=An.nodes_le hg
 refine Bm A0 false Try.func74 rfl Cb fun W=>?_
 conv=>whnf
 refine Cc A0 false [] (fun k:Nat=>[(5,.c (vi k))]) (fun k=>[⟨0,[.c (Bt g.nodes),.c (vi g.workers),.c (vi g.cap)]⟩]) (fun k=>[])
  (fun k=>k≤l.length∧Kd (fun i=>Gt (l.getD i default)∧(l.getD i default).op<g.nodes.length) k) (fun k=>l.length-k) 0 ⟨Nat.zero_le _,by first|rfl|assumption|simp⟩ ⟨by first|rfl|simp [Dc,ren2,ren1,ren0],trivial⟩ D8 trivial Dg A6 (fun k hk=>?_)
 obtain ⟨hk,he⟩:=hk
 conv=>whnf
 refine G2 (fun h'=>?_) fun h'=>?_<;>conv=>whnf
 ·have h':k<l.length:=by omega
  repeat' (first|(refine L9 ?_;conv=>whnf)|(refine La ?_;conv=>whnf)|(refine ⟨fun h=>?_,fun h=>?_⟩<;>conv=>whnf)|(refine B7 (Ft (l.getD k default)) rfl (J4 ?_);conv=>whnf)|(refine B7 (Er _ _ _) rfl (Af ?_))|(refine Hf ?_;conv=>whnf)|(refine At 4 rfl [0,1,2,3,4,5,6,7,8,9,10,11,12,13,14,15,16] A6 (Af ?_))|fail)
  all_goals try (refine B1 A0 rfl rfl ⟨congrArg vb (decide_eq_false fun p=>?_),trivial⟩;obtain ⟨p1,p2⟩:=p _ (B9 (d:=default) h');first|(rw [Js.2 p1] at h;exact absurd h Cb)|(have p3:=p1.1;clear he hu;simp only [beq_iff_eq,beq_eq_false_iff_ne,bne_iff_ne,bne_eq_false_iff_eq,Bool.not_eq_true',Bool.not_eq_false',Go.Sx.Al,Go.Sx.B3,decide_eq_true_eq,decide_eq_false_iff_not,ne_eq,Int.not_lt,Int.not_le,ge_iff_le,gt_iff_lt,Int.toNat_zero,Int.toNat_one,Int.toNat_natCast] at * <;>omega))
  all_goals
   have hp:Gt (l.getD k default):=Js.1 (by first|(simpa using h)|(rename_i q _;simpa using q)|(rename_i q;simpa using q))
   refine B8 [] (k+1) ⟨by omega,E7 he ⟨hp,by clear he hu hp;simp only [beq_iff_eq,beq_eq_false_iff_ne,bne_iff_ne,bne_eq_false_iff_eq,Bool.not_eq_true',Bool.not_eq_false',Go.Sx.Al,Go.Sx.B3,decide_eq_true_eq,decide_eq_false_iff_not,ne_eq,Int.not_lt,Int.not_le,ge_iff_le,gt_iff_lt,Int.toNat_zero,Int.toNat_one,Int.toNat_natCast] at * <;>omega⟩⟩ Ag ⟨rfl,trivial⟩ trivial D8 A6 Dg A6
 ·have e:k=l.length:=by omega
  exact B1 A0 rfl rfl ⟨congrArg vb (decide_eq_true (I9 (p:=fun r=>Gt r∧r.op<g.nodes.length) (e▸he))),trivial⟩
def A4f (l:List Ac):Prop:=∀r∈l,Gt r
instance (l:List Ac):Decidable (A4f l):=by unfold A4f;infer_instance
def Sf (l:C0):Prop:=(1≤l.cap∧l.cap≤4)∧(0≤l.credits∧l.credits≤l.cap)∧(0≤l.back∧l.back≤l.cap)∧l.credits+l.back+l.queue.length=l.cap∧(0≤l.sent∧l.sent≤1000000000)∧0≤l.got∧l.sent-l.got=l.queue.length
instance (l:C0):Decidable (Sf l):=by unfold Sf;infer_instance
def Fc (l:C0):Prop:=Sf l∧A4f l.queue
instance (l:C0):Decidable (Fc l):=by unfold Fc;infer_instance
def Jr (l:C0):Bool:=decide (Fc l)
theorem Jx (l:C0)(hl:l.w≤16777216):Bp Try.prog 73 [.agg l.c] [.one (vb (Jr l))]:=by
 have hq:l.queue.length≤16777216:=hl
 have hu:=E8 (fun i=>Gt (l.queue.getD i default))
 refine Bm A0 false Try.func73 rfl Cb fun W=>?_
 conv=>whnf
 refine Cc A0 false [] (fun k:Nat=>[(3,.c (vi k))]) (fun k=>[⟨0,[.c (vi l.cap),.c (A8 l.queue),.c (vi l.credits),.c (vi l.back),.c (vi l.sent),.c (vi l.got)]⟩]) (fun k=>[])
  (fun k=>k≤l.queue.length∧Kd (fun i=>Gt (l.queue.getD i default)) k) (fun k=>l.queue.length-k) 0 ⟨Nat.zero_le _,by first|rfl|assumption|simp⟩ ⟨by first|rfl|simp [Dc,ren2,ren1,ren0],trivial⟩ D8 trivial Dg A6 (fun k hk=>?_)
 obtain ⟨hk,he⟩:=hk
 conv=>whnf
 refine G2 (fun h'=>?_) fun h'=>?_<;>conv=>whnf
 ·have h':k<l.queue.length:=by omega
  (repeat refine Ak ?_)
  refine B7 (Ft (l.queue.getD k default)) rfl (Af ?_)
  refine ⟨fun h=>?_,fun h=>?_⟩<;>conv=>whnf
  ·exact B1 A0 rfl rfl ⟨congrArg vb (decide_eq_false fun p=>by rw [Js.2 (p.2 _ (B9 (d:=default) h'))] at h;exact absurd h Cb),trivial⟩
  ·(repeat refine Ak ?_)
   refine B8 [] (k+1) ⟨by omega,E7 he (Js.1 (by simpa using h))⟩ Ag ⟨rfl,trivial⟩ trivial D8 A6 Dg A6
 ·have e:k=l.queue.length:=by omega
  have hA:A4f l.queue:=I9 (p:=Gt) (e▸he)
  clear he hu
  repeat' (first|(refine L9 ?_;conv=>whnf)|(refine La ?_;conv=>whnf)|(refine ⟨fun h=>?_,fun h=>?_⟩<;>conv=>whnf)|(refine B7 (Er _ _ _) rfl (Af ?_))|(refine Hf ?_;conv=>whnf)|fail)
  all_goals first
   |(refine B1 A0 rfl rfl ⟨congrArg vb (decide_eq_false fun p=>?_),trivial⟩;obtain ⟨⟨p1,p2,p3,p4,p5,p6,p7⟩,_⟩:=p;clear hA;simp only [beq_iff_eq,beq_eq_false_iff_ne,bne_iff_ne,bne_eq_false_iff_eq,Bool.not_eq_true',Bool.not_eq_false',Go.Sx.Al,Go.Sx.B3,decide_eq_true_eq,decide_eq_false_iff_not,ne_eq,Int.not_lt,Int.not_le,ge_iff_le,gt_iff_lt,Int.toNat_zero,Int.toNat_one,Int.toNat_natCast] at * <;>omega)
   |(refine B1 A0 rfl rfl ⟨congrArg vb (decide_eq_decide.2 ⟨fun p=>p.1.2.2.2.2.2.1,fun p=>⟨?_,hA⟩⟩),trivial⟩;clear hA;refine ⟨?_,?_,?_,?_,?_,?_,?_⟩<;>(simp only [beq_iff_eq,beq_eq_false_iff_ne,bne_iff_ne,bne_eq_false_iff_eq,Bool.not_eq_true',Bool.not_eq_false',Go.Sx.Al,Go.Sx.B3,decide_eq_true_eq,decide_eq_false_iff_not,ne_eq,Int.not_lt,Int.not_le,ge_iff_le,gt_iff_lt,Int.toNat_zero,Int.toNat_one,Int.toNat_natCast] at * <;>omega))
end Go.Proofs.Ytonodkjaoalfjaa
