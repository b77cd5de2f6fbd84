/- Part 10 of the proof that each of the laws FnTotals returns true for every input. No conditions. -/
import Derived.Test.YtdendlkeiaccpaaGreatP9

set_option linter.unusedSimpArgs false
set_option linter.unusedVariables false
set_option maxRecDepth 100000
namespace Go.Proofs.YtdendlkeiaccpaaGreat
open Go.Sx
theorem A8s {p:Prop}(d:Decidable p)(q:Prop) [Decidable q]:(Decidable.rec (motive:=fun _=>Bool) (fun _=>false) (fun _=>decide q) d=true)↔(p∧q):=by
 cases d<;>simp [*]
theorem Vd (x:An)(hx:x.w≤16777216):Bi Tryz.prog 103 [.agg x.c] [.one (vb (Ra x))]:=by
 have hl:x.outs.length≤16777216:=hx
 have hw1:1≤x.a→x.a≤10→IntKind.wrap .i64 (x.a-1)=x.a-1:=fun h1 h2=>Gw (by show _∧_;omega)
 refine B4g 20 A0 true Tryz.func103 rfl Aw fun W=>?_
 conv=>whnf
 refine B5e A0 true (J:=Bool×Bool) [12,13,14,15,16,17,18,19,20,21,22,23,24,25,26,27,28,29,30,31,32,33,34] (fun j=>[(3,.c (vb j.1)),(4,.c (vb j.2))]) (fun _=>[⟨0,[.c (vi x.kind),.c (vi x.a),.c (vi x.b),.c (Ap x.outs)]⟩]) (fun _=>[]) (fun j=>((j.1=true∧j.2=true∧1≤x.kind∧x.kind≤8)↔A34 x)) ?_ ?_
 ·conv=>whnf
  repeat' (first|(refine Oo ?_;conv=>whnf)|(refine Oq ?_;conv=>whnf)|(refine ⟨fun h=>?_,fun h=>?_⟩<;>conv=>whnf)|(refine Az (Ep _ _ _) rfl (go A0 true ?_);conv=>whnf)|(refine I8 ?_;conv=>whnf)|(refine B5 16 rfl [0,1,2,3,4,5,6,7,8,9,10,11,12,13,14,15,16,17,18,19,20,21] A7 (go A0 true ?_);conv=>whnf)|fail)
  all_goals
   refine B6 [] (_,_) ?_ Aw ⟨rfl,rfl,trivial⟩ trivial Cf A7 trivial A7
   unfold A34
   try simp only [A8s]
   simp only [beq_iff_eq,beq_eq_false_iff_ne,bne_iff_ne,bne_eq_false_iff_eq,Bool.not_eq_true',Bool.not_eq_false',Go.Sx.Au,Go.Sx.Bo,decide_eq_true_eq,decide_eq_false_iff_not,ne_eq,Int.not_lt,Int.not_le,ge_iff_le,gt_iff_lt,Int.toNat_zero,Int.toNat_one,Int.toNat_natCast] at * <;>omega
 rintro ⟨a,b⟩ hp
 have hu:Zq x.outs 0∧(2≤0→x.outs.getD 0 default≠x.outs.getD 1 default):=⟨fun i h=>absurd h (Nat.not_lt_zero i),fun h=>by omega⟩
 conv=>whnf
 repeat' (first|(refine Oo ?_;conv=>whnf)|(refine Oq ?_;conv=>whnf)|(refine ⟨fun h=>?_,fun h=>?_⟩<;>conv=>whnf)|(refine Az (Ep _ _ _) rfl (go A0 true ?_);conv=>whnf)|(refine I8 ?_;conv=>whnf)|(refine B5 16 rfl [0,1,2,3,4,5,6,7,8,9,10,11,12,13,14,15,16,17,18,19,20,21] A7 (go A0 true ?_);conv=>whnf)|fail)
 all_goals try (refine B2 A0 rfl rfl ⟨congrArg vb (decide_eq_false fun p=>?_),trivial⟩;have q:=hp.2 p.pars;obtain ⟨p1,p2,p3,p4,p5,p6,p7,p8,p9⟩:=p;clear hp hu p2 p3 p4 p5 p9;simp only [beq_iff_eq,beq_eq_false_iff_ne,bne_iff_ne,bne_eq_false_iff_eq,Bool.not_eq_true',Bool.not_eq_false',Go.Sx.Au,Go.Sx.Bo,decide_eq_true_eq,decide_eq_false_iff_not,ne_eq,Int.not_lt,Int.not_le,ge_iff_le,gt_iff_lt,Int.toNat_zero,Int.toNat_one,Int.toNat_natCast] at * <;>first|omega|simp_all)
 all_goals
  refine Bv A0 true [] (fun k:Nat=>[(5,.c (vi k))]) (fun k=>[⟨0,[.c (vi x.kind),.c (vi x.a),.c (vi x.b),.c (Ap x.outs)]⟩]) (fun k=>[])
   (fun k=>k≤x.outs.length∧(Zq x.outs k∧(2≤k→x.outs.getD 0 default≠x.outs.getD 1 default))) (fun k=>x.outs.length-k) 0 ⟨Nat.zero_le _,by first|rfl|assumption|simp⟩ ⟨F3,trivial⟩ Cf trivial Cj A7 (fun k hk=>?_)
  obtain ⟨hk,he⟩:=hk
  conv=>whnf
  refine Es (fun h'=>?_) fun h'=>?_<;>conv=>whnf
  ·have h':k<x.outs.length:=by omega
   clear hp hu
   repeat' (first|(refine Oo ?_;conv=>whnf)|(refine Oq ?_;conv=>whnf)|(refine ⟨fun h=>?_,fun h=>?_⟩<;>conv=>whnf)|(refine Az (Ep _ _ _) rfl (go A0 true ?_);conv=>whnf)|(refine I8 ?_;conv=>whnf)|(refine B5 16 rfl [0,1,2,3,4,5,6,7,8,9,10,11,12,13,14,15,16,17,18,19,20,21] A7 (go A0 true ?_);conv=>whnf)|fail)
   all_goals try (refine B2 A0 rfl rfl ⟨congrArg vb (decide_eq_false fun p=>?_),trivial⟩;have p9:=p.2.2.2.2.2.2.2.2 _ (B9 (d:=default) h');have p8:=p.2.2.2.2.2.2.2.1;have p6:=p.2.2.2.2.2.1;clear p he;simp only [beq_iff_eq,beq_eq_false_iff_ne,bne_iff_ne,bne_eq_false_iff_eq,Bool.not_eq_true',Bool.not_eq_false',Go.Sx.Au,Go.Sx.Bo,decide_eq_true_eq,decide_eq_false_iff_not,ne_eq,Int.not_lt,Int.not_le,ge_iff_le,gt_iff_lt,Int.toNat_zero,Int.toNat_one,Int.toNat_natCast] at * <;>omega)
   all_goals
    refine B6 [] (k+1) ⟨by omega,⟨A23 he.1 (by clear he;simp only [beq_iff_eq,beq_eq_false_iff_ne,bne_iff_ne,bne_eq_false_iff_eq,Bool.not_eq_true',Bool.not_eq_false',Go.Sx.Au,Go.Sx.Bo,decide_eq_true_eq,decide_eq_false_iff_not,ne_eq,Int.not_lt,Int.not_le,ge_iff_le,gt_iff_lt,Int.toNat_zero,Int.toNat_one,Int.toNat_natCast] at * <;>omega) (by clear he;simp only [beq_iff_eq,beq_eq_false_iff_ne,bne_iff_ne,bne_eq_false_iff_eq,Bool.not_eq_true',Bool.not_eq_false',Go.Sx.Au,Go.Sx.Bo,decide_eq_true_eq,decide_eq_false_iff_not,ne_eq,Int.not_lt,Int.not_le,ge_iff_le,gt_iff_lt,Int.toNat_zero,Int.toNat_one,Int.toNat_natCast] at * <;>omega),by have q:=he.2;clear he;simp only [beq_iff_eq,beq_eq_false_iff_ne,bne_iff_ne,bne_eq_false_iff_eq,Bool.not_eq_true',Bool.not_eq_false',Go.Sx.Au,Go.Sx.Bo,decide_eq_true_eq,decide_eq_false_iff_not,ne_eq,Int.not_lt,Int.not_le,ge_iff_le,gt_iff_lt,Int.toNat_zero,Int.toNat_one,Int.toNat_natCast] at * <;>omega⟩⟩ Ab ⟨congrArg (fun n=>AV.c (vi n)) (Ir k Ab),trivial⟩ trivial Cf A7 Cj A7
  have e:k=x.outs.length:=by omega
  have hq:A34 x:=hp.1 (by clear hp hu he;simp only [beq_iff_eq,beq_eq_false_iff_ne,bne_iff_ne,bne_eq_false_iff_eq,Bool.not_eq_true',Bool.not_eq_false',Go.Sx.Au,Go.Sx.Bo,decide_eq_true_eq,decide_eq_false_iff_not,ne_eq,Int.not_lt,Int.not_le,ge_iff_le,gt_iff_lt,Int.toNat_zero,Int.toNat_one,Int.toNat_natCast] at * <;>first|omega|(refine ⟨?_,?_,?_,?_⟩<;>first|assumption|omega))
  have q:=he.2
  refine B2 A0 rfl rfl ⟨congrArg vb (decide_eq_true ⟨hq.1,hq.2.1,hq.2.2.1,hq.2.2.2.1,hq.2.2.2.2,?_,?_,?_,A64 (e▸he.1)⟩),trivial⟩
  all_goals (clear he hp hu hq;intros;simp only [beq_iff_eq,beq_eq_false_iff_ne,bne_iff_ne,bne_eq_false_iff_eq,Bool.not_eq_true',Bool.not_eq_false',Go.Sx.Au,Go.Sx.Bo,decide_eq_true_eq,decide_eq_false_iff_not,ne_eq,Int.not_lt,Int.not_le,ge_iff_le,gt_iff_lt,Int.toNat_zero,Int.toNat_one,Int.toNat_natCast] at * <;>omega)
def Yi (g:Ao) (k:Int):Int:=(g.nodes.getD k.toNat default).kind
def T5 (g:Ao) (i:Nat) (x:An) (k:Int):Prop:=k<g.nodes.length∧(x.kind=7→k≤i∧(Yi g k=5∨Yi g k=6))∧(x.kind≠7→i<k)
instance (g:Ao) (i:Nat) (x:An) (k:Int):Decidable (T5 g i x k):=by unfold T5;infer_instance
def Nn (g:Ao) (i:Nat):Prop:=Jd (g.nodes.getD i default)∧((g.nodes.getD i default).kind=1↔i=0)∧∀k∈(g.nodes.getD i default).outs,T5 g i (g.nodes.getD i default) k
instance (g:Ao) (i:Nat):Decidable (Nn g i):=by unfold Nn;infer_instance
def Fa (g:Ao):Prop:=(1≤g.nodes.length∧g.nodes.length≤8)∧(1≤g.workers∧g.workers≤4)∧(1≤g.cap∧g.cap≤4)∧∀i,i<g.nodes.length→Nn g i
instance (g:Ao):Decidable (Fa g):=by unfold Fa;infer_instance
def I3 (g:Ao):Bool:=decide (Fa g)
def Mw (p:Nat→Prop) (k:Nat):Prop:=∀i,i<k→p i
theorem F0 (p:Nat→Prop):Mw p 0:=fun i h=>absurd h (Nat.not_lt_zero i)
theorem Ez {p:Nat→Prop}{k:Nat}(h:Mw p k)(hk:p k):Mw p (k+1):=fun i hi=>by
 by_cases e:i=k
 ·subst e;exact hk
 exact h i Ab
theorem K6 {α:Type} [Inhabited α] {l:List α}{p:α→Prop}(h:Mw (fun i=>p (l.getD i default)) l.length):∀x∈l,p x:=fun x hx=>by
 obtain ⟨i,hi,e⟩:=List.getElem_of_mem hx
 have:p (l.getD i default):=h i hi
 rw [List.getD,List.getElem?_eq_getElem hi] at this
 rw [←e];exact this
theorem Ao.nodes_le {g:Ao}{n:Nat}(h:g.w≤n):g.nodes.length≤n:=by
 have:g.nodes.length+(g.nodes.map An.w).sum≤n:=h
 omega
theorem Ao.node_le {g:Ao}{n:Nat}(h:g.w≤n){k:Nat}(hk:k<g.nodes.length):(g.nodes.getD k default).w≤n:=by
 have:g.nodes.length+(g.nodes.map An.w).sum≤n:=h
 have hle:=Gv An.w g.nodes k hk
 omega
theorem B4u {z:Int}{k:Nat}(h:((z==1) !=((k:Int)==0))=true):¬ (z=1↔k=0):=by
 intro q
 by_cases e:k=0
 ·have:=q.2 e
  subst this;subst e
  exact absurd h Aw
 have e1:¬ z=1:=fun e2=>e (q.1 e2)
 rw [beq_eq_false_iff_ne.2 e1,beq_eq_false_iff_ne.2 (show (k:Int)≠0 by omega)] at h
 exact absurd h Aw
theorem B4t {z:Int}{k:Nat}(h:((z==1) !=((k:Int)==0))=false):z=1↔k=0:=by
 have h:=bne_eq_false_iff_eq.1 h
 constructor
 ·intro e
  have h2:((k:Int)==0)=true:=by rw [←h,e];rfl
  have:=eq_of_beq h2
  omega
 intro e
 have h2:(z==1)=true:=by rw [h,e];rfl
 exact eq_of_beq h2
theorem Hr (g:Ao)(hg:g.w≤16777216):Bi Tryz.prog 73 [.agg g.c] [.one (vb (I3 g))]:=by
 have hn:=Ao.nodes_le hg
 have hu:=F0 (Nn g)
 refine Bd A0 false Tryz.func73 rfl Aw fun W=>?_
 conv=>whnf
 repeat' (first|(refine Oo ?_;conv=>whnf)|(refine Oq ?_;conv=>whnf)|(refine ⟨fun h=>?_,fun h=>?_⟩<;>conv=>whnf)|(refine Az (Ep _ _ _) rfl (A8 ?_))|(refine I8 ?_;conv=>whnf)|fail)
 all_goals try (refine B2 A0 rfl rfl ⟨congrArg vb (decide_eq_false fun p=>?_),trivial⟩;have p1:=p.1;have p2:=p.2.1;have p3:=p.2.2.1;clear p;simp only [beq_iff_eq,beq_eq_false_iff_ne,bne_iff_ne,bne_eq_false_iff_eq,Bool.not_eq_true',Bool.not_eq_false',Go.Sx.Au,Go.Sx.Bo,decide_eq_true_eq,decide_eq_false_iff_not,ne_eq,Int.not_lt,Int.not_le,ge_iff_le,gt_iff_lt,Int.toNat_zero,Int.toNat_one,Int.toNat_natCast] at * <;>omega)
 refine Bv A0 false [] (fun k:Nat=>[(3,.c (vi k))]) (fun k=>[⟨0,[.c (Br g.nodes),.c (vi g.workers),.c (vi g.cap)]⟩]) (fun k=>[])
  (fun k=>k≤g.nodes.length∧Mw (Nn g) k) (fun k=>g.nodes.length-k) 0 ⟨Nat.zero_le _,by first|rfl|assumption|simp⟩ ⟨F3,trivial⟩ Cf trivial Cj A7 (fun k hk=>?_)
 obtain ⟨hk,he⟩:=hk
 conv=>whnf
 refine Es (fun h'=>?_) fun h'=>?_<;>conv=>whnf
 ·have h':k<g.nodes.length:=by omega
  have hw:=Ao.node_le hg h'
  have hq:(g.nodes.getD k default).outs.length≤16777216:=hw
  have hv:=F0 (fun j=>T5 g k (g.nodes.getD k default) ((g.nodes.getD k default).outs.getD j default))
  repeat' (first|(refine Oo ?_;conv=>whnf)|(refine Oq ?_;conv=>whnf)|(refine ⟨fun h=>?_,fun h=>?_⟩<;>conv=>whnf)|(refine Az (Vd (g.nodes.getD k default) hw) rfl (Jf ?_);conv=>whnf)|(refine I8 ?_;conv=>whnf)|fail)
  ·exact B2 A0 rfl rfl ⟨congrArg vb (decide_eq_false fun p=>by rw [show Ra (g.nodes.getD k default)=true from decide_eq_true (p.2.2.2 k h').1] at h;exact absurd h Aw),trivial⟩
  ·exact B2 A0 rfl rfl ⟨congrArg vb (decide_eq_false fun p=>B4u h (p.2.2.2 k h').2.1),trivial⟩
  rename_i hno
  have hN:Jd (g.nodes.getD k default):=of_decide_eq_true (show Ra (g.nodes.getD k default)=true by cases hq2:Ra (g.nodes.getD k default)<;>simp_all only [Bool.not_false,Bool.true_eq_false])
  have hK:(g.nodes.getD k default).kind=1↔k=0:=B4t h
  have hO:=hN.2.2.2.2.2.2.2.2
  refine Bv A0 false [] (fun j:Nat=>[(5,.c (vi j))]) (fun j=>[⟨0,[.c (Br g.nodes),.c (vi g.workers),.c (vi g.cap)]⟩,⟨1,[.c (vi (g.nodes.getD k default).kind),.c (vi (g.nodes.getD k default).a),.c (vi (g.nodes.getD k default).b),.c (Ap (g.nodes.getD k default).outs)]⟩]) (fun j=>[])
   (fun j=>j≤(g.nodes.getD k default).outs.length∧Mw (fun j=>T5 g k (g.nodes.getD k default) ((g.nodes.getD k default).outs.getD j default)) j) (fun j=>(g.nodes.getD k default).outs.length-j) 0 ⟨Nat.zero_le _,by first|rfl|assumption|simp⟩ ⟨F3,trivial⟩ Cf trivial Cj A7 (fun j hj=>?_)
  obtain ⟨hj,hej⟩:=hj
  conv=>whnf
  refine Es (fun h2=>?_) fun h2=>?_<;>conv=>whnf
  ·have h2:j<(g.nodes.getD k default).outs.length:=by first|omega|(simp only [Int.toNat_natCast] at h2;omega)
   have hb:=hO _ (B9 (d:=default) h2)
   repeat' (first|(refine Oo ?_;conv=>whnf)|(refine Oq ?_;conv=>whnf)|(refine ⟨fun h=>?_,fun h=>?_⟩<;>conv=>whnf)|(refine I8 ?_;conv=>whnf)|fail)
   all_goals try (refine B2 A0 rfl rfl ⟨congrArg vb (decide_eq_false fun p=>?_),trivial⟩;have q:=(p.2.2.2 k h').2.2 _ (B9 (d:=default) h2);clear p hej he hv hu hN hK hO;simp only [T5,Yi] at q;simp only [beq_iff_eq,beq_eq_false_iff_ne,bne_iff_ne,bne_eq_false_iff_eq,Bool.not_eq_true',Bool.not_eq_false',Go.Sx.Au,Go.Sx.Bo,decide_eq_true_eq,decide_eq_false_iff_not,ne_eq,Int.not_lt,Int.not_le,ge_iff_le,gt_iff_lt,Int.toNat_zero,Int.toNat_one,Int.toNat_natCast] at * <;>omega)
   all_goals
    refine B6 [] (j+1) ⟨by omega,Ez hej (by clear hej he hv hu hN hK hO;simp only [T5,Yi];simp only [beq_iff_eq,beq_eq_false_iff_ne,bne_iff_ne,bne_eq_false_iff_eq,Bool.not_eq_true',Bool.not_eq_false',Go.Sx.Au,Go.Sx.Bo,decide_eq_true_eq,decide_eq_false_iff_not,ne_eq,Int.not_lt,Int.not_le,ge_iff_le,gt_iff_lt,Int.toNat_zero,Int.toNat_one,Int.toNat_natCast] at * <;>omega)⟩ Ab ⟨rfl,trivial⟩ trivial Cf A7 Cj A7
  have e:j=(g.nodes.getD k default).outs.length:=by first|omega|(simp only [Int.toNat_natCast] at h2;omega)
  (repeat refine Am ?_)
  refine B6 [] (k+1) ⟨by omega,Ez he ⟨hN,hK,K6 (e▸hej)⟩⟩ Ab ⟨rfl,trivial⟩ trivial Cf A7 Cj A7
 have e:k=g.nodes.length:=by omega
 exact B2 A0 rfl rfl ⟨congrArg vb (decide_eq_true ⟨by simp only [beq_iff_eq,beq_eq_false_iff_ne,bne_iff_ne,bne_eq_false_iff_eq,Bool.not_eq_true',Bool.not_eq_false',Go.Sx.Au,Go.Sx.Bo,decide_eq_true_eq,decide_eq_false_iff_not,ne_eq,Int.not_lt,Int.not_le,ge_iff_le,gt_iff_lt,Int.toNat_zero,Int.toNat_one,Int.toNat_natCast] at * <;>omega,by simp only [beq_iff_eq,beq_eq_false_iff_ne,bne_iff_ne,bne_eq_false_iff_eq,Bool.not_eq_true',Bool.not_eq_false',Go.Sx.Au,Go.Sx.Bo,decide_eq_true_eq,decide_eq_false_iff_not,ne_eq,Int.not_lt,Int.not_le,ge_iff_le,gt_iff_lt,Int.toNat_zero,Int.toNat_one,Int.toNat_natCast] at * <;>omega,by simp only [beq_iff_eq,beq_eq_false_iff_ne,bne_iff_ne,bne_eq_false_iff_eq,Bool.not_eq_true',Bool.not_eq_false',Go.Sx.Au,Go.Sx.Bo,decide_eq_true_eq,decide_eq_false_iff_not,ne_eq,Int.not_lt,Int.not_le,ge_iff_le,gt_iff_lt,Int.toNat_zero,Int.toNat_one,Int.toNat_natCast] at * <;>omega,e▸he⟩),trivial⟩
def Lf (l:List Be):Prop:=∀i,i<l.length-1→Jh (l.getD i default) (l.getD (i+1) default)<0
instance (l:List Be):Decidable (Lf l):=by unfold Lf;infer_instance
def Y0 (l:List Be):Bool:=decide (Lf l)
theorem A1o (l:List Be)(hl:l.length≤16777216):Bi Tryz.prog 104 [.one (Bg l)] [.one (vb (Y0 l))]:=by
 refine Bd A0 false Tryz.func104 rfl Aw fun W=>?_
 conv=>whnf
 refine Bv A0 false [] (fun j:Nat=>[(3,.c (vi ((j:Int)+1)))]) (fun j=>[]) (fun j=>[]) (fun j=>j≤l.length∧Mw (fun i=>Jh (l.getD i default) (l.getD (i+1) default)<0) j) (fun j=>l.length-j) (0) (⟨Nat.zero_le _,F0 _⟩) ⟨F3,trivial⟩ trivial trivial Cj A7 (fun j hj=>?_)
 conv=>whnf
 obtain ⟨hj,he⟩:=hj
 refine Es (fun h=>?_) fun h=>?_<;>conv=>whnf
 ·have h:j+1<l.length:=by omega
  have e1:((j:Int)+1-1).toNat=j:=by omega
  have e2:((j:Int)+1).toNat=j+1:=by omega
  (repeat refine Am ?_)
  first|(refine B5 4 rfl [0,1,2,3,4,5,6,7,8,9,10] A7 (A8 ?_))
  (repeat refine Am ?_)
  refine Az (Od (l.getD ((j:Int)+1-1).toNat default) (l.getD ((j:Int)+1).toNat default)) rfl (A8 ?_)
  refine Es (fun h2=>?_) fun h2=>?_<;>conv=>whnf
  all_goals rw [e1,e2] at h2
  ·exact B2 A0 rfl rfl ⟨congrArg vb (decide_eq_false fun p=>by have:=p j Ab;omega),trivial⟩
  (repeat refine Am ?_)
  refine B6 [] (j+1) (⟨by omega,Ez he Ab⟩) Ab ⟨rfl,trivial⟩ trivial trivial A7 Cj A7
 exact B2 A0 rfl rfl ⟨congrArg vb (decide_eq_true fun i hi=>he i Ab),trivial⟩
def Qt (n:Nat) (l:List A9):Prop:=∀r∈l,H7 r∧r.op<n
instance (n:Nat) (l:List A9):Decidable (Qt n l):=by unfold Qt;infer_instance
def A02 (n:Nat) (l:List A9):Bool:=decide (Qt n l)
theorem M3 {r:A9}:I6 r=true↔H7 r:=decide_eq_true_iff
theorem Ny (g:Ao)(l:List A9)(hg:g.w≤16777216)(hl:l.length≤16777216):Bi Tryz.prog 76 [.agg g.c,.one (Aa l)] [.one (vb (A02 g.nodes.length l))]:=by
 have hu:=F0 (fun i=>H7 (l.getD i default)∧(l.getD i default).op<g.nodes.length)
 have hn:=Ao.nodes_le hg
 refine Bd A0 false Tryz.func76 rfl Aw fun W=>?_
 conv=>whnf
 refine Bv A0 false [] (fun k:Nat=>[(5,.c (vi k))]) (fun k=>[⟨0,[.c (Br g.nodes),.c (vi g.workers),.c (vi g.cap)]⟩]) (fun k=>[])
  (fun k=>k≤l.length∧Mw (fun i=>H7 (l.getD i default)∧(l.getD i default).op<g.nodes.length) k) (fun k=>l.length-k) 0 ⟨Nat.zero_le _,by first|rfl|assumption|simp⟩ ⟨F3,trivial⟩ Cf trivial Cj A7 (fun k hk=>?_)
 obtain ⟨hk,he⟩:=hk
 conv=>whnf
 refine Es (fun h'=>?_) fun h'=>?_<;>conv=>whnf
 ·have h':k<l.length:=by omega
  repeat' (first|(refine Oo ?_;conv=>whnf)|(refine Oq ?_;conv=>whnf)|(refine ⟨fun h=>?_,fun h=>?_⟩<;>conv=>whnf)|(refine Az (H2 (l.getD k default)) rfl (Jf ?_);conv=>whnf)|(refine Az (Ep _ _ _) rfl (A8 ?_))|(refine I8 ?_;conv=>whnf)|(refine B5 4 rfl [0,1,2,3,4,5,6,7,8,9,10,11,12,13,14,15,16] A7 (A8 ?_))|fail)
  all_goals try (refine B2 A0 rfl rfl ⟨congrArg vb (decide_eq_false fun p=>?_),trivial⟩;obtain ⟨p1,p2⟩:=p _ (B9 (d:=default) h');first|(rw [M3.2 p1] at h;exact absurd h Aw)|(have p3:=p1.1;clear he hu;simp only [beq_iff_eq,beq_eq_false_iff_ne,bne_iff_ne,bne_eq_false_iff_eq,Bool.not_eq_true',Bool.not_eq_false',Go.Sx.Au,Go.Sx.Bo,decide_eq_true_eq,decide_eq_false_iff_not,ne_eq,Int.not_lt,Int.not_le,ge_iff_le,gt_iff_lt,Int.toNat_zero,Int.toNat_one,Int.toNat_natCast] at * <;>omega))
  all_goals
   have hp:H7 (l.getD k default):=M3.1 (by first|(simpa using h)|(rename_i q _;simpa using q)|(rename_i q;simpa using q))
   refine B6 [] (k+1) ⟨by omega,Ez he ⟨hp,by clear he hu hp;simp only [beq_iff_eq,beq_eq_false_iff_ne,bne_iff_ne,bne_eq_false_iff_eq,Bool.not_eq_true',Bool.not_eq_false',Go.Sx.Au,Go.Sx.Bo,decide_eq_true_eq,decide_eq_false_iff_not,ne_eq,Int.not_lt,Int.not_le,ge_iff_le,gt_iff_lt,Int.toNat_zero,Int.toNat_one,Int.toNat_natCast] at * <;>omega⟩⟩ Ab ⟨rfl,trivial⟩ trivial Cf A7 Cj A7
 have e:k=l.length:=by omega
 exact B2 A0 rfl rfl ⟨congrArg vb (decide_eq_true (K6 (p:=fun r=>H7 r∧r.op<g.nodes.length) (e▸he))),trivial⟩
def B1q (l:List A9):Prop:=∀r∈l,H7 r
instance (l:List A9):Decidable (B1q l):=by unfold B1q;infer_instance
def T6 (l:B8):Prop:=(1≤l.cap∧l.cap≤4)∧(0≤l.credits∧l.credits≤l.cap)∧(0≤l.back∧l.back≤l.cap)∧l.credits+l.back+l.queue.length=l.cap∧(0≤l.sent∧l.sent≤1000000000)∧0≤l.got∧l.sent-l.got=l.queue.length
instance (l:B8):Decidable (T6 l):=by unfold T6;infer_instance
def Fq (l:B8):Prop:=T6 l∧B1q l.queue
instance (l:B8):Decidable (Fq l):=by unfold Fq;infer_instance
def Lz (l:B8):Bool:=decide (Fq l)
theorem M9 (l:B8)(hl:l.w≤16777216):Bi Tryz.prog 75 [.agg l.c] [.one (vb (Lz l))]:=by
 have hq:l.queue.length≤16777216:=hl
 have hu:=F0 (fun i=>H7 (l.queue.getD i default))
 refine Bd A0 false Tryz.func75 rfl Aw fun W=>?_
 conv=>whnf
 refine Bv A0 false [] (fun k:Nat=>[(3,.c (vi k))]) (fun k=>[⟨0,[.c (vi l.cap),.c (Aa l.queue),.c (vi l.credits),.c (vi l.back),.c (vi l.sent),.c (vi l.got)]⟩]) (fun k=>[])
  (fun k=>k≤l.queue.length∧Mw (fun i=>H7 (l.queue.getD i default)) k) (fun k=>l.queue.length-k) 0 ⟨Nat.zero_le _,by first|rfl|assumption|simp⟩ ⟨F3,trivial⟩ Cf trivial Cj A7 (fun k hk=>?_)
 obtain ⟨hk,he⟩:=hk
 conv=>whnf
 refine Es (fun h'=>?_) fun h'=>?_<;>conv=>whnf
 ·have h':k<l.queue.length:=by omega
  (repeat refine Am ?_)
  refine Az (H2 (l.queue.getD k default)) rfl (A8 ?_)
  refine ⟨fun h=>?_,fun h=>?_⟩<;>conv=>whnf
  ·exact B2 A0 rfl rfl ⟨congrArg vb (decide_eq_false fun p=>by rw [M3.2 (p.2 _ (B9 (d:=default) h'))] at h;exact absurd h Aw),trivial⟩
  (repeat refine Am ?_)
  refine B6 [] (k+1) ⟨by omega,Ez he (M3.1 (by simpa using h))⟩ Ab ⟨rfl,trivial⟩ trivial Cf A7 Cj A7
 have e:k=l.queue.length:=by omega
 have hA:B1q l.queue:=K6 (p:=H7) (e▸he)
 clear he hu
 repeat' (first|(refine Oo ?_;conv=>whnf)|(refine Oq ?_;conv=>whnf)|(refine ⟨fun h=>?_,fun h=>?_⟩<;>conv=>whnf)|(refine Az (Ep _ _ _) rfl (A8 ?_))|(refine I8 ?_;conv=>whnf)|fail)
 all_goals first
  |(refine B2 A0 rfl rfl ⟨congrArg vb (decide_eq_false fun p=>?_),trivial⟩;obtain ⟨⟨p1,p2,p3,p4,p5,p6,p7⟩,_⟩:=p;clear hA;simp only [beq_iff_eq,beq_eq_false_iff_ne,bne_iff_ne,bne_eq_false_iff_eq,Bool.not_eq_true',Bool.not_eq_false',Go.Sx.Au,Go.Sx.Bo,decide_eq_true_eq,decide_eq_false_iff_not,ne_eq,Int.not_lt,Int.not_le,ge_iff_le,gt_iff_lt,Int.toNat_zero,Int.toNat_one,Int.toNat_natCast] at * <;>omega)
  |(refine B2 A0 rfl rfl ⟨congrArg vb (decide_eq_decide.2 ⟨fun p=>p.1.2.2.2.2.2.1,fun p=>⟨?_,hA⟩⟩),trivial⟩;clear hA;refine ⟨?_,?_,?_,?_,?_,?_,?_⟩<;>(simp only [beq_iff_eq,beq_eq_false_iff_ne,bne_iff_ne,bne_eq_false_iff_eq,Bool.not_eq_true',Bool.not_eq_false',Go.Sx.Au,Go.Sx.Bo,decide_eq_true_eq,decide_eq_false_iff_not,ne_eq,Int.not_lt,Int.not_le,ge_iff_le,gt_iff_lt,Int.toNat_zero,Int.toNat_one,Int.toNat_natCast] at * <;>omega))
end Go.Proofs.YtdendlkeiaccpaaGreat
