/- Part 7 of the proof that each of the laws FnColours returns true for every input. No conditions. -/
import Derived.Test.YtdendlkeiaccpaaGreatDoorP6

set_option linter.unusedSimpArgs false
set_option linter.unusedVariables false
set_option maxRecDepth 100000
namespace Go.Proofs.YtdendlkeiaccpaaGreatDoor
open Go.Sx
theorem B2b {p:Prop}(d:Decidable p)(q:Prop) [Decidable q]:(Decidable.rec (motive:=fun _=>Bool) (fun _=>false) (fun _=>decide q) d=true)↔(p∧q):=by
 cases d<;>simp [*]
theorem Xl (x:Av)(hx:x.w≤16777216):Be Tryz.prog 147 [.agg x.c] [.one (vb (Mb x))]:=by
 have hl:x.outs.length≤16777216:=hx
 have hw1:1≤x.a→x.a≤10→IntKind.wrap .i64 (x.a-1)=x.a-1:=fun h1 h2=>Hs (by show _∧_;omega)
 refine B2e 20 A0 true Tryz.func147 rfl Az fun W=>?_
 conv=>whnf
 refine B7u A0 true (J:=Bool×Bool) [12,13,14,15,16,17,18,19,20,21,22,23,24,25,26,27,28,29,30,31,32,33,34] (fun j=>[(3,.c (vb j.1)),(4,.c (vb j.2))]) (fun _=>[⟨0,[.c (vi x.kind),.c (vi x.a),.c (vi x.b),.c (Au x.outs)]⟩]) (fun _=>[]) (fun j=>((j.1=true∧j.2=true∧1≤x.kind∧x.kind≤8)↔V9 x)) ?_ ?_
 ·conv=>whnf
  repeat' (first|(refine J1 ?_;conv=>whnf)|(refine J2 ?_;conv=>whnf)|(refine ⟨fun h=>?_,fun h=>?_⟩<;>conv=>whnf)|(refine At (Fc _ _ _) rfl (go A0 true ?_);conv=>whnf)|(refine Ep ?_;conv=>whnf)|(refine Ax 16 rfl [0,1,2,3,4,5,6,7,8,9,10,11,12,13,14,15,16,17,18,19,20,21] A7 (go A0 true ?_);conv=>whnf)|fail)
  all_goals
   refine B8 [] (_,_) ?_ Az ⟨rfl,rfl,trivial⟩ trivial Cg A7 trivial A7
   unfold V9
   try simp only [B2b]
   simp only [beq_iff_eq,beq_eq_false_iff_ne,bne_iff_ne,bne_eq_false_iff_eq,Bool.not_eq_true',Bool.not_eq_false',Go.Sx.Ah,Go.Sx.Aw,decide_eq_true_eq,decide_eq_false_iff_not,ne_eq,Int.not_lt,Int.not_le,ge_iff_le,gt_iff_lt,Int.toNat_zero,Int.toNat_one,Int.toNat_natCast] at * <;>omega
 rintro ⟨a,b⟩ hp
 have hu:V8 x.outs 0∧(2≤0→x.outs.getD 0 default≠x.outs.getD 1 default):=⟨fun i h=>absurd h (Nat.not_lt_zero i),fun h=>by omega⟩
 conv=>whnf
 repeat' (first|(refine J1 ?_;conv=>whnf)|(refine J2 ?_;conv=>whnf)|(refine ⟨fun h=>?_,fun h=>?_⟩<;>conv=>whnf)|(refine At (Fc _ _ _) rfl (go A0 true ?_);conv=>whnf)|(refine Ep ?_;conv=>whnf)|(refine Ax 16 rfl [0,1,2,3,4,5,6,7,8,9,10,11,12,13,14,15,16,17,18,19,20,21] A7 (go A0 true ?_);conv=>whnf)|fail)
 all_goals try (refine Ap A0 rfl rfl ⟨congrArg vb (decide_eq_false fun p=>?_),trivial⟩;have q:=hp.2 p.pars;obtain ⟨p1,p2,p3,p4,p5,p6,p7,p8,p9⟩:=p;clear hp hu p2 p3 p4 p5 p9;simp only [beq_iff_eq,beq_eq_false_iff_ne,bne_iff_ne,bne_eq_false_iff_eq,Bool.not_eq_true',Bool.not_eq_false',Go.Sx.Ah,Go.Sx.Aw,decide_eq_true_eq,decide_eq_false_iff_not,ne_eq,Int.not_lt,Int.not_le,ge_iff_le,gt_iff_lt,Int.toNat_zero,Int.toNat_one,Int.toNat_natCast] at * <;>first|omega|simp_all)
 all_goals
  refine C0 A0 true [] (fun k:Nat=>[(5,.c (vi k))]) (fun k=>[⟨0,[.c (vi x.kind),.c (vi x.a),.c (vi x.b),.c (Au x.outs)]⟩]) (fun k=>[])
   (fun k=>k≤x.outs.length∧(V8 x.outs k∧(2≤k→x.outs.getD 0 default≠x.outs.getD 1 default))) (fun k=>x.outs.length-k) 0 ⟨Nat.zero_le _,by first|rfl|assumption|simp⟩ ⟨G3,trivial⟩ Cg trivial Co A7 (fun k hk=>?_)
  obtain ⟨hk,he⟩:=hk
  conv=>whnf
  refine F4 (fun h'=>?_) fun h'=>?_<;>conv=>whnf
  ·have h':k<x.outs.length:=by omega
   clear hp hu
   repeat' (first|(refine J1 ?_;conv=>whnf)|(refine J2 ?_;conv=>whnf)|(refine ⟨fun h=>?_,fun h=>?_⟩<;>conv=>whnf)|(refine At (Fc _ _ _) rfl (go A0 true ?_);conv=>whnf)|(refine Ep ?_;conv=>whnf)|(refine Ax 16 rfl [0,1,2,3,4,5,6,7,8,9,10,11,12,13,14,15,16,17,18,19,20,21] A7 (go A0 true ?_);conv=>whnf)|fail)
   all_goals try (refine Ap A0 rfl rfl ⟨congrArg vb (decide_eq_false fun p=>?_),trivial⟩;have p9:=p.2.2.2.2.2.2.2.2 _ (Ay (d:=default) h');have p8:=p.2.2.2.2.2.2.2.1;have p6:=p.2.2.2.2.2.1;clear p he;simp only [beq_iff_eq,beq_eq_false_iff_ne,bne_iff_ne,bne_eq_false_iff_eq,Bool.not_eq_true',Bool.not_eq_false',Go.Sx.Ah,Go.Sx.Aw,decide_eq_true_eq,decide_eq_false_iff_not,ne_eq,Int.not_lt,Int.not_le,ge_iff_le,gt_iff_lt,Int.toNat_zero,Int.toNat_one,Int.toNat_natCast] at * <;>omega)
   all_goals
    refine B8 [] (k+1) ⟨by omega,⟨Wt he.1 (by clear he;simp only [beq_iff_eq,beq_eq_false_iff_ne,bne_iff_ne,bne_eq_false_iff_eq,Bool.not_eq_true',Bool.not_eq_false',Go.Sx.Ah,Go.Sx.Aw,decide_eq_true_eq,decide_eq_false_iff_not,ne_eq,Int.not_lt,Int.not_le,ge_iff_le,gt_iff_lt,Int.toNat_zero,Int.toNat_one,Int.toNat_natCast] at * <;>omega) (by clear he;simp only [beq_iff_eq,beq_eq_false_iff_ne,bne_iff_ne,bne_eq_false_iff_eq,Bool.not_eq_true',Bool.not_eq_false',Go.Sx.Ah,Go.Sx.Aw,decide_eq_true_eq,decide_eq_false_iff_not,ne_eq,Int.not_lt,Int.not_le,ge_iff_le,gt_iff_lt,Int.toNat_zero,Int.toNat_one,Int.toNat_natCast] at * <;>omega),by have q:=he.2;clear he;simp only [beq_iff_eq,beq_eq_false_iff_ne,bne_iff_ne,bne_eq_false_iff_eq,Bool.not_eq_true',Bool.not_eq_false',Go.Sx.Ah,Go.Sx.Aw,decide_eq_true_eq,decide_eq_false_iff_not,ne_eq,Int.not_lt,Int.not_le,ge_iff_le,gt_iff_lt,Int.toNat_zero,Int.toNat_one,Int.toNat_natCast] at * <;>omega⟩⟩ Ac ⟨congrArg (fun n=>AV.c (vi n)) (B02 k Ac),trivial⟩ trivial Cg A7 Co A7
  have e:k=x.outs.length:=by omega
  have hq:V9 x:=hp.1 (by clear hp hu he;simp only [beq_iff_eq,beq_eq_false_iff_ne,bne_iff_ne,bne_eq_false_iff_eq,Bool.not_eq_true',Bool.not_eq_false',Go.Sx.Ah,Go.Sx.Aw,decide_eq_true_eq,decide_eq_false_iff_not,ne_eq,Int.not_lt,Int.not_le,ge_iff_le,gt_iff_lt,Int.toNat_zero,Int.toNat_one,Int.toNat_natCast] at * <;>first|omega|(refine ⟨?_,?_,?_,?_⟩<;>first|assumption|omega))
  have q:=he.2
  refine Ap A0 rfl rfl ⟨congrArg vb (decide_eq_true ⟨hq.1,hq.2.1,hq.2.2.1,hq.2.2.2.1,hq.2.2.2.2,?_,?_,?_,Zh (e▸he.1)⟩),trivial⟩
  all_goals (clear he hp hu hq;intros;simp only [beq_iff_eq,beq_eq_false_iff_ne,bne_iff_ne,bne_eq_false_iff_eq,Bool.not_eq_true',Bool.not_eq_false',Go.Sx.Ah,Go.Sx.Aw,decide_eq_true_eq,decide_eq_false_iff_not,ne_eq,Int.not_lt,Int.not_le,ge_iff_le,gt_iff_lt,Int.toNat_zero,Int.toNat_one,Int.toNat_natCast] at * <;>omega)
def H2 (r:Ae):Prop:=(0≤r.op∧r.op≤7)∧(0≤r.stamp.epoch∧r.stamp.epoch≤3)∧(0≤r.stamp.turn∧r.stamp.turn≤6)∧(0≤r.key∧r.key≤99)∧(0≤r.val∧r.val≤999)
instance (r:Ae):Decidable (H2 r):=by unfold H2;infer_instance
def Ib (r:Ae):Bool:=decide (H2 r)
theorem Jf (r:Ae):Ib r=true↔(0≤r.op∧r.op≤7)∧(0≤r.stamp.epoch∧r.stamp.epoch≤3)∧(0≤r.stamp.turn∧r.stamp.turn≤6)∧(0≤r.key∧r.key≤99)∧(0≤r.val∧r.val≤999):=decide_eq_true_iff
def Hy (s:Ea):Bool:=decide ((0≤s.epoch∧s.epoch≤3)∧(0≤s.turn∧s.turn≤6))
theorem Uh (s:Ea):Be Tryz.prog 148 [.agg s.c] [.one (vb (Hy s))]:=by
 refine B5 A0 false Tryz.func148 rfl Az fun W=>?_
 conv=>whnf
 repeat' (first|(refine J1 ?_;conv=>whnf)|(refine J2 ?_;conv=>whnf)|(refine ⟨fun h=>?_,fun h=>?_⟩<;>conv=>whnf)|(refine At (Fc _ _ _) rfl (A8 ?_))|(refine Ep ?_;conv=>whnf)|fail)
 all_goals (refine Ap A0 rfl rfl ⟨congrArg vb ?_,trivial⟩;(rw [Bool.eq_iff_iff];simp only [Jf,Hy,beq_iff_eq,beq_eq_false_iff_ne,bne_iff_ne,bne_eq_false_iff_eq,Bool.not_eq_true',Bool.not_eq_false',Go.Sx.Ah,Go.Sx.Aw,decide_eq_true_eq,decide_eq_false_iff_not,Bool.false_eq_true,iff_false,false_iff,iff_true,true_iff,ne_eq] at * <;>omega))
theorem A3o (s:Ea):Be Tryz.prog 193 [.agg s.c] [.one (vb (Hy s))]:=by
 refine B5 A0 false Tryz.func193 rfl Az fun W=>?_
 conv=>whnf
 repeat' (first|(refine J1 ?_;conv=>whnf)|(refine J2 ?_;conv=>whnf)|(refine ⟨fun h=>?_,fun h=>?_⟩<;>conv=>whnf)|(refine At (I3 _ _ _) rfl (A8 ?_))|(refine Ep ?_;conv=>whnf)|fail)
 all_goals (refine Ap A0 rfl rfl ⟨congrArg vb ?_,trivial⟩;(rw [Bool.eq_iff_iff];simp only [Jf,Hy,beq_iff_eq,beq_eq_false_iff_ne,bne_iff_ne,bne_eq_false_iff_eq,Bool.not_eq_true',Bool.not_eq_false',Go.Sx.Ah,Go.Sx.Aw,decide_eq_true_eq,decide_eq_false_iff_not,Bool.false_eq_true,iff_false,false_iff,iff_true,true_iff,ne_eq] at * <;>omega))
theorem Hx (r:Ae):Be Tryz.prog 108 [.agg r.c] [.one (vb (Ib r))]:=by
 refine B5 A0 false Tryz.func108 rfl Az fun W=>?_
 conv=>whnf
 repeat' (first|(refine J1 ?_;conv=>whnf)|(refine J2 ?_;conv=>whnf)|(refine ⟨fun h=>?_,fun h=>?_⟩<;>conv=>whnf)|(refine At (Fc _ _ _) rfl (A8 ?_))|(refine At (Uh r.stamp) rfl (A8 ?_))|(refine Ep ?_;conv=>whnf)|fail)
 all_goals (refine Ap A0 rfl rfl ⟨congrArg vb ?_,trivial⟩;(rw [Bool.eq_iff_iff];simp only [Jf,Hy,beq_iff_eq,beq_eq_false_iff_ne,bne_iff_ne,bne_eq_false_iff_eq,Bool.not_eq_true',Bool.not_eq_false',Go.Sx.Ah,Go.Sx.Aw,decide_eq_true_eq,decide_eq_false_iff_not,Bool.false_eq_true,iff_false,false_iff,iff_true,true_iff,ne_eq] at * <;>omega))
theorem A50 (k v:Int):Be Tryz.prog 194 [.one (vi k),.one (vi v)] [.one (vb (decide ((0≤k∧k≤99)∧(0≤v∧v≤999))))]:=by
 refine B5 A0 false Tryz.func194 rfl Az fun W=>?_
 conv=>whnf
 repeat' (first|(refine J1 ?_;conv=>whnf)|(refine J2 ?_;conv=>whnf)|(refine ⟨fun h=>?_,fun h=>?_⟩<;>conv=>whnf)|(refine At (I3 _ _ _) rfl (A8 ?_))|(refine Ep ?_;conv=>whnf)|fail)
 all_goals (refine Ap A0 rfl rfl ⟨congrArg vb ?_,trivial⟩;(rw [Bool.eq_iff_iff];simp only [Jf,Hy,beq_iff_eq,beq_eq_false_iff_ne,bne_iff_ne,bne_eq_false_iff_eq,Bool.not_eq_true',Bool.not_eq_false',Go.Sx.Ah,Go.Sx.Aw,decide_eq_true_eq,decide_eq_false_iff_not,Bool.false_eq_true,iff_false,false_iff,iff_true,true_iff,ne_eq] at * <;>omega))
theorem Rz (r:Ae):Be Tryz.prog 168 [.agg r.c] [.one (vb (Ib r))]:=by
 refine B5 A0 false Tryz.func168 rfl Az fun W=>?_
 conv=>whnf
 repeat' (first|(refine J1 ?_;conv=>whnf)|(refine J2 ?_;conv=>whnf)|(refine ⟨fun h=>?_,fun h=>?_⟩<;>conv=>whnf)|(refine At (I3 _ _ _) rfl (A8 ?_))|(refine At (A3o r.stamp) rfl (A8 ?_))|(refine At (A50 r.key r.val) rfl (A8 ?_))|(refine Ep ?_;conv=>whnf)|fail)
 all_goals (refine Ap A0 rfl rfl ⟨congrArg vb ?_,trivial⟩;(rw [Bool.eq_iff_iff];simp only [Jf,Hy,beq_iff_eq,beq_eq_false_iff_ne,bne_iff_ne,bne_eq_false_iff_eq,Bool.not_eq_true',Bool.not_eq_false',Go.Sx.Ah,Go.Sx.Aw,decide_eq_true_eq,decide_eq_false_iff_not,Bool.false_eq_true,iff_false,false_iff,iff_true,true_iff,ne_eq] at * <;>omega))
def Ka (a b:Int):Int:=if a<b then-1 else if a>b then 1 else 0
def Ot:List Int→List Int→Int
 |a::x,b::y=>if Ka a b=0 then Ot x y else Ka a b
 |_,_=>0
theorem A93 {a b:List Int}{k:Nat}(h:k<a.length)(hl:a.length=b.length):Ot (a.drop k) (b.drop k)=if Ka (a.getD k default) (b.getD k default)=0 then Ot (a.drop (k+1)) (b.drop (k+1)) else Ka (a.getD k default) (b.getD k default):=by
 have h2:k<b.length:=by omega
 rw [List.drop_eq_getElem_cons h,List.drop_eq_getElem_cons h2,Ot,List.getD,List.getD,List.getElem?_eq_getElem h,List.getElem?_eq_getElem h2]
 rfl
theorem B28 {a b:List Int}{k:Nat}(h:¬ k<a.length):Ot (a.drop k) (b.drop k)=0:=by
 rw [List.drop_of_length_le Ac]
 rfl
theorem A7t (n:Int):Be Tryz.prog 222 [.one (vi n)] [.one (vb false)]:=by
 refine B5 A0 false Tryz.func222 rfl Az fun W=>?_
 conv=>whnf
 exact Ap A0 rfl rfl ⟨congrArg vb Cv,trivial⟩
theorem A5y (a b:Int):Be Tryz.prog 220 [.one (vi a),.one (vi b)] [.one (vi (Ka a b))]:=by
 refine B5 A0 false Tryz.func220 rfl Az fun W=>?_
 conv=>whnf
 refine At (A7t a) rfl (A8 ?_)
 refine At (A7t b) rfl (A8 ?_)
 refine A3p (by first|with_reducible rfl|assumption|(simp only [decide_eq_false_iff_not];omega)|simp) ?_
 conv=>whnf
 refine A3p (by first|with_reducible rfl|assumption|(simp only [decide_eq_false_iff_not];omega)|simp) ?_
 conv=>whnf
 refine F4 (fun h=>?_) fun h=>?_<;>conv=>whnf
 ·exact Ap A0 rfl rfl ⟨congrArg vi (by rw [Ka,if_pos h]),trivial⟩
 refine F4 (fun h2=>?_) fun h2=>?_<;>conv=>whnf
 ·exact Ap A0 rfl rfl ⟨congrArg vi (by rw [Ka,if_neg h,if_pos h2]),trivial⟩
 exact Ap A0 rfl rfl ⟨congrArg vi (by rw [Ka,if_neg h,if_neg h2]),trivial⟩
theorem B0q (a b:Int):Be Tryz.prog 206 [.one (vi a),.one (vi b)] [.one (vi (Ka a b))]:=by
 refine B5 A0 false Tryz.func206 rfl Az fun W=>?_
 conv=>whnf
 refine F4 (fun h=>?_) fun h=>?_<;>conv=>whnf
 ·exact Ap A0 rfl rfl ⟨congrArg vi (by rw [Ka,if_pos h]),trivial⟩
 refine F4 (fun h2=>?_) fun h2=>?_<;>conv=>whnf
 ·exact Ap A0 rfl rfl ⟨congrArg vi (by rw [Ka,if_neg h,if_pos h2]),trivial⟩
 exact Ap A0 rfl rfl ⟨congrArg vi (by rw [Ka,if_neg h,if_neg h2]),trivial⟩
theorem A3l (a b:List Int)(hl:a.length=b.length)(ha:a.length≤16777216):Be Tryz.prog 216 [.one (Au a),.one (Au b)] [.one (vi (Ot a b))]:=by
 refine B5 A0 false Tryz.func216 rfl Az fun W=>?_
 conv=>whnf
 refine C0 A0 false [] (fun k:Nat=>[(11,.c (vi k))]) (fun k=>[]) (fun k=>[])
  (fun k=>k≤a.length∧Ot (a.drop k) (b.drop k)=Ot a b) (fun k=>a.length-k) 0 ⟨Nat.zero_le _,by first|rfl|assumption|simp⟩ ⟨G3,trivial⟩ trivial trivial Co A7 (fun k hk=>?_)
 obtain ⟨hk,he⟩:=hk
 conv=>whnf
 refine F4 (fun h=>?_) fun h=>?_<;>conv=>whnf
 ·have h:k<a.length:=by omega
  rw [A93 h hl] at he
  (repeat refine An ?_)
  refine F4 (fun h2=>?_) fun h2=>?_<;>conv=>whnf
  ·omega
  (repeat refine An ?_)
  refine At (A5y (a.getD k default) (b.getD k default)) rfl (A8 ?_)
  refine ⟨fun h3=>have h3:=bne_iff_ne.1 h3;?_,fun h3=>have h3:=bne_eq_false_iff_eq.1 h3;?_⟩<;>conv=>whnf
  ·rw [if_neg h3] at he
   exact Ap A0 rfl rfl ⟨congrArg vi he.symm,trivial⟩
  rw [if_pos h3] at he
  (repeat refine An ?_)
  refine B8 [] (k+1) ⟨by omega,he⟩ Ac ⟨rfl,trivial⟩ trivial trivial A7 Co A7
 rw [B28 Ac] at he
 refine F4 (fun h4=>?_) fun h4=>?_<;>conv=>whnf
 ·omega
 exact Ap A0 rfl rfl ⟨congrArg vi he.symm,trivial⟩
theorem A3n (a b:List Int)(hl:a.length=b.length)(ha:a.length≤16777216):Be Tryz.prog 201 [.one (Au a),.one (Au b)] [.one (vi (Ot a b))]:=by
 refine B5 A0 false Tryz.func201 rfl Az fun W=>?_
 conv=>whnf
 refine At (A3l a b hl ha) rfl (A8 ?_)
 exact Ap A0 rfl rfl ⟨rfl,trivial⟩
def Lr (x:Bj):List Int:=[x.epoch,x.op,x.key,x.val]
def Ja (a b:Bj):Int:=Ot (Lr a) (Lr b)
theorem Y1 (a b:Bj):Be Tryz.prog 175 [.agg a.c,.agg b.c] [.one (vi (Ja a b))]:=by
 refine B5 A0 false Tryz.func175 rfl Az fun W=>?_
 conv=>whnf
 refine Fl 2 (Au (Lr a)) rfl (Bq rfl Cg) ?_
 refine Fl 3 (Au (Lr b)) rfl (Bq rfl Cg) ?_
 refine At (A3n (Lr a) (Lr b) rfl (by simp [Lr])) rfl (A8 ?_)
 exact Ap A0 rfl rfl ⟨rfl,trivial⟩
def A9b (a b:Bj):List Int:=[Ka a.epoch b.epoch,Ka a.op b.op,Ka a.key b.key,Ka a.val b.val]
theorem Wi:∀(l m:List Int) (k:Nat),(∀i,i<k→Ka (l.getD i default) (m.getD i default)=0)→l.length=m.length→k<l.length→Ka (l.getD k default) (m.getD k default)≠0→Ot l m=Ka (l.getD k default) (m.getD k default)
 | [],_,_,_,_,h,_=>by simp at h
 |_::_,[],_,_,h,_,_=>by simp at h
 |a::x,b::y,0,_,_,_,h=>by rw [Ot,if_neg (show ¬ Ka a b=0 from h)];rfl
 |a::x,b::y,k+1,h0,hl,hk,h=>by
  have:=h0 0 Ac
  rw [Ot,if_pos (show Ka a b=0 from this)]
  exact Wi x y k (fun i hi=>h0 (i+1) Ac) (by simpa using hl) (by simpa using hk) h
theorem Z9:∀(l m:List Int),(∀i,i<l.length→Ka (l.getD i default) (m.getD i default)=0)→l.length=m.length→Ot l m=0
 | [],_,_,_=>by rw [Ot];simp
 |_::_,[],_,h=>by simp at h
 |a::x,b::y,h0,hl=>by
  have:=h0 0 Cv
  rw [Ot,if_pos (show Ka a b=0 from this)]
  exact Z9 x y (fun i hi=>h0 (i+1) (by simpa using hi)) (by simpa using hl)
theorem Qc (a b:Bj):Be Tryz.prog 180 [.agg a.c,.agg b.c] [.one (vi (Ja a b))]:=by
 refine B5 A0 false Tryz.func180 rfl Az fun W=>?_
 conv=>whnf
 repeat' (first|(refine J1 ?_;conv=>whnf)|(refine J2 ?_;conv=>whnf)|(refine ⟨fun h=>?_,fun h=>?_⟩<;>conv=>whnf)|(refine At (B0q _ _) rfl (A8 ?_))|(refine Ep ?_;conv=>whnf)|(refine Ax 1 rfl [0,1,2,3,5,6,7,8,10,11,12,13,15,16,17,18,4,9,14,19,20,21] A7 (A8 ?_))|fail)
 refine Eo 2 (Au (A9b a b)) rfl (Bq rfl Cg) ?_
 refine C0 A0 false [] (fun k:Nat=>[(6,.c (vi k))]) (fun k=>[]) (fun k=>[⟨2,Au (A9b a b)⟩])
  (fun k=>k≤4∧∀i,i<k→(A9b a b).getD i default=0) (fun k=>4-k) 0 ⟨Nat.zero_le _,by first|rfl|assumption|simp⟩ ⟨G3,trivial⟩ trivial ⟨Ek,trivial⟩ Co A7 (fun k hk=>?_)
 obtain ⟨hk,he⟩:=hk
 conv=>whnf
 refine F4 (fun h=>?_) fun h=>?_<;>conv=>whnf
 ·have h:k<4:=by omega
  have hk:(A9b a b).length=4:=rfl
  have hq:∀i,i<4→(A9b a b).getD i default=Ka ((Lr a).getD i default) ((Lr b).getD i default):=fun i hi=>by
   match i,hi with
   | 0,_=>rfl
   | 1,_=>rfl
   | 2,_=>rfl
   | 3,_=>rfl
  (repeat refine An ?_)
  refine ⟨fun h3=>have h3:=bne_iff_ne.1 h3;?_,fun h3=>have h3:=bne_eq_false_iff_eq.1 h3;?_⟩<;>conv=>whnf
  ·(repeat refine An ?_)
   exact Ap A0 rfl rfl ⟨congrArg vi ((Wi _ _ k (fun i hi=>(hq i Ac).symm.trans (he i hi)) rfl h (by rw [←hq k h];exact h3)).trans (hq k h).symm),trivial⟩
  (repeat refine An ?_)
  refine B8 [] (k+1) ⟨by omega,fun i hi=>(Nat.lt_succ_iff_lt_or_eq.1 hi).elim (fun h4=>he i h4) (fun h4=>h4▸h3)⟩ Ac ⟨rfl,trivial⟩ ⟨rfl,trivial⟩ trivial A7 Co A7
 have hq:∀i,i<4→(A9b a b).getD i default=Ka ((Lr a).getD i default) ((Lr b).getD i default):=fun i hi=>by
  match i,hi with
  | 0,_=>rfl
  | 1,_=>rfl
  | 2,_=>rfl
  | 3,_=>rfl
 exact Ap A0 rfl rfl ⟨congrArg vi (Z9 (Lr a) (Lr b) (fun i hi=>(hq i hi).symm.trans (he i (by have:i<4:=hi;omega))) rfl),trivial⟩
def T1 (g:Aq) (k:Int):Int:=(g.nodes.getD k.toNat default).kind
def O8 (g:Aq) (i:Nat) (x:Av) (k:Int):Prop:=k<g.nodes.length∧(x.kind=7→k≤i∧(T1 g k=5∨T1 g k=6))∧(x.kind≠7→i<k)
instance (g:Aq) (i:Nat) (x:Av) (k:Int):Decidable (O8 g i x k):=by unfold O8;infer_instance
def Ln (g:Aq) (i:Nat):Prop:=K6 (g.nodes.getD i default)∧((g.nodes.getD i default).kind=1↔i=0)∧∀k∈(g.nodes.getD i default).outs,O8 g i (g.nodes.getD i default) k
instance (g:Aq) (i:Nat):Decidable (Ln g i):=by unfold Ln;infer_instance
def Ft (g:Aq):Prop:=(1≤g.nodes.length∧g.nodes.length≤8)∧(1≤g.workers∧g.workers≤4)∧(1≤g.cap∧g.cap≤4)∧∀i,i<g.nodes.length→Ln g i
instance (g:Aq):Decidable (Ft g):=by unfold Ft;infer_instance
def Hi (g:Aq):Bool:=decide (Ft g)
def J4 (p:Nat→Prop) (k:Nat):Prop:=∀i,i<k→p i
theorem Da (p:Nat→Prop):J4 p 0:=fun i h=>absurd h (Nat.not_lt_zero i)
theorem D9 {p:Nat→Prop}{k:Nat}(h:J4 p k)(hk:p k):J4 p (k+1):=fun i hi=>by
 by_cases e:i=k
 ·subst e;exact hk
 exact h i Ac
theorem Gg {α:Type} [Inhabited α] {l:List α}{p:α→Prop}(h:J4 (fun i=>p (l.getD i default)) l.length):∀x∈l,p x:=fun x hx=>by
 obtain ⟨i,hi,e⟩:=List.getElem_of_mem hx
 have:p (l.getD i default):=h i hi
 rw [List.getD,List.getElem?_eq_getElem hi] at this
 rw [←e];exact this
theorem Aq.nodes_le {g:Aq}{n:Nat}(h:g.w≤n):g.nodes.length≤n:=by
 have:g.nodes.length+(g.nodes.map Av.w).sum≤n:=h
 omega
theorem Aq.node_le {g:Aq}{n:Nat}(h:g.w≤n){k:Nat}(hk:k<g.nodes.length):(g.nodes.getD k default).w≤n:=by
 have:g.nodes.length+(g.nodes.map Av.w).sum≤n:=h
 have hle:=H0 Av.w g.nodes k hk
 omega
theorem B3s {z:Int}{k:Nat}(h:((z==1) !=((k:Int)==0))=true):¬ (z=1↔k=0):=by
 intro q
 by_cases e:k=0
 ·have:=q.2 e
  subst this;subst e
  exact absurd h Az
 have e1:¬ z=1:=fun e2=>e (q.1 e2)
 rw [beq_eq_false_iff_ne.2 e1,beq_eq_false_iff_ne.2 (show (k:Int)≠0 by omega)] at h
 exact absurd h Az
theorem B3r {z:Int}{k:Nat}(h:((z==1) !=((k:Int)==0))=false):z=1↔k=0:=by
 have h:=bne_eq_false_iff_eq.1 h
 constructor
 ·intro e
  have h2:((k:Int)==0)=true:=by rw [←h,e];rfl
  have:=eq_of_beq h2
  omega
 intro e
 have h2:(z==1)=true:=by rw [h,e];rfl
 exact eq_of_beq h2
theorem Iz (g:Aq)(hg:g.w≤16777216):Be Tryz.prog 107 [.agg g.c] [.one (vb (Hi g))]:=by
 have hn:=Aq.nodes_le hg
 have hu:=Da (Ln g)
 refine B5 A0 false Tryz.func107 rfl Az fun W=>?_
 conv=>whnf
 repeat' (first|(refine J1 ?_;conv=>whnf)|(refine J2 ?_;conv=>whnf)|(refine ⟨fun h=>?_,fun h=>?_⟩<;>conv=>whnf)|(refine At (Fc _ _ _) rfl (A8 ?_))|(refine Ep ?_;conv=>whnf)|fail)
 all_goals try (refine Ap A0 rfl rfl ⟨congrArg vb (decide_eq_false fun p=>?_),trivial⟩;have p1:=p.1;have p2:=p.2.1;have p3:=p.2.2.1;clear p;simp only [beq_iff_eq,beq_eq_false_iff_ne,bne_iff_ne,bne_eq_false_iff_eq,Bool.not_eq_true',Bool.not_eq_false',Go.Sx.Ah,Go.Sx.Aw,decide_eq_true_eq,decide_eq_false_iff_not,ne_eq,Int.not_lt,Int.not_le,ge_iff_le,gt_iff_lt,Int.toNat_zero,Int.toNat_one,Int.toNat_natCast] at * <;>omega)
 refine C0 A0 false [] (fun k:Nat=>[(3,.c (vi k))]) (fun k=>[⟨0,[.c (Bn g.nodes),.c (vi g.workers),.c (vi g.cap)]⟩]) (fun k=>[])
  (fun k=>k≤g.nodes.length∧J4 (Ln g) k) (fun k=>g.nodes.length-k) 0 ⟨Nat.zero_le _,by first|rfl|assumption|simp⟩ ⟨G3,trivial⟩ Cg trivial Co A7 (fun k hk=>?_)
 obtain ⟨hk,he⟩:=hk
 conv=>whnf
 refine F4 (fun h'=>?_) fun h'=>?_<;>conv=>whnf
 ·have h':k<g.nodes.length:=by omega
  have hw:=Aq.node_le hg h'
  have hq:(g.nodes.getD k default).outs.length≤16777216:=hw
  have hv:=Da (fun j=>O8 g k (g.nodes.getD k default) ((g.nodes.getD k default).outs.getD j default))
  repeat' (first|(refine J1 ?_;conv=>whnf)|(refine J2 ?_;conv=>whnf)|(refine ⟨fun h=>?_,fun h=>?_⟩<;>conv=>whnf)|(refine At (Xl (g.nodes.getD k default) hw) rfl (I5 ?_);conv=>whnf)|(refine Ep ?_;conv=>whnf)|fail)
  ·exact Ap A0 rfl rfl ⟨congrArg vb (decide_eq_false fun p=>by rw [show Mb (g.nodes.getD k default)=true from decide_eq_true (p.2.2.2 k h').1] at h;exact absurd h Az),trivial⟩
  ·exact Ap A0 rfl rfl ⟨congrArg vb (decide_eq_false fun p=>B3s h (p.2.2.2 k h').2.1),trivial⟩
  rename_i hno
  have hN:K6 (g.nodes.getD k default):=of_decide_eq_true (show Mb (g.nodes.getD k default)=true by cases hq2:Mb (g.nodes.getD k default)<;>simp_all only [Bool.not_false,Bool.true_eq_false])
  have hK:(g.nodes.getD k default).kind=1↔k=0:=B3r h
  have hO:=hN.2.2.2.2.2.2.2.2
  refine C0 A0 false [] (fun j:Nat=>[(5,.c (vi j))]) (fun j=>[⟨0,[.c (Bn g.nodes),.c (vi g.workers),.c (vi g.cap)]⟩,⟨1,[.c (vi (g.nodes.getD k default).kind),.c (vi (g.nodes.getD k default).a),.c (vi (g.nodes.getD k default).b),.c (Au (g.nodes.getD k default).outs)]⟩]) (fun j=>[])
   (fun j=>j≤(g.nodes.getD k default).outs.length∧J4 (fun j=>O8 g k (g.nodes.getD k default) ((g.nodes.getD k default).outs.getD j default)) j) (fun j=>(g.nodes.getD k default).outs.length-j) 0 ⟨Nat.zero_le _,by first|rfl|assumption|simp⟩ ⟨G3,trivial⟩ Cg trivial Co A7 (fun j hj=>?_)
  obtain ⟨hj,hej⟩:=hj
  conv=>whnf
  refine F4 (fun h2=>?_) fun h2=>?_<;>conv=>whnf
  ·have h2:j<(g.nodes.getD k default).outs.length:=by first|omega|(simp only [Int.toNat_natCast] at h2;omega)
   have hb:=hO _ (Ay (d:=default) h2)
   repeat' (first|(refine J1 ?_;conv=>whnf)|(refine J2 ?_;conv=>whnf)|(refine ⟨fun h=>?_,fun h=>?_⟩<;>conv=>whnf)|(refine Ep ?_;conv=>whnf)|fail)
   all_goals try (refine Ap A0 rfl rfl ⟨congrArg vb (decide_eq_false fun p=>?_),trivial⟩;have q:=(p.2.2.2 k h').2.2 _ (Ay (d:=default) h2);clear p hej he hv hu hN hK hO;simp only [O8,T1] at q;simp only [beq_iff_eq,beq_eq_false_iff_ne,bne_iff_ne,bne_eq_false_iff_eq,Bool.not_eq_true',Bool.not_eq_false',Go.Sx.Ah,Go.Sx.Aw,decide_eq_true_eq,decide_eq_false_iff_not,ne_eq,Int.not_lt,Int.not_le,ge_iff_le,gt_iff_lt,Int.toNat_zero,Int.toNat_one,Int.toNat_natCast] at * <;>omega)
   all_goals
    refine B8 [] (j+1) ⟨by omega,D9 hej (by clear hej he hv hu hN hK hO;simp only [O8,T1];simp only [beq_iff_eq,beq_eq_false_iff_ne,bne_iff_ne,bne_eq_false_iff_eq,Bool.not_eq_true',Bool.not_eq_false',Go.Sx.Ah,Go.Sx.Aw,decide_eq_true_eq,decide_eq_false_iff_not,ne_eq,Int.not_lt,Int.not_le,ge_iff_le,gt_iff_lt,Int.toNat_zero,Int.toNat_one,Int.toNat_natCast] at * <;>omega)⟩ Ac ⟨rfl,trivial⟩ trivial Cg A7 Co A7
  have e:j=(g.nodes.getD k default).outs.length:=by first|omega|(simp only [Int.toNat_natCast] at h2;omega)
  (repeat refine An ?_)
  refine B8 [] (k+1) ⟨by omega,D9 he ⟨hN,hK,Gg (e▸hej)⟩⟩ Ac ⟨rfl,trivial⟩ trivial Cg A7 Co A7
 have e:k=g.nodes.length:=by omega
 exact Ap A0 rfl rfl ⟨congrArg vb (decide_eq_true ⟨by simp only [beq_iff_eq,beq_eq_false_iff_ne,bne_iff_ne,bne_eq_false_iff_eq,Bool.not_eq_true',Bool.not_eq_false',Go.Sx.Ah,Go.Sx.Aw,decide_eq_true_eq,decide_eq_false_iff_not,ne_eq,Int.not_lt,Int.not_le,ge_iff_le,gt_iff_lt,Int.toNat_zero,Int.toNat_one,Int.toNat_natCast] at * <;>omega,by simp only [beq_iff_eq,beq_eq_false_iff_ne,bne_iff_ne,bne_eq_false_iff_eq,Bool.not_eq_true',Bool.not_eq_false',Go.Sx.Ah,Go.Sx.Aw,decide_eq_true_eq,decide_eq_false_iff_not,ne_eq,Int.not_lt,Int.not_le,ge_iff_le,gt_iff_lt,Int.toNat_zero,Int.toNat_one,Int.toNat_natCast] at * <;>omega,by simp only [beq_iff_eq,beq_eq_false_iff_ne,bne_iff_ne,bne_eq_false_iff_eq,Bool.not_eq_true',Bool.not_eq_false',Go.Sx.Ah,Go.Sx.Aw,decide_eq_true_eq,decide_eq_false_iff_not,ne_eq,Int.not_lt,Int.not_le,ge_iff_le,gt_iff_lt,Int.toNat_zero,Int.toNat_one,Int.toNat_natCast] at * <;>omega,e▸he⟩),trivial⟩
end Go.Proofs.YtdendlkeiaccpaaGreatDoor
