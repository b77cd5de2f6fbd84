/- Part 8 of the proof that each of the laws FnExactRunScriptOf, FnExactSpreadResult returns true for every input. No conditions. -/
import Derived.Test.YtlbmkgkmbjadcaaGreatP4
import Derived.Test.YtlbmkgkmbjadcaaGreatP7

set_option linter.unusedSimpArgs false
set_option linter.unusedVariables false
set_option maxRecDepth 100000
namespace Go.Proofs.YtlbmkgkmbjadcaaGreat
open Go.Sx
theorem Gv (n lo hi:Int):Aq Tryz.prog 75 [.one (vi n),.one (vi lo),.one (vi hi)] [.one (vb (Eg n lo hi))]:=by
 refine Aj A0 false Tryz.func75 rfl Bs fun W=>?_
 conv=>whnf
 repeat' (first|(refine Ki ?_;conv=>whnf)|(refine Kj ?_;conv=>whnf)|(refine ⟨fun h=>?_,fun h=>?_⟩<;>conv=>whnf)|(refine Ah A0 rfl rfl ⟨?_,trivial⟩;conv=>whnf)|(refine Jn ?_;conv=>whnf)|fail)
 all_goals (refine congrArg vb ?_;simp_all [Eg]<;>omega)
theorem Hj (n lo hi:Int):Aq Tryz.prog 82 [.one (vi n),.one (vi lo),.one (vi hi)] [.one (vb (Eg n lo hi))]:=by
 refine Aj A0 false Tryz.func82 rfl Bs fun W=>?_
 conv=>whnf
 repeat' (first|(refine Ki ?_;conv=>whnf)|(refine Kj ?_;conv=>whnf)|(refine ⟨fun h=>?_,fun h=>?_⟩<;>conv=>whnf)|(refine Ah A0 rfl rfl ⟨?_,trivial⟩;conv=>whnf)|(refine Jn ?_;conv=>whnf)|fail)
 all_goals (refine congrArg vb ?_;simp_all [Eg]<;>omega)
def Gx (r:A3):Prop:=(0≤r.op∧r.op≤7)∧(0≤r.stamp.epoch∧r.stamp.epoch≤3)∧(0≤r.stamp.turn∧r.stamp.turn≤6)∧(0≤r.key∧r.key≤99)∧(0≤r.val∧r.val≤999)
instance (r:A3):Decidable (Gx r):=by unfold Gx;infer_instance
def F8 (r:A3):Bool:=decide (Gx r)
theorem Jc (r:A3):F8 r=true↔(0≤r.op∧r.op≤7)∧(0≤r.stamp.epoch∧r.stamp.epoch≤3)∧(0≤r.stamp.turn∧r.stamp.turn≤6)∧(0≤r.key∧r.key≤99)∧(0≤r.val∧r.val≤999):=decide_eq_true_iff
def H3 (s:Dq):Bool:=decide ((0≤s.epoch∧s.epoch≤3)∧(0≤s.turn∧s.turn≤6))
theorem Um (s:Dq):Aq Tryz.prog 140 [.agg s.c] [.one (vb (H3 s))]:=by
 refine Aj A0 false Tryz.func140 rfl Bs fun W=>?_
 conv=>whnf
 repeat' (first|(refine Ki ?_;conv=>whnf)|(refine Kj ?_;conv=>whnf)|(refine ⟨fun h=>?_,fun h=>?_⟩<;>conv=>whnf)|(refine Ai (Gv _ _ _) rfl (Ae ?_))|(refine Fe ?_;conv=>whnf)|fail)
 all_goals (refine Ah A0 rfl rfl ⟨congrArg vb ?_,trivial⟩;(rw [Bool.eq_iff_iff];simp only [Jc,H3,beq_iff_eq,beq_eq_false_iff_ne,bne_iff_ne,bne_eq_false_iff_eq,Bool.not_eq_true',Bool.not_eq_false',Go.Sx.Am,Go.Sx.Aw,decide_eq_true_eq,decide_eq_false_iff_not,Bool.false_eq_true,iff_false,false_iff,iff_true,true_iff,ne_eq] at * <;>omega))
theorem U5 (s:Dq):Aq Tryz.prog 151 [.agg s.c] [.one (vb (H3 s))]:=by
 refine Aj A0 false Tryz.func151 rfl Bs fun W=>?_
 conv=>whnf
 repeat' (first|(refine Ki ?_;conv=>whnf)|(refine Kj ?_;conv=>whnf)|(refine ⟨fun h=>?_,fun h=>?_⟩<;>conv=>whnf)|(refine Ai (Hj _ _ _) rfl (Ae ?_))|(refine Fe ?_;conv=>whnf)|fail)
 all_goals (refine Ah A0 rfl rfl ⟨congrArg vb ?_,trivial⟩;(rw [Bool.eq_iff_iff];simp only [Jc,H3,beq_iff_eq,beq_eq_false_iff_ne,bne_iff_ne,bne_eq_false_iff_eq,Bool.not_eq_true',Bool.not_eq_false',Go.Sx.Am,Go.Sx.Aw,decide_eq_true_eq,decide_eq_false_iff_not,Bool.false_eq_true,iff_false,false_iff,iff_true,true_iff,ne_eq] at * <;>omega))
theorem Hy (r:A3):Aq Tryz.prog 86 [.agg r.c] [.one (vb (F8 r))]:=by
 refine Aj A0 false Tryz.func86 rfl Bs fun W=>?_
 conv=>whnf
 repeat' (first|(refine Ki ?_;conv=>whnf)|(refine Kj ?_;conv=>whnf)|(refine ⟨fun h=>?_,fun h=>?_⟩<;>conv=>whnf)|(refine Ai (Gv _ _ _) rfl (Ae ?_))|(refine Ai (Um r.stamp) rfl (Ae ?_))|(refine Fe ?_;conv=>whnf)|fail)
 all_goals (refine Ah A0 rfl rfl ⟨congrArg vb ?_,trivial⟩;(rw [Bool.eq_iff_iff];simp only [Jc,H3,beq_iff_eq,beq_eq_false_iff_ne,bne_iff_ne,bne_eq_false_iff_eq,Bool.not_eq_true',Bool.not_eq_false',Go.Sx.Am,Go.Sx.Aw,decide_eq_true_eq,decide_eq_false_iff_not,Bool.false_eq_true,iff_false,false_iff,iff_true,true_iff,ne_eq] at * <;>omega))
theorem Wj (k v:Int):Aq Tryz.prog 152 [.one (vi k),.one (vi v)] [.one (vb (decide ((0≤k∧k≤99)∧(0≤v∧v≤999))))]:=by
 refine Aj A0 false Tryz.func152 rfl Bs fun W=>?_
 conv=>whnf
 repeat' (first|(refine Ki ?_;conv=>whnf)|(refine Kj ?_;conv=>whnf)|(refine ⟨fun h=>?_,fun h=>?_⟩<;>conv=>whnf)|(refine Ai (Hj _ _ _) rfl (Ae ?_))|(refine Fe ?_;conv=>whnf)|fail)
 all_goals (refine Ah A0 rfl rfl ⟨congrArg vb ?_,trivial⟩;(rw [Bool.eq_iff_iff];simp only [Jc,H3,beq_iff_eq,beq_eq_false_iff_ne,bne_iff_ne,bne_eq_false_iff_eq,Bool.not_eq_true',Bool.not_eq_false',Go.Sx.Am,Go.Sx.Aw,decide_eq_true_eq,decide_eq_false_iff_not,Bool.false_eq_true,iff_false,false_iff,iff_true,true_iff,ne_eq] at * <;>omega))
theorem Ht (r:A3):Aq Tryz.prog 98 [.agg r.c] [.one (vb (F8 r))]:=by
 refine Aj A0 false Tryz.func98 rfl Bs fun W=>?_
 conv=>whnf
 repeat' (first|(refine Ki ?_;conv=>whnf)|(refine Kj ?_;conv=>whnf)|(refine ⟨fun h=>?_,fun h=>?_⟩<;>conv=>whnf)|(refine Ai (Hj _ _ _) rfl (Ae ?_))|(refine Ai (U5 r.stamp) rfl (Ae ?_))|(refine Ai (Wj r.key r.val) rfl (Ae ?_))|(refine Fe ?_;conv=>whnf)|fail)
 all_goals (refine Ah A0 rfl rfl ⟨congrArg vb ?_,trivial⟩;(rw [Bool.eq_iff_iff];simp only [Jc,H3,beq_iff_eq,beq_eq_false_iff_ne,bne_iff_ne,bne_eq_false_iff_eq,Bool.not_eq_true',Bool.not_eq_false',Go.Sx.Am,Go.Sx.Aw,decide_eq_true_eq,decide_eq_false_iff_not,Bool.false_eq_true,iff_false,false_iff,iff_true,true_iff,ne_eq] at * <;>omega))
def K9 (a b:Int):Int:=if a<b then-1 else if a>b then 1 else 0
def P8:List Int→List Int→Int
 |a::x,b::y=>if K9 a b=0 then P8 x y else K9 a b
 |_,_=>0
theorem A9i {a b:List Int}{k:Nat}(h:k<a.length)(hl:a.length=b.length):P8 (a.drop k) (b.drop k)=if K9 (a.getD k default) (b.getD k default)=0 then P8 (a.drop (k+1)) (b.drop (k+1)) else K9 (a.getD k default) (b.getD k default):=by
 have h2:k<b.length:=by omega
 rw [List.drop_eq_getElem_cons h,List.drop_eq_getElem_cons h2,P8,List.getD,List.getD,List.getElem?_eq_getElem h,List.getElem?_eq_getElem h2]
 rfl
theorem B2j {a b:List Int}{k:Nat}(h:¬ k<a.length):P8 (a.drop k) (b.drop k)=0:=by
 rw [List.drop_of_length_le Ad]
 rfl
theorem A7j (n:Int):Aq Tryz.prog 266 [.one (vi n)] [.one (vb false)]:=by
 refine Aj A0 false Tryz.func266 rfl Bs fun W=>?_
 conv=>whnf
 exact Ah A0 rfl rfl ⟨congrArg vb C7,trivial⟩
theorem A5k (a b:Int):Aq Tryz.prog 263 [.one (vi a),.one (vi b)] [.one (vi (K9 a b))]:=by
 refine Aj A0 false Tryz.func263 rfl Bs fun W=>?_
 conv=>whnf
 refine Ai (A7j a) rfl (Ae ?_)
 refine Ai (A7j b) rfl (Ae ?_)
 refine F7 B0u ?_
 conv=>whnf
 refine F7 B0u ?_
 conv=>whnf
 refine F2 (fun h=>?_) fun h=>?_<;>conv=>whnf
 ·exact Ah A0 rfl rfl ⟨congrArg vi (by rw [K9,if_pos h]),trivial⟩
 ·refine F2 (fun h2=>?_) fun h2=>?_<;>conv=>whnf
  ·exact Ah A0 rfl rfl ⟨congrArg vi (by rw [K9,if_neg h,if_pos h2]),trivial⟩
  ·exact Ah A0 rfl rfl ⟨congrArg vi (by rw [K9,if_neg h,if_neg h2]),trivial⟩
theorem B0b (a b:Int):Aq Tryz.prog 250 [.one (vi a),.one (vi b)] [.one (vi (K9 a b))]:=by
 refine Aj A0 false Tryz.func250 rfl Bs fun W=>?_
 conv=>whnf
 refine F2 (fun h=>?_) fun h=>?_<;>conv=>whnf
 ·exact Ah A0 rfl rfl ⟨congrArg vi (by rw [K9,if_pos h]),trivial⟩
 ·refine F2 (fun h2=>?_) fun h2=>?_<;>conv=>whnf
  ·exact Ah A0 rfl rfl ⟨congrArg vi (by rw [K9,if_neg h,if_pos h2]),trivial⟩
  ·exact Ah A0 rfl rfl ⟨congrArg vi (by rw [K9,if_neg h,if_neg h2]),trivial⟩
theorem A27 (a b:List Int)(hl:a.length=b.length)(ha:a.length≤16777216):Aq Tryz.prog 257 [.one (Eu a),.one (Eu b)] [.one (vi (P8 a b))]:=by
 refine Aj A0 false Tryz.func257 rfl Bs fun W=>?_
 conv=>whnf
 refine B6 A0 false [] (fun k:Nat=>[(11,.c (vi k))]) (fun k=>[]) (fun k=>[])
  (fun k=>k≤a.length∧P8 (a.drop k) (b.drop k)=P8 a b) (fun k=>a.length-k) 0 ⟨Nat.zero_le _,by first|rfl|assumption|simp⟩ ⟨by first|rfl|simp [Cr,ren2,ren1,ren0],trivial⟩ trivial trivial Cc A5 (fun k hk=>?_)
 obtain ⟨hk,he⟩:=hk
 conv=>whnf
 refine F2 (fun h=>?_) fun h=>?_<;>conv=>whnf
 ·have h:k<a.length:=by omega
  rw [A9i h hl] at he
  (repeat refine An ?_)
  refine F2 (fun h2=>?_) fun h2=>?_<;>conv=>whnf
  ·omega
  (repeat refine An ?_)
  refine Ai (A5k (a.getD k default) (b.getD k default)) rfl (Ae ?_)
  refine ⟨fun h3=>have h3:=bne_iff_ne.1 h3;?_,fun h3=>have h3:=bne_eq_false_iff_eq.1 h3;?_⟩<;>conv=>whnf
  ·rw [if_neg h3] at he
   exact Ah A0 rfl rfl ⟨congrArg vi he.symm,trivial⟩
  ·rw [if_pos h3] at he
   (repeat refine An ?_)
   refine At [] (k+1) ⟨by omega,he⟩ Ad ⟨rfl,trivial⟩ trivial trivial A5 Cc A5
 ·rw [B2j Ad] at he
  refine F2 (fun h4=>?_) fun h4=>?_<;>conv=>whnf
  ·omega
  ·exact Ah A0 rfl rfl ⟨congrArg vi he.symm,trivial⟩
theorem A3b (a b:List Int)(hl:a.length=b.length)(ha:a.length≤16777216):Aq Tryz.prog 252 [.one (Eu a),.one (Eu b)] [.one (vi (P8 a b))]:=by
 refine Aj A0 false Tryz.func252 rfl Bs fun W=>?_
 conv=>whnf
 refine Ai (A27 a b hl ha) rfl (Ae ?_)
 exact Ah A0 rfl rfl ⟨rfl,trivial⟩
def M5 (x:Aa):List Int:=[x.epoch,x.op,x.key,x.val]
def J6 (a b:Aa):Int:=P8 (M5 a) (M5 b)
theorem Qb (a b:Aa):Aq Tryz.prog 240 [.agg a.c,.agg b.c] [.one (vi (J6 a b))]:=by
 refine Aj A0 false Tryz.func240 rfl Bs fun W=>?_
 conv=>whnf
 refine A68 2 (Eu (M5 a)) rfl (L6 rfl Cp) ?_
 refine A68 3 (Eu (M5 b)) rfl (L6 rfl Cp) ?_
 refine Ai (A3b (M5 a) (M5 b) rfl (by simp [M5])) rfl (Ae ?_)
 exact Ah A0 rfl rfl ⟨rfl,trivial⟩
def A8t (a b:Aa):List Int:=[K9 a.epoch b.epoch,K9 a.op b.op,K9 a.key b.key,K9 a.val b.val]
theorem Wr:∀(l m:List Int) (k:Nat),(∀i,i<k→K9 (l.getD i default) (m.getD i default)=0)→l.length=m.length→k<l.length→K9 (l.getD k default) (m.getD k default)≠0→P8 l m=K9 (l.getD k default) (m.getD k default)
 | [],_,_,_,_,h,_=>by simp at h
 |_::_,[],_,_,h,_,_=>by simp at h
 |a::x,b::y,0,_,_,_,h=>by rw [P8,if_neg (show ¬ K9 a b=0 from h)];rfl
 |a::x,b::y,k+1,h0,hl,hk,h=>by
  have:=h0 0 Ad
  rw [P8,if_pos (show K9 a b=0 from this)]
  exact Wr x y k (fun i hi=>h0 (i+1) Ad) (by simpa using hl) (by simpa using hk) h
theorem Zh:∀(l m:List Int),(∀i,i<l.length→K9 (l.getD i default) (m.getD i default)=0)→l.length=m.length→P8 l m=0
 | [],_,_,_=>by rw [P8];simp
 |_::_,[],_,h=>by simp at h
 |a::x,b::y,h0,hl=>by
  have:=h0 0 C7
  rw [P8,if_pos (show K9 a b=0 from this)]
  exact Zh x y (fun i hi=>h0 (i+1) (by simpa using hi)) (by simpa using hl)
theorem Qp (a b:Aa):Aq Tryz.prog 238 [.agg a.c,.agg b.c] [.one (vi (J6 a b))]:=by
 refine Aj A0 false Tryz.func238 rfl Bs fun W=>?_
 conv=>whnf
 repeat' (first|(refine Ki ?_;conv=>whnf)|(refine Kj ?_;conv=>whnf)|(refine ⟨fun h=>?_,fun h=>?_⟩<;>conv=>whnf)|(refine Ai (B0b _ _) rfl (Ae ?_))|(refine Fe ?_;conv=>whnf)|(refine Ak 1 rfl [0,1,2,3,5,6,7,8,10,11,12,13,15,16,17,18,4,9,14,19,20,21] A5 (Ae ?_))|fail)
 refine Gk 2 (Eu (A8t a b)) rfl (L6 rfl Cp) ?_
 refine B6 A0 false [] (fun k:Nat=>[(6,.c (vi k))]) (fun k=>[]) (fun k=>[⟨2,Eu (A8t a b)⟩])
  (fun k=>k≤4∧∀i,i<k→(A8t a b).getD i default=0) (fun k=>4-k) 0 ⟨Nat.zero_le _,by first|rfl|assumption|simp⟩ ⟨by first|rfl|simp [Cr,ren2,ren1,ren0],trivial⟩ trivial ⟨by first|rfl|exact (congrArg (fun l=>Cb _ _ l) (List.append_nil _)).symm|(show (_:Ab)=_;simp)|simp,trivial⟩ Cc A5 (fun k hk=>?_)
 obtain ⟨hk,he⟩:=hk
 conv=>whnf
 refine F2 (fun h=>?_) fun h=>?_<;>conv=>whnf
 ·have h:k<4:=by omega
  have hk:(A8t a b).length=4:=rfl
  have hq:∀i,i<4→(A8t a b).getD i default=K9 ((M5 a).getD i default) ((M5 b).getD i default):=fun i hi=>by
   match i,hi with
   | 0,_=>rfl
   | 1,_=>rfl
   | 2,_=>rfl
   | 3,_=>rfl
  (repeat refine An ?_)
  refine ⟨fun h3=>have h3:=bne_iff_ne.1 h3;?_,fun h3=>have h3:=bne_eq_false_iff_eq.1 h3;?_⟩<;>conv=>whnf
  ·(repeat refine An ?_)
   exact Ah A0 rfl rfl ⟨congrArg vi ((Wr _ _ k (fun i hi=>(hq i Ad).symm.trans (he i hi)) rfl h (by rw [←hq k h];exact h3)).trans (hq k h).symm),trivial⟩
  ·(repeat refine An ?_)
   refine At [] (k+1) ⟨by omega,fun i hi=>(Nat.lt_succ_iff_lt_or_eq.1 hi).elim (fun h4=>he i h4) (fun h4=>h4▸h3)⟩ Ad ⟨rfl,trivial⟩ ⟨rfl,trivial⟩ trivial A5 Cc A5
 ·have hq:∀i,i<4→(A8t a b).getD i default=K9 ((M5 a).getD i default) ((M5 b).getD i default):=fun i hi=>by
   match i,hi with
   | 0,_=>rfl
   | 1,_=>rfl
   | 2,_=>rfl
   | 3,_=>rfl
  exact Ah A0 rfl rfl ⟨congrArg vi (Zh (M5 a) (M5 b) (fun i hi=>(hq i hi).symm.trans (he i (by have:i<4:=hi;omega))) rfl),trivial⟩
def Jm (x:Au):Prop:=(1≤x.kind∧x.kind≤8)∧(x.kind=2→0≤x.a∧x.a≤999∧x.b=0)∧(x.kind=3→1≤x.a∧x.a≤10∧0≤x.b∧x.b≤x.a-1)∧(x.kind=4→0≤x.a∧x.a≤99∧x.b=0)∧
 (x.kind≠2→x.kind≠3→x.kind≠4→x.a=0∧x.b=0)∧x.outs.length≤2∧(x.kind=8→x.outs.length=0)∧(x.outs.length=2→x.outs.getD 0 default≠x.outs.getD 1 default)∧(∀n∈x.outs,0≤n∧n≤7)
instance (x:Au):Decidable (Jm x):=by unfold Jm;infer_instance
def Ko (x:Au):Bool:=decide (Jm x)
def Va (l:List Int) (k:Nat):Prop:=∀i,i<k→0≤l.getD i default∧l.getD i default≤7
theorem X1 {l:List Int}{k:Nat}(h:Va l k)(h1:0≤l.getD k default)(h2:l.getD k default≤7):Va l (k+1):=fun i hi=>by
 by_cases e:i=k
 ·subst e;exact ⟨h1,h2⟩
 ·exact h i Ad
theorem Zp {l:List Int}(h:Va l l.length):∀n∈l,0≤n∧n≤7:=fun n hn=>by
 obtain ⟨i,hi,e⟩:=List.getElem_of_mem hn
 have:=h i hi
 rw [List.getD,List.getElem?_eq_getElem hi] at this
 rw [←e];exact this
def Vb (x:Au):Prop:=(1≤x.kind∧x.kind≤8)∧(x.kind=2→0≤x.a∧x.a≤999∧x.b=0)∧(x.kind=3→1≤x.a∧x.a≤10∧0≤x.b∧x.b≤x.a-1)∧(x.kind=4→0≤x.a∧x.a≤99∧x.b=0)∧
 (x.kind≠2→x.kind≠3→x.kind≠4→x.a=0∧x.b=0)
theorem Jm.pars {x:Au}(h:Jm x):Vb x:=⟨h.1,h.2.1,h.2.2.1,h.2.2.2.1,h.2.2.2.2.1⟩
theorem Wm (x:Au)(hx:x.w≤16777216):Aq Tryz.prog 150 [.agg x.c] [.one (vb (Ko x))]:=by
 have hl:x.outs.length≤16777216:=hx
 refine B1m 6 A0 false Tryz.func150 rfl Bs fun W=>?_
 conv=>whnf
 refine B38 A0 false (J:=Unit) [5,6,7,8,9,10,11,12,13,14,15,16,17,18,19,20,21,22,23,24,25,26,27,28,29,30,31,32,33,34,35,36,37,38,39,40,41,42,43,44,45,46,47,48,49,50,51,52,53,54,55,56,57] (fun _=>[]) (fun _=>[⟨0,[.c (vi x.kind),.c (vi x.a),.c (vi x.b),.c (Eu x.outs)]⟩]) (fun _=>[]) (fun _=>Vb x) ?_ ?_
 ·conv=>whnf
  repeat' (first|(refine Ki ?_;conv=>whnf)|(refine Kj ?_;conv=>whnf)|(refine ⟨fun h=>?_,fun h=>?_⟩<;>conv=>whnf)|(refine Ai (Hj _ _ _) rfl (Ae ?_))|(refine Fe ?_;conv=>whnf)|(refine Ak 19 rfl [0,1,2,3,4,5,6,7,8,9,10,11,12,13,14,15,16,17,18,19,20,21,22,23,24,25,26,27,28,29,30,31] A5 (Ae ?_))|fail)
  all_goals first
   |(refine Ah A0 rfl rfl ⟨congrArg vb (decide_eq_false fun p=>?_),trivial⟩;have p:=p.pars;unfold Vb at p;obtain ⟨p1,p2,p3,p4,p5⟩:=p;simp only [beq_iff_eq,beq_eq_false_iff_ne,bne_iff_ne,bne_eq_false_iff_eq,Bool.not_eq_true',Bool.not_eq_false',Go.Sx.Am,Go.Sx.Aw,decide_eq_true_eq,decide_eq_false_iff_not,ne_eq,Int.not_lt,Int.not_le,ge_iff_le,gt_iff_lt,Int.toNat_zero,Int.toNat_one,Int.toNat_natCast] at * <;>omega)
   |(refine At [] () ?_ Bs trivial trivial Cp A5 trivial A5;refine ⟨?_,?_,?_,?_,?_⟩<;>(intros;simp only [beq_iff_eq,beq_eq_false_iff_ne,bne_iff_ne,bne_eq_false_iff_eq,Bool.not_eq_true',Bool.not_eq_false',Go.Sx.Am,Go.Sx.Aw,decide_eq_true_eq,decide_eq_false_iff_not,ne_eq,Int.not_lt,Int.not_le,ge_iff_le,gt_iff_lt,Int.toNat_zero,Int.toNat_one,Int.toNat_natCast] at * <;>omega))
 intro _ hp
 have hu:Va x.outs 0:=fun i h=>absurd h (Nat.not_lt_zero i)
 conv=>whnf
 unfold Vb at hp
 repeat' (first|(refine Ki ?_;conv=>whnf)|(refine Kj ?_;conv=>whnf)|(refine ⟨fun h=>?_,fun h=>?_⟩<;>conv=>whnf)|(refine Fe ?_;conv=>whnf)|(refine Ak 19 rfl [0,1,2,3,4,5,6,7,8,9,10,11,12,13,14,15,16,17,18,19,20,21,22,23,24,25,26,27,28,29,30,31] A5 (Ae ?_))|fail)
 all_goals try (refine Ah A0 rfl rfl ⟨congrArg vb (decide_eq_false fun p=>?_),trivial⟩;obtain ⟨p1,p2,p3,p4,p5,p6,p7,p8,p9⟩:=p;clear hp p1 p2 p3 p4 p5 p9;simp only [beq_iff_eq,beq_eq_false_iff_ne,bne_iff_ne,bne_eq_false_iff_eq,Bool.not_eq_true',Bool.not_eq_false',Go.Sx.Am,Go.Sx.Aw,decide_eq_true_eq,decide_eq_false_iff_not,ne_eq,Int.not_lt,Int.not_le,ge_iff_le,gt_iff_lt,Int.toNat_zero,Int.toNat_one,Int.toNat_natCast] at * <;>omega)
 all_goals
  refine B6 A0 false [] (fun k:Nat=>[(93,.c (vi k))]) (fun k=>[⟨0,[.c (vi x.kind),.c (vi x.a),.c (vi x.b),.c (Eu x.outs)]⟩]) (fun k=>[])
   (fun k=>k≤x.outs.length∧Va x.outs k) (fun k=>x.outs.length-k) 0 ⟨Nat.zero_le _,by first|rfl|assumption|simp⟩ ⟨by first|rfl|simp [Cr,ren2,ren1,ren0],trivial⟩ Cp trivial Cc A5 (fun k hk=>?_)
  obtain ⟨hk,he⟩:=hk
  conv=>whnf
  refine F2 (fun h'=>?_) fun h'=>?_<;>conv=>whnf
  ·have h':k<x.outs.length:=by omega
   (repeat refine An ?_)
   refine Ai (Hj (x.outs.getD k default) 0 7) rfl (Ae ?_)
   refine ⟨fun hc=>?_,fun hc=>?_⟩<;>conv=>whnf
   ·exact Ah A0 rfl rfl ⟨congrArg vb (decide_eq_false fun p=>by have p9:=p.2.2.2.2.2.2.2.2 _ (B2 (d:=default) h');clear p hp he;simp only [beq_iff_eq,beq_eq_false_iff_ne,bne_iff_ne,bne_eq_false_iff_eq,Bool.not_eq_true',Bool.not_eq_false',Go.Sx.Am,Go.Sx.Aw,decide_eq_true_eq,decide_eq_false_iff_not,ne_eq,Int.not_lt,Int.not_le,ge_iff_le,gt_iff_lt,Int.toNat_zero,Int.toNat_one,Int.toNat_natCast] at * <;>omega),trivial⟩
   ·have hc:=Go.Sx.Am.1 (by simpa using hc)
    (repeat refine An ?_)
    refine At [] (k+1) ⟨by omega,X1 he hc.1 hc.2⟩ Ad ⟨rfl,trivial⟩ trivial Cp A5 Cc A5
  ·have e:k=x.outs.length:=by omega
   refine Ah A0 rfl rfl ⟨congrArg vb (decide_eq_true ⟨hp.1,hp.2.1,hp.2.2.1,hp.2.2.2.1,hp.2.2.2.2,?_,?_,?_,Zp (e▸he)⟩),trivial⟩
   all_goals (clear he hp;intros;simp only [beq_iff_eq,beq_eq_false_iff_ne,bne_iff_ne,bne_eq_false_iff_eq,Bool.not_eq_true',Bool.not_eq_false',Go.Sx.Am,Go.Sx.Aw,decide_eq_true_eq,decide_eq_false_iff_not,ne_eq,Int.not_lt,Int.not_le,ge_iff_le,gt_iff_lt,Int.toNat_zero,Int.toNat_one,Int.toNat_natCast] at * <;>omega)
theorem B1k {p:Prop}(d:Decidable p)(q:Prop) [Decidable q]:(Decidable.rec (motive:=fun _=>Bool) (fun _=>false) (fun _=>decide q) d=true)↔(p∧q):=by
 cases d<;>simp [*]
theorem Xt (x:Au)(hx:x.w≤16777216):Aq Tryz.prog 139 [.agg x.c] [.one (vb (Ko x))]:=by
 have hl:x.outs.length≤16777216:=hx
 have hw1:1≤x.a→x.a≤10→IntKind.wrap .i64 (x.a-1)=x.a-1:=fun h1 h2=>Hp (by show _∧_;omega)
 refine B1m 20 A0 true Tryz.func139 rfl Bs fun W=>?_
 conv=>whnf
 refine B38 A0 true (J:=Bool×Bool) [12,13,14,15,16,17,18,19,20,21,22,23,24,25,26,27,28,29,30,31,32,33,34] (fun j=>[(3,.c (vb j.1)),(4,.c (vb j.2))]) (fun _=>[⟨0,[.c (vi x.kind),.c (vi x.a),.c (vi x.b),.c (Eu x.outs)]⟩]) (fun _=>[]) (fun j=>((j.1=true∧j.2=true∧1≤x.kind∧x.kind≤8)↔Vb x)) ?_ ?_
 ·conv=>whnf
  repeat' (first|(refine Ki ?_;conv=>whnf)|(refine Kj ?_;conv=>whnf)|(refine ⟨fun h=>?_,fun h=>?_⟩<;>conv=>whnf)|(refine Ai (Gv _ _ _) rfl (go A0 true ?_);conv=>whnf)|(refine Fe ?_;conv=>whnf)|(refine Ak 16 rfl [0,1,2,3,4,5,6,7,8,9,10,11,12,13,14,15,16,17,18,19,20,21] A5 (go A0 true ?_);conv=>whnf)|fail)
  all_goals
   refine At [] (_,_) ?_ Bs ⟨rfl,rfl,trivial⟩ trivial Cp A5 trivial A5
   unfold Vb
   try simp only [B1k]
   simp only [beq_iff_eq,beq_eq_false_iff_ne,bne_iff_ne,bne_eq_false_iff_eq,Bool.not_eq_true',Bool.not_eq_false',Go.Sx.Am,Go.Sx.Aw,decide_eq_true_eq,decide_eq_false_iff_not,ne_eq,Int.not_lt,Int.not_le,ge_iff_le,gt_iff_lt,Int.toNat_zero,Int.toNat_one,Int.toNat_natCast] at * <;>omega
 rintro ⟨a,b⟩ hp
 have hu:Va x.outs 0∧(2≤0→x.outs.getD 0 default≠x.outs.getD 1 default):=⟨fun i h=>absurd h (Nat.not_lt_zero i),fun h=>by omega⟩
 conv=>whnf
 repeat' (first|(refine Ki ?_;conv=>whnf)|(refine Kj ?_;conv=>whnf)|(refine ⟨fun h=>?_,fun h=>?_⟩<;>conv=>whnf)|(refine Ai (Gv _ _ _) rfl (go A0 true ?_);conv=>whnf)|(refine Fe ?_;conv=>whnf)|(refine Ak 16 rfl [0,1,2,3,4,5,6,7,8,9,10,11,12,13,14,15,16,17,18,19,20,21] A5 (go A0 true ?_);conv=>whnf)|fail)
 all_goals try (refine Ah A0 rfl rfl ⟨congrArg vb (decide_eq_false fun p=>?_),trivial⟩;have q:=hp.2 p.pars;obtain ⟨p1,p2,p3,p4,p5,p6,p7,p8,p9⟩:=p;clear hp hu p2 p3 p4 p5 p9;simp only [beq_iff_eq,beq_eq_false_iff_ne,bne_iff_ne,bne_eq_false_iff_eq,Bool.not_eq_true',Bool.not_eq_false',Go.Sx.Am,Go.Sx.Aw,decide_eq_true_eq,decide_eq_false_iff_not,ne_eq,Int.not_lt,Int.not_le,ge_iff_le,gt_iff_lt,Int.toNat_zero,Int.toNat_one,Int.toNat_natCast] at * <;>first|omega|simp_all)
 all_goals
  refine B6 A0 true [] (fun k:Nat=>[(5,.c (vi k))]) (fun k=>[⟨0,[.c (vi x.kind),.c (vi x.a),.c (vi x.b),.c (Eu x.outs)]⟩]) (fun k=>[])
   (fun k=>k≤x.outs.length∧(Va x.outs k∧(2≤k→x.outs.getD 0 default≠x.outs.getD 1 default))) (fun k=>x.outs.length-k) 0 ⟨Nat.zero_le _,by first|rfl|assumption|simp⟩ ⟨by first|rfl|simp [Cr,ren2,ren1,ren0],trivial⟩ Cp trivial Cc A5 (fun k hk=>?_)
  obtain ⟨hk,he⟩:=hk
  conv=>whnf
  refine F2 (fun h'=>?_) fun h'=>?_<;>conv=>whnf
  ·have h':k<x.outs.length:=by omega
   clear hp hu
   repeat' (first|(refine Ki ?_;conv=>whnf)|(refine Kj ?_;conv=>whnf)|(refine ⟨fun h=>?_,fun h=>?_⟩<;>conv=>whnf)|(refine Ai (Gv _ _ _) rfl (go A0 true ?_);conv=>whnf)|(refine Fe ?_;conv=>whnf)|(refine Ak 16 rfl [0,1,2,3,4,5,6,7,8,9,10,11,12,13,14,15,16,17,18,19,20,21] A5 (go A0 true ?_);conv=>whnf)|fail)
   all_goals try (refine Ah A0 rfl rfl ⟨congrArg vb (decide_eq_false fun p=>?_),trivial⟩;have p9:=p.2.2.2.2.2.2.2.2 _ (B2 (d:=default) h');have p8:=p.2.2.2.2.2.2.2.1;have p6:=p.2.2.2.2.2.1;clear p he;simp only [beq_iff_eq,beq_eq_false_iff_ne,bne_iff_ne,bne_eq_false_iff_eq,Bool.not_eq_true',Bool.not_eq_false',Go.Sx.Am,Go.Sx.Aw,decide_eq_true_eq,decide_eq_false_iff_not,ne_eq,Int.not_lt,Int.not_le,ge_iff_le,gt_iff_lt,Int.toNat_zero,Int.toNat_one,Int.toNat_natCast] at * <;>omega)
   all_goals
    refine At [] (k+1) ⟨by omega,⟨X1 he.1 (by clear he;simp only [beq_iff_eq,beq_eq_false_iff_ne,bne_iff_ne,bne_eq_false_iff_eq,Bool.not_eq_true',Bool.not_eq_false',Go.Sx.Am,Go.Sx.Aw,decide_eq_true_eq,decide_eq_false_iff_not,ne_eq,Int.not_lt,Int.not_le,ge_iff_le,gt_iff_lt,Int.toNat_zero,Int.toNat_one,Int.toNat_natCast] at * <;>omega) (by clear he;simp only [beq_iff_eq,beq_eq_false_iff_ne,bne_iff_ne,bne_eq_false_iff_eq,Bool.not_eq_true',Bool.not_eq_false',Go.Sx.Am,Go.Sx.Aw,decide_eq_true_eq,decide_eq_false_iff_not,ne_eq,Int.not_lt,Int.not_le,ge_iff_le,gt_iff_lt,Int.toNat_zero,Int.toNat_one,Int.toNat_natCast] at * <;>omega),by have q:=he.2;clear he;simp only [beq_iff_eq,beq_eq_false_iff_ne,bne_iff_ne,bne_eq_false_iff_eq,Bool.not_eq_true',Bool.not_eq_false',Go.Sx.Am,Go.Sx.Aw,decide_eq_true_eq,decide_eq_false_iff_not,ne_eq,Int.not_lt,Int.not_le,ge_iff_le,gt_iff_lt,Int.toNat_zero,Int.toNat_one,Int.toNat_natCast] at * <;>omega⟩⟩ Ad ⟨congrArg (fun n=>AV.c (vi n)) (B0m k Ad),trivial⟩ trivial Cp A5 Cc A5
  ·have e:k=x.outs.length:=by omega
   have hq:Vb x:=hp.1 (by clear hp hu he;simp only [beq_iff_eq,beq_eq_false_iff_ne,bne_iff_ne,bne_eq_false_iff_eq,Bool.not_eq_true',Bool.not_eq_false',Go.Sx.Am,Go.Sx.Aw,decide_eq_true_eq,decide_eq_false_iff_not,ne_eq,Int.not_lt,Int.not_le,ge_iff_le,gt_iff_lt,Int.toNat_zero,Int.toNat_one,Int.toNat_natCast] at * <;>first|omega|(refine ⟨?_,?_,?_,?_⟩<;>first|assumption|omega))
   have q:=he.2
   refine Ah A0 rfl rfl ⟨congrArg vb (decide_eq_true ⟨hq.1,hq.2.1,hq.2.2.1,hq.2.2.2.1,hq.2.2.2.2,?_,?_,?_,Zp (e▸he.1)⟩),trivial⟩
   all_goals (clear he hp hu hq;intros;simp only [beq_iff_eq,beq_eq_false_iff_ne,bne_iff_ne,bne_eq_false_iff_eq,Bool.not_eq_true',Bool.not_eq_false',Go.Sx.Am,Go.Sx.Aw,decide_eq_true_eq,decide_eq_false_iff_not,ne_eq,Int.not_lt,Int.not_le,ge_iff_le,gt_iff_lt,Int.toNat_zero,Int.toNat_one,Int.toNat_natCast] at * <;>omega)
end Go.Proofs.YtlbmkgkmbjadcaaGreat
