/- Part 7 of the proof that each of the laws FnOneWorker returns true for every input. No conditions. -/
import Derived.Test.YtonodkjaoalfjaaGreatP6

set_option linter.unusedSimpArgs false
set_option linter.unusedVariables false
set_option maxRecDepth 100000
namespace Go.Proofs.YtonodkjaoalfjaaGreat
open Go.Sx
def K1 (a b:Int):Int:=if a<b then-1 else if a>b then 1 else 0
def P1:List Int→List Int→Int
 |a::x,b::y=>if K1 a b=0 then P1 x y else K1 a b
 |_,_=>0
theorem B0n {a b:List Int}{k:Nat}(h:k<a.length)(hl:a.length=b.length):P1 (a.drop k) (b.drop k)=if K1 (a.getD k default) (b.getD k default)=0 then P1 (a.drop (k+1)) (b.drop (k+1)) else K1 (a.getD k default) (b.getD k default):=by
 have h2:k<b.length:=by omega
 rw [List.drop_eq_getElem_cons h,List.drop_eq_getElem_cons h2,P1,List.getD,List.getD,List.getElem?_eq_getElem h,List.getElem?_eq_getElem h2]
 rfl
theorem B31 {a b:List Int}{k:Nat}(h:¬ k<a.length):P1 (a.drop k) (b.drop k)=0:=by
 rw [List.drop_of_length_le Ac]
 rfl
theorem A8k (n:Int):B0 Tryz.prog 251 [.one (vi n)] [.one (vb false)]:=by
 refine Ay A0 false Tryz.func251 rfl Bu fun W=>?_
 conv=>whnf
 exact Ao A0 rfl rfl ⟨congrArg vb Bj,trivial⟩
theorem A6n (a b:Int):B0 Tryz.prog 243 [.one (vi a),.one (vi b)] [.one (vi (K1 a b))]:=by
 refine Ay A0 false Tryz.func243 rfl Bu fun W=>?_
 conv=>whnf
 refine Aw (A8k a) rfl (Al ?_)
 refine Aw (A8k b) rfl (Al ?_)
 refine O3 B16 ?_
 conv=>whnf
 refine O3 B16 ?_
 conv=>whnf
 refine G5 (fun h=>?_) fun h=>?_<;>conv=>whnf
 ·exact Ao A0 rfl rfl ⟨congrArg vi (by rw [K1,if_pos h]),trivial⟩
 ·refine G5 (fun h2=>?_) fun h2=>?_<;>conv=>whnf
  ·exact Ao A0 rfl rfl ⟨congrArg vi (by rw [K1,if_neg h,if_pos h2]),trivial⟩
  ·exact Ao A0 rfl rfl ⟨congrArg vi (by rw [K1,if_neg h,if_neg h2]),trivial⟩
theorem B1k (a b:Int):B0 Tryz.prog 165 [.one (vi a),.one (vi b)] [.one (vi (K1 a b))]:=by
 refine Ay A0 false Tryz.func165 rfl Bu fun W=>?_
 conv=>whnf
 refine G5 (fun h=>?_) fun h=>?_<;>conv=>whnf
 ·exact Ao A0 rfl rfl ⟨congrArg vi (by rw [K1,if_pos h]),trivial⟩
 ·refine G5 (fun h2=>?_) fun h2=>?_<;>conv=>whnf
  ·exact Ao A0 rfl rfl ⟨congrArg vi (by rw [K1,if_neg h,if_pos h2]),trivial⟩
  ·exact Ao A0 rfl rfl ⟨congrArg vi (by rw [K1,if_neg h,if_neg h2]),trivial⟩
theorem A3n (a b:List Int)(hl:a.length=b.length)(ha:a.length≤16777216):B0 Tryz.prog 229 [.one (F1 a),.one (F1 b)] [.one (vi (P1 a b))]:=by
 refine Ay A0 false Tryz.func229 rfl Bu fun W=>?_
 conv=>whnf
 refine Bw A0 false [] (fun k:Nat=>[(11,.c (vi k))]) (fun k=>[]) (fun k=>[])
  (fun k=>k≤a.length∧P1 (a.drop k) (b.drop k)=P1 a b) (fun k=>a.length-k) 0 ⟨Nat.zero_le _,by first|rfl|assumption|simp⟩ ⟨by first|rfl|simp [Dl,ren2,ren1,ren0],trivial⟩ trivial trivial D0 Aa (fun k hk=>?_)
 obtain ⟨hk,he⟩:=hk
 conv=>whnf
 refine G5 (fun h=>?_) fun h=>?_<;>conv=>whnf
 ·have h:k<a.length:=by omega
  rw [B0n h hl] at he
  (repeat refine Ar ?_)
  refine G5 (fun h2=>?_) fun h2=>?_<;>conv=>whnf
  ·omega
  (repeat refine Ar ?_)
  refine Aw (A6n (a.getD k default) (b.getD k default)) rfl (Al ?_)
  refine ⟨fun h3=>have h3:=bne_iff_ne.1 h3;?_,fun h3=>have h3:=bne_eq_false_iff_eq.1 h3;?_⟩<;>conv=>whnf
  ·rw [if_neg h3] at he
   exact Ao A0 rfl rfl ⟨congrArg vi he.symm,trivial⟩
  ·rw [if_pos h3] at he
   (repeat refine Ar ?_)
   refine B5 [] (k+1) ⟨by omega,he⟩ Ac ⟨rfl,trivial⟩ trivial trivial Aa D0 Aa
 ·rw [B31 Ac] at he
  refine G5 (fun h4=>?_) fun h4=>?_<;>conv=>whnf
  ·omega
  ·exact Ao A0 rfl rfl ⟨congrArg vi he.symm,trivial⟩
theorem A3s (a b:List Int)(hl:a.length=b.length)(ha:a.length≤16777216):B0 Tryz.prog 193 [.one (F1 a),.one (F1 b)] [.one (vi (P1 a b))]:=by
 refine Ay A0 false Tryz.func193 rfl Bu fun W=>?_
 conv=>whnf
 refine Aw (A3n a b hl ha) rfl (Al ?_)
 exact Ao A0 rfl rfl ⟨rfl,trivial⟩
def Lp (x:A7):List Int:=[x.epoch,x.op,x.key,x.val]
def Jr (a b:A7):Int:=P1 (Lp a) (Lp b)
theorem Qa (a b:A7):B0 Tryz.prog 252 [.agg a.c,.agg b.c] [.one (vi (Jr a b))]:=by
 refine Ay A0 false Tryz.func252 rfl Bu fun W=>?_
 conv=>whnf
 refine O2 2 (F1 (Lp a)) rfl (Db rfl Dh) ?_
 refine O2 3 (F1 (Lp b)) rfl (Db rfl Dh) ?_
 refine Aw (A3s (Lp a) (Lp b) rfl (by simp [Lp])) rfl (Al ?_)
 exact Ao A0 rfl rfl ⟨rfl,trivial⟩
def A9w (a b:A7):List Int:=[K1 a.epoch b.epoch,K1 a.op b.op,K1 a.key b.key,K1 a.val b.val]
theorem Wm:∀(l m:List Int) (k:Nat),(∀i,i<k→K1 (l.getD i default) (m.getD i default)=0)→l.length=m.length→k<l.length→K1 (l.getD k default) (m.getD k default)≠0→P1 l m=K1 (l.getD k default) (m.getD k default)
 | [],_,_,_,_,h,_=>by simp at h
 |_::_,[],_,_,h,_,_=>by simp at h
 |a::x,b::y,0,_,_,_,h=>by rw [P1,if_neg (show ¬ K1 a b=0 from h)];rfl
 |a::x,b::y,k+1,h0,hl,hk,h=>by
  have:=h0 0 Ac
  rw [P1,if_pos (show K1 a b=0 from this)]
  exact Wm x y k (fun i hi=>h0 (i+1) Ac) (by simpa using hl) (by simpa using hk) h
theorem Z8:∀(l m:List Int),(∀i,i<l.length→K1 (l.getD i default) (m.getD i default)=0)→l.length=m.length→P1 l m=0
 | [],_,_,_=>by rw [P1];simp
 |_::_,[],_,h=>by simp at h
 |a::x,b::y,h0,hl=>by
  have:=h0 0 Bj
  rw [P1,if_pos (show K1 a b=0 from this)]
  exact Z8 x y (fun i hi=>h0 (i+1) (by simpa using hi)) (by simpa using hl)
theorem Yd (a b:A7):B0 Tryz.prog 144 [.agg a.c,.agg b.c] [.one (vi (Jr a b))]:=by
 refine Ay A0 false Tryz.func144 rfl Bu fun W=>?_
 conv=>whnf
 repeat' (first|(refine Ms ?_;conv=>whnf)|(refine Mt ?_;conv=>whnf)|(refine ⟨fun h=>?_,fun h=>?_⟩<;>conv=>whnf)|(refine Aw (B1k _ _) rfl (Al ?_))|(refine Gj ?_;conv=>whnf)|(refine B9 1 rfl [0,1,2,3,5,6,7,8,10,11,12,13,15,16,17,18,4,9,14,19,20,21] Aa (Al ?_))|fail)
 refine G4 2 (F1 (A9w a b)) rfl (Db rfl Dh) ?_
 refine Bw A0 false [] (fun k:Nat=>[(6,.c (vi k))]) (fun k=>[]) (fun k=>[⟨2,F1 (A9w a b)⟩])
  (fun k=>k≤4∧∀i,i<k→(A9w a b).getD i default=0) (fun k=>4-k) 0 ⟨Nat.zero_le _,by first|rfl|assumption|simp⟩ ⟨by first|rfl|simp [Dl,ren2,ren1,ren0],trivial⟩ trivial ⟨by first|rfl|exact (congrArg (fun l=>Du _ _ l) (List.append_nil _)).symm|(show (_:A8)=_;simp)|simp,trivial⟩ D0 Aa (fun k hk=>?_)
 obtain ⟨hk,he⟩:=hk
 conv=>whnf
 refine G5 (fun h=>?_) fun h=>?_<;>conv=>whnf
 ·have h:k<4:=by omega
  have hk:(A9w a b).length=4:=rfl
  have hq:∀i,i<4→(A9w a b).getD i default=K1 ((Lp a).getD i default) ((Lp b).getD i default):=fun i hi=>by
   match i,hi with
   | 0,_=>rfl
   | 1,_=>rfl
   | 2,_=>rfl
   | 3,_=>rfl
  (repeat refine Ar ?_)
  refine ⟨fun h3=>have h3:=bne_iff_ne.1 h3;?_,fun h3=>have h3:=bne_eq_false_iff_eq.1 h3;?_⟩<;>conv=>whnf
  ·(repeat refine Ar ?_)
   exact Ao A0 rfl rfl ⟨congrArg vi ((Wm _ _ k (fun i hi=>(hq i Ac).symm.trans (he i hi)) rfl h (by rw [←hq k h];exact h3)).trans (hq k h).symm),trivial⟩
  ·(repeat refine Ar ?_)
   refine B5 [] (k+1) ⟨by omega,fun i hi=>(Nat.lt_succ_iff_lt_or_eq.1 hi).elim (fun h4=>he i h4) (fun h4=>h4▸h3)⟩ Ac ⟨rfl,trivial⟩ ⟨rfl,trivial⟩ trivial Aa D0 Aa
 ·have hq:∀i,i<4→(A9w a b).getD i default=K1 ((Lp a).getD i default) ((Lp b).getD i default):=fun i hi=>by
   match i,hi with
   | 0,_=>rfl
   | 1,_=>rfl
   | 2,_=>rfl
   | 3,_=>rfl
  exact Ao A0 rfl rfl ⟨congrArg vi (Z8 (Lp a) (Lp b) (fun i hi=>(hq i hi).symm.trans (he i (by have:i<4:=hi;omega))) rfl),trivial⟩
def Iw (x:Cb):Prop:=(1≤x.kind∧x.kind≤8)∧(x.kind=2→0≤x.a∧x.a≤999∧x.b=0)∧(x.kind=3→1≤x.a∧x.a≤10∧0≤x.b∧x.b≤x.a-1)∧(x.kind=4→0≤x.a∧x.a≤99∧x.b=0)∧
 (x.kind≠2→x.kind≠3→x.kind≠4→x.a=0∧x.b=0)∧x.outs.length≤2∧(x.kind=8→x.outs.length=0)∧(x.outs.length=2→x.outs.getD 0 default≠x.outs.getD 1 default)∧(∀n∈x.outs,0≤n∧n≤7)
instance (x:Cb):Decidable (Iw x):=by unfold Iw;infer_instance
def Ka (x:Cb):Bool:=decide (Iw x)
def V0 (l:List Int) (k:Nat):Prop:=∀i,i<k→0≤l.getD i default∧l.getD i default≤7
theorem Wt {l:List Int}{k:Nat}(h:V0 l k)(h1:0≤l.getD k default)(h2:l.getD k default≤7):V0 l (k+1):=fun i hi=>by
 by_cases e:i=k
 ·subst e;exact ⟨h1,h2⟩
 ·exact h i Ac
theorem Zf {l:List Int}(h:V0 l l.length):∀n∈l,0≤n∧n≤7:=fun n hn=>by
 obtain ⟨i,hi,e⟩:=List.getElem_of_mem hn
 have:=h i hi
 rw [List.getD,List.getElem?_eq_getElem hi] at this
 rw [←e];exact this
def V1 (x:Cb):Prop:=(1≤x.kind∧x.kind≤8)∧(x.kind=2→0≤x.a∧x.a≤999∧x.b=0)∧(x.kind=3→1≤x.a∧x.a≤10∧0≤x.b∧x.b≤x.a-1)∧(x.kind=4→0≤x.a∧x.a≤99∧x.b=0)∧
 (x.kind≠2→x.kind≠3→x.kind≠4→x.a=0∧x.b=0)
theorem Iw.pars {x:Cb}(h:Iw x):V1 x:=⟨h.1,h.2.1,h.2.2.1,h.2.2.2.1,h.2.2.2.2.1⟩
theorem Wd (x:Cb)(hx:x.w≤16777216):B0 Tryz.prog 105 [.agg x.c] [.one (vb (Ka x))]:=by
 have hl:x.outs.length≤16777216:=hx
 refine B25 6 A0 false Tryz.func105 rfl Bu fun W=>?_
 conv=>whnf
 refine B77 A0 false (J:=Unit) [5,6,7,8,9,10,11,12,13,14,15,16,17,18,19,20,21,22,23,24,25,26,27,28,29,30,31,32,33,34,35,36,37,38,39,40,41,42,43,44,45,46,47,48,49,50,51,52,53,54,55,56,57] (fun _=>[]) (fun _=>[⟨0,[.c (vi x.kind),.c (vi x.a),.c (vi x.b),.c (F1 x.outs)]⟩]) (fun _=>[]) (fun _=>V1 x) ?_ ?_
 ·conv=>whnf
  repeat' (first|(refine Ms ?_;conv=>whnf)|(refine Mt ?_;conv=>whnf)|(refine ⟨fun h=>?_,fun h=>?_⟩<;>conv=>whnf)|(refine Aw (He _ _ _) rfl (Al ?_))|(refine Gj ?_;conv=>whnf)|(refine B9 19 rfl [0,1,2,3,4,5,6,7,8,9,10,11,12,13,14,15,16,17,18,19,20,21,22,23,24,25,26,27,28,29,30,31] Aa (Al ?_))|fail)
  all_goals first
   |(refine Ao A0 rfl rfl ⟨congrArg vb (decide_eq_false fun p=>?_),trivial⟩;have p:=p.pars;unfold V1 at p;obtain ⟨p1,p2,p3,p4,p5⟩:=p;simp only [beq_iff_eq,beq_eq_false_iff_ne,bne_iff_ne,bne_eq_false_iff_eq,Bool.not_eq_true',Bool.not_eq_false',Go.Sx.Am,Go.Sx.Az,decide_eq_true_eq,decide_eq_false_iff_not,ne_eq,Int.not_lt,Int.not_le,ge_iff_le,gt_iff_lt,Int.toNat_zero,Int.toNat_one,Int.toNat_natCast] at * <;>omega)
   |(refine B5 [] () ?_ Bu trivial trivial Dh Aa trivial Aa;refine ⟨?_,?_,?_,?_,?_⟩<;>(intros;simp only [beq_iff_eq,beq_eq_false_iff_ne,bne_iff_ne,bne_eq_false_iff_eq,Bool.not_eq_true',Bool.not_eq_false',Go.Sx.Am,Go.Sx.Az,decide_eq_true_eq,decide_eq_false_iff_not,ne_eq,Int.not_lt,Int.not_le,ge_iff_le,gt_iff_lt,Int.toNat_zero,Int.toNat_one,Int.toNat_natCast] at * <;>omega))
 intro _ hp
 have hu:V0 x.outs 0:=fun i h=>absurd h (Nat.not_lt_zero i)
 conv=>whnf
 unfold V1 at hp
 repeat' (first|(refine Ms ?_;conv=>whnf)|(refine Mt ?_;conv=>whnf)|(refine ⟨fun h=>?_,fun h=>?_⟩<;>conv=>whnf)|(refine Gj ?_;conv=>whnf)|(refine B9 19 rfl [0,1,2,3,4,5,6,7,8,9,10,11,12,13,14,15,16,17,18,19,20,21,22,23,24,25,26,27,28,29,30,31] Aa (Al ?_))|fail)
 all_goals try (refine Ao A0 rfl rfl ⟨congrArg vb (decide_eq_false fun p=>?_),trivial⟩;obtain ⟨p1,p2,p3,p4,p5,p6,p7,p8,p9⟩:=p;clear hp p1 p2 p3 p4 p5 p9;simp only [beq_iff_eq,beq_eq_false_iff_ne,bne_iff_ne,bne_eq_false_iff_eq,Bool.not_eq_true',Bool.not_eq_false',Go.Sx.Am,Go.Sx.Az,decide_eq_true_eq,decide_eq_false_iff_not,ne_eq,Int.not_lt,Int.not_le,ge_iff_le,gt_iff_lt,Int.toNat_zero,Int.toNat_one,Int.toNat_natCast] at * <;>omega)
 all_goals
  refine Bw A0 false [] (fun k:Nat=>[(93,.c (vi k))]) (fun k=>[⟨0,[.c (vi x.kind),.c (vi x.a),.c (vi x.b),.c (F1 x.outs)]⟩]) (fun k=>[])
   (fun k=>k≤x.outs.length∧V0 x.outs k) (fun k=>x.outs.length-k) 0 ⟨Nat.zero_le _,by first|rfl|assumption|simp⟩ ⟨by first|rfl|simp [Dl,ren2,ren1,ren0],trivial⟩ Dh trivial D0 Aa (fun k hk=>?_)
  obtain ⟨hk,he⟩:=hk
  conv=>whnf
  refine G5 (fun h'=>?_) fun h'=>?_<;>conv=>whnf
  ·have h':k<x.outs.length:=by omega
   (repeat refine Ar ?_)
   refine Aw (He (x.outs.getD k default) 0 7) rfl (Al ?_)
   refine ⟨fun hc=>?_,fun hc=>?_⟩<;>conv=>whnf
   ·exact Ao A0 rfl rfl ⟨congrArg vb (decide_eq_false fun p=>by have p9:=p.2.2.2.2.2.2.2.2 _ (Aq (d:=default) h');clear p hp he;simp only [beq_iff_eq,beq_eq_false_iff_ne,bne_iff_ne,bne_eq_false_iff_eq,Bool.not_eq_true',Bool.not_eq_false',Go.Sx.Am,Go.Sx.Az,decide_eq_true_eq,decide_eq_false_iff_not,ne_eq,Int.not_lt,Int.not_le,ge_iff_le,gt_iff_lt,Int.toNat_zero,Int.toNat_one,Int.toNat_natCast] at * <;>omega),trivial⟩
   ·have hc:=Go.Sx.Am.1 (by simpa using hc)
    (repeat refine Ar ?_)
    refine B5 [] (k+1) ⟨by omega,Wt he hc.1 hc.2⟩ Ac ⟨rfl,trivial⟩ trivial Dh Aa D0 Aa
  ·have e:k=x.outs.length:=by omega
   refine Ao A0 rfl rfl ⟨congrArg vb (decide_eq_true ⟨hp.1,hp.2.1,hp.2.2.1,hp.2.2.2.1,hp.2.2.2.2,?_,?_,?_,Zf (e▸he)⟩),trivial⟩
   all_goals (clear he hp;intros;simp only [beq_iff_eq,beq_eq_false_iff_ne,bne_iff_ne,bne_eq_false_iff_eq,Bool.not_eq_true',Bool.not_eq_false',Go.Sx.Am,Go.Sx.Az,decide_eq_true_eq,decide_eq_false_iff_not,ne_eq,Int.not_lt,Int.not_le,ge_iff_le,gt_iff_lt,Int.toNat_zero,Int.toNat_one,Int.toNat_natCast] at * <;>omega)
theorem B21 {p:Prop}(d:Decidable p)(q:Prop) [Decidable q]:(Decidable.rec (motive:=fun _=>Bool) (fun _=>false) (fun _=>decide q) d=true)↔(p∧q):=by
 cases d<;>simp [*]
theorem Xj (x:Cb)(hx:x.w≤16777216):B0 Tryz.prog 129 [.agg x.c] [.one (vb (Ka x))]:=by
 have hl:x.outs.length≤16777216:=hx
 have hw1:1≤x.a→x.a≤10→IntKind.wrap .i64 (x.a-1)=x.a-1:=fun h1 h2=>Hz (by show _∧_;omega)
 refine B25 20 A0 true Tryz.func129 rfl Bu fun W=>?_
 conv=>whnf
 refine B77 A0 true (J:=Bool×Bool) [12,13,14,15,16,17,18,19,20,21,22,23,24,25,26,27,28,29,30,31,32,33,34] (fun j=>[(3,.c (vb j.1)),(4,.c (vb j.2))]) (fun _=>[⟨0,[.c (vi x.kind),.c (vi x.a),.c (vi x.b),.c (F1 x.outs)]⟩]) (fun _=>[]) (fun j=>((j.1=true∧j.2=true∧1≤x.kind∧x.kind≤8)↔V1 x)) ?_ ?_
 ·conv=>whnf
  repeat' (first|(refine Ms ?_;conv=>whnf)|(refine Mt ?_;conv=>whnf)|(refine ⟨fun h=>?_,fun h=>?_⟩<;>conv=>whnf)|(refine Aw (Jo _ _ _) rfl (go A0 true ?_);conv=>whnf)|(refine Gj ?_;conv=>whnf)|(refine B9 16 rfl [0,1,2,3,4,5,6,7,8,9,10,11,12,13,14,15,16,17,18,19,20,21] Aa (go A0 true ?_);conv=>whnf)|fail)
  all_goals
   refine B5 [] (_,_) ?_ Bu ⟨rfl,rfl,trivial⟩ trivial Dh Aa trivial Aa
   unfold V1
   try simp only [B21]
   simp only [beq_iff_eq,beq_eq_false_iff_ne,bne_iff_ne,bne_eq_false_iff_eq,Bool.not_eq_true',Bool.not_eq_false',Go.Sx.Am,Go.Sx.Az,decide_eq_true_eq,decide_eq_false_iff_not,ne_eq,Int.not_lt,Int.not_le,ge_iff_le,gt_iff_lt,Int.toNat_zero,Int.toNat_one,Int.toNat_natCast] at * <;>omega
 rintro ⟨a,b⟩ hp
 have hu:V0 x.outs 0∧(2≤0→x.outs.getD 0 default≠x.outs.getD 1 default):=⟨fun i h=>absurd h (Nat.not_lt_zero i),fun h=>by omega⟩
 conv=>whnf
 repeat' (first|(refine Ms ?_;conv=>whnf)|(refine Mt ?_;conv=>whnf)|(refine ⟨fun h=>?_,fun h=>?_⟩<;>conv=>whnf)|(refine Aw (Jo _ _ _) rfl (go A0 true ?_);conv=>whnf)|(refine Gj ?_;conv=>whnf)|(refine B9 16 rfl [0,1,2,3,4,5,6,7,8,9,10,11,12,13,14,15,16,17,18,19,20,21] Aa (go A0 true ?_);conv=>whnf)|fail)
 all_goals try (refine Ao A0 rfl rfl ⟨congrArg vb (decide_eq_false fun p=>?_),trivial⟩;have q:=hp.2 p.pars;obtain ⟨p1,p2,p3,p4,p5,p6,p7,p8,p9⟩:=p;clear hp hu p2 p3 p4 p5 p9;simp only [beq_iff_eq,beq_eq_false_iff_ne,bne_iff_ne,bne_eq_false_iff_eq,Bool.not_eq_true',Bool.not_eq_false',Go.Sx.Am,Go.Sx.Az,decide_eq_true_eq,decide_eq_false_iff_not,ne_eq,Int.not_lt,Int.not_le,ge_iff_le,gt_iff_lt,Int.toNat_zero,Int.toNat_one,Int.toNat_natCast] at * <;>first|omega|simp_all)
 all_goals
  refine Bw A0 true [] (fun k:Nat=>[(5,.c (vi k))]) (fun k=>[⟨0,[.c (vi x.kind),.c (vi x.a),.c (vi x.b),.c (F1 x.outs)]⟩]) (fun k=>[])
   (fun k=>k≤x.outs.length∧(V0 x.outs k∧(2≤k→x.outs.getD 0 default≠x.outs.getD 1 default))) (fun k=>x.outs.length-k) 0 ⟨Nat.zero_le _,by first|rfl|assumption|simp⟩ ⟨by first|rfl|simp [Dl,ren2,ren1,ren0],trivial⟩ Dh trivial D0 Aa (fun k hk=>?_)
  obtain ⟨hk,he⟩:=hk
  conv=>whnf
  refine G5 (fun h'=>?_) fun h'=>?_<;>conv=>whnf
  ·have h':k<x.outs.length:=by omega
   clear hp hu
   repeat' (first|(refine Ms ?_;conv=>whnf)|(refine Mt ?_;conv=>whnf)|(refine ⟨fun h=>?_,fun h=>?_⟩<;>conv=>whnf)|(refine Aw (Jo _ _ _) rfl (go A0 true ?_);conv=>whnf)|(refine Gj ?_;conv=>whnf)|(refine B9 16 rfl [0,1,2,3,4,5,6,7,8,9,10,11,12,13,14,15,16,17,18,19,20,21] Aa (go A0 true ?_);conv=>whnf)|fail)
   all_goals try (refine Ao A0 rfl rfl ⟨congrArg vb (decide_eq_false fun p=>?_),trivial⟩;have p9:=p.2.2.2.2.2.2.2.2 _ (Aq (d:=default) h');have p8:=p.2.2.2.2.2.2.2.1;have p6:=p.2.2.2.2.2.1;clear p he;simp only [beq_iff_eq,beq_eq_false_iff_ne,bne_iff_ne,bne_eq_false_iff_eq,Bool.not_eq_true',Bool.not_eq_false',Go.Sx.Am,Go.Sx.Az,decide_eq_true_eq,decide_eq_false_iff_not,ne_eq,Int.not_lt,Int.not_le,ge_iff_le,gt_iff_lt,Int.toNat_zero,Int.toNat_one,Int.toNat_natCast] at * <;>omega)
   all_goals
    refine B5 [] (k+1) ⟨by omega,⟨Wt he.1 (by clear he;simp only [beq_iff_eq,beq_eq_false_iff_ne,bne_iff_ne,bne_eq_false_iff_eq,Bool.not_eq_true',Bool.not_eq_false',Go.Sx.Am,Go.Sx.Az,decide_eq_true_eq,decide_eq_false_iff_not,ne_eq,Int.not_lt,Int.not_le,ge_iff_le,gt_iff_lt,Int.toNat_zero,Int.toNat_one,Int.toNat_natCast] at * <;>omega) (by clear he;simp only [beq_iff_eq,beq_eq_false_iff_ne,bne_iff_ne,bne_eq_false_iff_eq,Bool.not_eq_true',Bool.not_eq_false',Go.Sx.Am,Go.Sx.Az,decide_eq_true_eq,decide_eq_false_iff_not,ne_eq,Int.not_lt,Int.not_le,ge_iff_le,gt_iff_lt,Int.toNat_zero,Int.toNat_one,Int.toNat_natCast] at * <;>omega),by have q:=he.2;clear he;simp only [beq_iff_eq,beq_eq_false_iff_ne,bne_iff_ne,bne_eq_false_iff_eq,Bool.not_eq_true',Bool.not_eq_false',Go.Sx.Am,Go.Sx.Az,decide_eq_true_eq,decide_eq_false_iff_not,ne_eq,Int.not_lt,Int.not_le,ge_iff_le,gt_iff_lt,Int.toNat_zero,Int.toNat_one,Int.toNat_natCast] at * <;>omega⟩⟩ Ac ⟨congrArg (fun n=>AV.c (vi n)) (A0c k Ac),trivial⟩ trivial Dh Aa D0 Aa
  ·have e:k=x.outs.length:=by omega
   have hq:V1 x:=hp.1 (by clear hp hu he;simp only [beq_iff_eq,beq_eq_false_iff_ne,bne_iff_ne,bne_eq_false_iff_eq,Bool.not_eq_true',Bool.not_eq_false',Go.Sx.Am,Go.Sx.Az,decide_eq_true_eq,decide_eq_false_iff_not,ne_eq,Int.not_lt,Int.not_le,ge_iff_le,gt_iff_lt,Int.toNat_zero,Int.toNat_one,Int.toNat_natCast] at * <;>first|omega|(refine ⟨?_,?_,?_,?_⟩<;>first|assumption|omega))
   have q:=he.2
   refine Ao A0 rfl rfl ⟨congrArg vb (decide_eq_true ⟨hq.1,hq.2.1,hq.2.2.1,hq.2.2.2.1,hq.2.2.2.2,?_,?_,?_,Zf (e▸he.1)⟩),trivial⟩
   all_goals (clear he hp hu hq;intros;simp only [beq_iff_eq,beq_eq_false_iff_ne,bne_iff_ne,bne_eq_false_iff_eq,Bool.not_eq_true',Bool.not_eq_false',Go.Sx.Am,Go.Sx.Az,decide_eq_true_eq,decide_eq_false_iff_not,ne_eq,Int.not_lt,Int.not_le,ge_iff_le,gt_iff_lt,Int.toNat_zero,Int.toNat_one,Int.toNat_natCast] at * <;>omega)
end Go.Proofs.YtonodkjaoalfjaaGreat
