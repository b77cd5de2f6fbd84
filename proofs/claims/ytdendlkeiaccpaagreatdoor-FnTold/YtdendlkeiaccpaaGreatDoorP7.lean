/- Part 7 of the proof that each of the laws FnTold returns true for every input. No conditions. -/
import Derived.Test.YtdendlkeiaccpaaGreatDoorP6

set_option linter.unusedSimpArgs false
set_option linter.unusedVariables false
set_option maxRecDepth 100000
namespace Go.Proofs.YtdendlkeiaccpaaGreatDoor
open Go.Sx
def Hs (r:Ae):Prop:=(0≤r.op∧r.op≤7)∧(0≤r.stamp.epoch∧r.stamp.epoch≤3)∧(0≤r.stamp.turn∧r.stamp.turn≤6)∧(0≤r.key∧r.key≤99)∧(0≤r.val∧r.val≤999)
instance (r:Ae):Decidable (Hs r):=by unfold Hs;infer_instance
def Ig (r:Ae):Bool:=decide (Hs r)
theorem Qu (r:Ae):Ig r=true↔(0≤r.op∧r.op≤7)∧(0≤r.stamp.epoch∧r.stamp.epoch≤3)∧(0≤r.stamp.turn∧r.stamp.turn≤6)∧(0≤r.key∧r.key≤99)∧(0≤r.val∧r.val≤999):=decide_eq_true_iff
def Jo (s:Ec):Bool:=decide ((0≤s.epoch∧s.epoch≤3)∧(0≤s.turn∧s.turn≤6))
theorem Sz (s:Ec):Bo Tryz.prog 148 [.agg s.c] [.one (vb (Jo s))]:=by
 refine Bh A0 false Tryz.func148 rfl Aw fun W=>?_
 conv=>whnf
 repeat' (first|(refine L6 ?_;conv=>whnf)|(refine L7 ?_;conv=>whnf)|(refine ⟨fun h=>?_,fun h=>?_⟩<;>conv=>whnf)|(refine B5 (Fh _ _ _) rfl (A8 ?_))|(refine Gx ?_;conv=>whnf)|fail)
 all_goals (refine B3 A0 rfl rfl ⟨congrArg vb ?_,trivial⟩;(rw [Bool.eq_iff_iff];simp only [Qu,Jo,beq_iff_eq,beq_eq_false_iff_ne,bne_iff_ne,bne_eq_false_iff_eq,Bool.not_eq_true',Bool.not_eq_false',Go.Sx.As,Go.Sx.Bn,decide_eq_true_eq,decide_eq_false_iff_not,Bool.false_eq_true,iff_false,false_iff,iff_true,true_iff,ne_eq] at * <;>omega))
theorem Hb (r:Ae):Bo Tryz.prog 108 [.agg r.c] [.one (vb (Ig r))]:=by
 refine Bh A0 false Tryz.func108 rfl Aw fun W=>?_
 conv=>whnf
 repeat' (first|(refine L6 ?_;conv=>whnf)|(refine L7 ?_;conv=>whnf)|(refine ⟨fun h=>?_,fun h=>?_⟩<;>conv=>whnf)|(refine B5 (Fh _ _ _) rfl (A8 ?_))|(refine B5 (Sz r.stamp) rfl (A8 ?_))|(refine Gx ?_;conv=>whnf)|fail)
 all_goals (refine B3 A0 rfl rfl ⟨congrArg vb ?_,trivial⟩;(rw [Bool.eq_iff_iff];simp only [Qu,Jo,beq_iff_eq,beq_eq_false_iff_ne,bne_iff_ne,bne_eq_false_iff_eq,Bool.not_eq_true',Bool.not_eq_false',Go.Sx.As,Go.Sx.Bn,decide_eq_true_eq,decide_eq_false_iff_not,Bool.false_eq_true,iff_false,false_iff,iff_true,true_iff,ne_eq] at * <;>omega))
def J7 (a b:Int):Int:=if a<b then-1 else if a>b then 1 else 0
def Nc:List Int→List Int→Int
 |a::x,b::y=>if J7 a b=0 then Nc x y else J7 a b
 |_,_=>0
theorem A7j {a b:List Int}{k:Nat}(h:k<a.length)(hl:a.length=b.length):Nc (a.drop k) (b.drop k)=if J7 (a.getD k default) (b.getD k default)=0 then Nc (a.drop (k+1)) (b.drop (k+1)) else J7 (a.getD k default) (b.getD k default):=by
 have h2:k<b.length:=by omega
 rw [List.drop_eq_getElem_cons h,List.drop_eq_getElem_cons h2,Nc,List.getD,List.getD,List.getElem?_eq_getElem h,List.getElem?_eq_getElem h2]
 rfl
theorem B0j {a b:List Int}{k:Nat}(h:¬ k<a.length):Nc (a.drop k) (b.drop k)=0:=by
 rw [List.drop_of_length_le Ab]
 rfl
theorem A5e (n:Int):Bo Tryz.prog 222 [.one (vi n)] [.one (vb false)]:=by
 refine Bh A0 false Tryz.func222 rfl Aw fun W=>?_
 conv=>whnf
 exact B3 A0 rfl rfl ⟨congrArg vb Bw,trivial⟩
theorem A3p (a b:Int):Bo Tryz.prog 220 [.one (vi a),.one (vi b)] [.one (vi (J7 a b))]:=by
 refine Bh A0 false Tryz.func220 rfl Aw fun W=>?_
 conv=>whnf
 refine B5 (A5e a) rfl (A8 ?_)
 refine B5 (A5e b) rfl (A8 ?_)
 refine Ui B2k ?_
 conv=>whnf
 refine Ui B2k ?_
 conv=>whnf
 refine Fi (fun h=>?_) fun h=>?_<;>conv=>whnf
 ·exact B3 A0 rfl rfl ⟨congrArg vi (by rw [J7,if_pos h]),trivial⟩
 refine Fi (fun h2=>?_) fun h2=>?_<;>conv=>whnf
 ·exact B3 A0 rfl rfl ⟨congrArg vi (by rw [J7,if_neg h,if_pos h2]),trivial⟩
 exact B3 A0 rfl rfl ⟨congrArg vi (by rw [J7,if_neg h,if_neg h2]),trivial⟩
theorem A74 (a b:Int):Bo Tryz.prog 206 [.one (vi a),.one (vi b)] [.one (vi (J7 a b))]:=by
 refine Bh A0 false Tryz.func206 rfl Aw fun W=>?_
 conv=>whnf
 refine Fi (fun h=>?_) fun h=>?_<;>conv=>whnf
 ·exact B3 A0 rfl rfl ⟨congrArg vi (by rw [J7,if_pos h]),trivial⟩
 refine Fi (fun h2=>?_) fun h2=>?_<;>conv=>whnf
 ·exact B3 A0 rfl rfl ⟨congrArg vi (by rw [J7,if_neg h,if_pos h2]),trivial⟩
 exact B3 A0 rfl rfl ⟨congrArg vi (by rw [J7,if_neg h,if_neg h2]),trivial⟩
theorem A1f (a b:List Int)(hl:a.length=b.length)(ha:a.length≤16777216):Bo Tryz.prog 216 [.one (At a),.one (At b)] [.one (vi (Nc a b))]:=by
 refine Bh A0 false Tryz.func216 rfl Aw fun W=>?_
 conv=>whnf
 refine C0 A0 false [] (fun k:Nat=>[(11,.c (vi k))]) (fun k=>[]) (fun k=>[])
  (fun k=>k≤a.length∧Nc (a.drop k) (b.drop k)=Nc a b) (fun k=>a.length-k) 0 ⟨Nat.zero_le _,by first|rfl|assumption|simp⟩ ⟨G9,trivial⟩ trivial trivial Cr A7 (fun k hk=>?_)
 obtain ⟨hk,he⟩:=hk
 conv=>whnf
 refine Fi (fun h=>?_) fun h=>?_<;>conv=>whnf
 ·have h:k<a.length:=by omega
  rw [A7j h hl] at he
  (repeat refine An ?_)
  refine Fi (fun h2=>?_) fun h2=>?_<;>conv=>whnf
  ·omega
  (repeat refine An ?_)
  refine B5 (A3p (a.getD k default) (b.getD k default)) rfl (A8 ?_)
  refine ⟨fun h3=>have h3:=bne_iff_ne.1 h3;?_,fun h3=>have h3:=bne_eq_false_iff_eq.1 h3;?_⟩<;>conv=>whnf
  ·rw [if_neg h3] at he
   exact B3 A0 rfl rfl ⟨congrArg vi he.symm,trivial⟩
  rw [if_pos h3] at he
  (repeat refine An ?_)
  refine B9 [] (k+1) ⟨by omega,he⟩ Ab ⟨rfl,trivial⟩ trivial trivial A7 Cr A7
 rw [B0j Ab] at he
 refine Fi (fun h4=>?_) fun h4=>?_<;>conv=>whnf
 ·omega
 exact B3 A0 rfl rfl ⟨congrArg vi he.symm,trivial⟩
theorem A1h (a b:List Int)(hl:a.length=b.length)(ha:a.length≤16777216):Bo Tryz.prog 201 [.one (At a),.one (At b)] [.one (vi (Nc a b))]:=by
 refine Bh A0 false Tryz.func201 rfl Aw fun W=>?_
 conv=>whnf
 refine B5 (A1f a b hl ha) rfl (A8 ?_)
 exact B3 A0 rfl rfl ⟨rfl,trivial⟩
def Kk (x:Ag):List Int:=[x.epoch,x.op,x.key,x.val]
def Iv (a b:Ag):Int:=Nc (Kk a) (Kk b)
theorem W8 (a b:Ag):Bo Tryz.prog 175 [.agg a.c,.agg b.c] [.one (vi (Iv a b))]:=by
 refine Bh A0 false Tryz.func175 rfl Aw fun W=>?_
 conv=>whnf
 refine Ev 2 (At (Kk a)) rfl (Bd rfl Cf) ?_
 refine Ev 3 (At (Kk b)) rfl (Bd rfl Cf) ?_
 refine B5 (A1h (Kk a) (Kk b) rfl (by simp [Kk])) rfl (A8 ?_)
 exact B3 A0 rfl rfl ⟨rfl,trivial⟩
def A6w (a b:Ag):List Int:=[J7 a.epoch b.epoch,J7 a.op b.op,J7 a.key b.key,J7 a.val b.val]
theorem Un:∀(l m:List Int) (k:Nat),(∀i,i<k→J7 (l.getD i default) (m.getD i default)=0)→l.length=m.length→k<l.length→J7 (l.getD k default) (m.getD k default)≠0→Nc l m=J7 (l.getD k default) (m.getD k default)
 | [],_,_,_,_,h,_=>by simp at h
 |_::_,[],_,_,h,_,_=>by simp at h
 |a::x,b::y,0,_,_,_,h=>by rw [Nc,if_neg (show ¬ J7 a b=0 from h)];rfl
 |a::x,b::y,k+1,h0,hl,hk,h=>by
  have:=h0 0 Ab
  rw [Nc,if_pos (show J7 a b=0 from this)]
  exact Un x y k (fun i hi=>h0 (i+1) Ab) (by simpa using hl) (by simpa using hk) h
theorem Xo:∀(l m:List Int),(∀i,i<l.length→J7 (l.getD i default) (m.getD i default)=0)→l.length=m.length→Nc l m=0
 | [],_,_,_=>by rw [Nc];simp
 |_::_,[],_,h=>by simp at h
 |a::x,b::y,h0,hl=>by
  have:=h0 0 Bw
  rw [Nc,if_pos (show J7 a b=0 from this)]
  exact Xo x y (fun i hi=>h0 (i+1) (by simpa using hi)) (by simpa using hl)
theorem On (a b:Ag):Bo Tryz.prog 180 [.agg a.c,.agg b.c] [.one (vi (Iv a b))]:=by
 refine Bh A0 false Tryz.func180 rfl Aw fun W=>?_
 conv=>whnf
 repeat' (first|(refine L6 ?_;conv=>whnf)|(refine L7 ?_;conv=>whnf)|(refine ⟨fun h=>?_,fun h=>?_⟩<;>conv=>whnf)|(refine B5 (A74 _ _) rfl (A8 ?_))|(refine Gx ?_;conv=>whnf)|(refine B7 1 rfl [0,1,2,3,5,6,7,8,10,11,12,13,15,16,17,18,4,9,14,19,20,21] A7 (A8 ?_))|fail)
 refine Ed 2 (At (A6w a b)) rfl (Bd rfl Cf) ?_
 refine C0 A0 false [] (fun k:Nat=>[(6,.c (vi k))]) (fun k=>[]) (fun k=>[⟨2,At (A6w a b)⟩])
  (fun k=>k≤4∧∀i,i<k→(A6w a b).getD i default=0) (fun k=>4-k) 0 ⟨Nat.zero_le _,by first|rfl|assumption|simp⟩ ⟨G9,trivial⟩ trivial ⟨Eu,trivial⟩ Cr A7 (fun k hk=>?_)
 obtain ⟨hk,he⟩:=hk
 conv=>whnf
 refine Fi (fun h=>?_) fun h=>?_<;>conv=>whnf
 ·have h:k<4:=by omega
  have hk:(A6w a b).length=4:=rfl
  have hq:∀i,i<4→(A6w a b).getD i default=J7 ((Kk a).getD i default) ((Kk b).getD i default):=fun i hi=>by
   match i,hi with
   | 0,_=>rfl
   | 1,_=>rfl
   | 2,_=>rfl
   | 3,_=>rfl
  (repeat refine An ?_)
  refine ⟨fun h3=>have h3:=bne_iff_ne.1 h3;?_,fun h3=>have h3:=bne_eq_false_iff_eq.1 h3;?_⟩<;>conv=>whnf
  ·(repeat refine An ?_)
   exact B3 A0 rfl rfl ⟨congrArg vi ((Un _ _ k (fun i hi=>(hq i Ab).symm.trans (he i hi)) rfl h (by rw [←hq k h];exact h3)).trans (hq k h).symm),trivial⟩
  (repeat refine An ?_)
  refine B9 [] (k+1) ⟨by omega,fun i hi=>(Nat.lt_succ_iff_lt_or_eq.1 hi).elim (fun h4=>he i h4) (fun h4=>h4▸h3)⟩ Ab ⟨rfl,trivial⟩ ⟨rfl,trivial⟩ trivial A7 Cr A7
 have hq:∀i,i<4→(A6w a b).getD i default=J7 ((Kk a).getD i default) ((Kk b).getD i default):=fun i hi=>by
  match i,hi with
  | 0,_=>rfl
  | 1,_=>rfl
  | 2,_=>rfl
  | 3,_=>rfl
 exact B3 A0 rfl rfl ⟨congrArg vi (Xo (Kk a) (Kk b) (fun i hi=>(hq i hi).symm.trans (he i (by have:i<4:=hi;omega))) rfl),trivial⟩
def Z8 (g:Ap) (k:Int):Int:=(g.nodes.getD k.toNat default).kind
def Tk (g:Ap) (i:Nat) (x:Aq) (k:Int):Prop:=k<g.nodes.length∧(x.kind=7→k≤i∧(Z8 g k=5∨Z8 g k=6))∧(x.kind≠7→i<k)
instance (g:Ap) (i:Nat) (x:Aq) (k:Int):Decidable (Tk g i x k):=by unfold Tk;infer_instance
def Nt (g:Ap) (i:Nat):Prop:=Jh (g.nodes.getD i default)∧((g.nodes.getD i default).kind=1↔i=0)∧∀k∈(g.nodes.getD i default).outs,Tk g i (g.nodes.getD i default) k
instance (g:Ap) (i:Nat):Decidable (Nt g i):=by unfold Nt;infer_instance
def Fj (g:Ap):Prop:=(1≤g.nodes.length∧g.nodes.length≤8)∧(1≤g.workers∧g.workers≤4)∧(1≤g.cap∧g.cap≤4)∧∀i,i<g.nodes.length→Nt g i
instance (g:Ap):Decidable (Fj g):=by unfold Fj;infer_instance
def Ib (g:Ap):Bool:=decide (Fj g)
def Mz (p:Nat→Prop) (k:Nat):Prop:=∀i,i<k→p i
theorem Fc (p:Nat→Prop):Mz p 0:=fun i h=>absurd h (Nat.not_lt_zero i)
theorem Fb {p:Nat→Prop}{k:Nat}(h:Mz p k)(hk:p k):Mz p (k+1):=fun i hi=>by
 by_cases e:i=k
 ·subst e;exact hk
 exact h i Ab
theorem K9 {α:Type} [Inhabited α] {l:List α}{p:α→Prop}(h:Mz (fun i=>p (l.getD i default)) l.length):∀x∈l,p x:=fun x hx=>by
 obtain ⟨i,hi,e⟩:=List.getElem_of_mem hx
 have:p (l.getD i default):=h i hi
 rw [List.getD,List.getElem?_eq_getElem hi] at this
 rw [←e];exact this
theorem Ap.nodes_le {g:Ap}{n:Nat}(h:g.w≤n):g.nodes.length≤n:=by
 have:g.nodes.length+(g.nodes.map Aq.w).sum≤n:=h
 omega
theorem Ap.node_le {g:Ap}{n:Nat}(h:g.w≤n){k:Nat}(hk:k<g.nodes.length):(g.nodes.getD k default).w≤n:=by
 have:g.nodes.length+(g.nodes.map Aq.w).sum≤n:=h
 have hle:=H5 Aq.w g.nodes k hk
 omega
theorem B5u {z:Int}{k:Nat}(h:((z==1) !=((k:Int)==0))=true):¬ (z=1↔k=0):=by
 intro q
 by_cases e:k=0
 ·have:=q.2 e
  subst this;subst e
  exact absurd h Aw
 have e1:¬ z=1:=fun e2=>e (q.1 e2)
 rw [beq_eq_false_iff_ne.2 e1,beq_eq_false_iff_ne.2 (show (k:Int)≠0 by omega)] at h
 exact absurd h Aw
theorem B5t {z:Int}{k:Nat}(h:((z==1) !=((k:Int)==0))=false):z=1↔k=0:=by
 have h:=bne_eq_false_iff_eq.1 h
 constructor
 ·intro e
  have h2:((k:Int)==0)=true:=by rw [←h,e];rfl
  have:=eq_of_beq h2
  omega
 intro e
 have h2:(z==1)=true:=by rw [h,e];rfl
 exact eq_of_beq h2
theorem I0 (g:Ap)(hg:g.w≤16777216):Bo Tryz.prog 107 [.agg g.c] [.one (vb (Ib g))]:=by
 have hn:=Ap.nodes_le hg
 have hu:=Fc (Nt g)
 refine Bh A0 false Tryz.func107 rfl Aw fun W=>?_
 conv=>whnf
 repeat' (first|(refine L6 ?_;conv=>whnf)|(refine L7 ?_;conv=>whnf)|(refine ⟨fun h=>?_,fun h=>?_⟩<;>conv=>whnf)|(refine B5 (Fh _ _ _) rfl (A8 ?_))|(refine Gx ?_;conv=>whnf)|fail)
 all_goals try (refine B3 A0 rfl rfl ⟨congrArg vb (decide_eq_false fun p=>?_),trivial⟩;have p1:=p.1;have p2:=p.2.1;have p3:=p.2.2.1;clear p;simp only [beq_iff_eq,beq_eq_false_iff_ne,bne_iff_ne,bne_eq_false_iff_eq,Bool.not_eq_true',Bool.not_eq_false',Go.Sx.As,Go.Sx.Bn,decide_eq_true_eq,decide_eq_false_iff_not,ne_eq,Int.not_lt,Int.not_le,ge_iff_le,gt_iff_lt,Int.toNat_zero,Int.toNat_one,Int.toNat_natCast] at * <;>omega)
 refine C0 A0 false [] (fun k:Nat=>[(3,.c (vi k))]) (fun k=>[⟨0,[.c (Bp g.nodes),.c (vi g.workers),.c (vi g.cap)]⟩]) (fun k=>[])
  (fun k=>k≤g.nodes.length∧Mz (Nt g) k) (fun k=>g.nodes.length-k) 0 ⟨Nat.zero_le _,by first|rfl|assumption|simp⟩ ⟨G9,trivial⟩ Cf trivial Cr A7 (fun k hk=>?_)
 obtain ⟨hk,he⟩:=hk
 conv=>whnf
 refine Fi (fun h'=>?_) fun h'=>?_<;>conv=>whnf
 ·have h':k<g.nodes.length:=by omega
  have hw:=Ap.node_le hg h'
  have hq:(g.nodes.getD k default).outs.length≤16777216:=hw
  have hv:=Fc (fun j=>Tk g k (g.nodes.getD k default) ((g.nodes.getD k default).outs.getD j default))
  repeat' (first|(refine L6 ?_;conv=>whnf)|(refine L7 ?_;conv=>whnf)|(refine ⟨fun h=>?_,fun h=>?_⟩<;>conv=>whnf)|(refine B5 (Vp (g.nodes.getD k default) hw) rfl (Ji ?_);conv=>whnf)|(refine Gx ?_;conv=>whnf)|fail)
  ·exact B3 A0 rfl rfl ⟨congrArg vb (decide_eq_false fun p=>by rw [show Rs (g.nodes.getD k default)=true from decide_eq_true (p.2.2.2 k h').1] at h;exact absurd h Aw),trivial⟩
  ·exact B3 A0 rfl rfl ⟨congrArg vb (decide_eq_false fun p=>B5u h (p.2.2.2 k h').2.1),trivial⟩
  rename_i hno
  have hN:Jh (g.nodes.getD k default):=of_decide_eq_true (show Rs (g.nodes.getD k default)=true by cases hq2:Rs (g.nodes.getD k default)<;>simp_all only [Bool.not_false,Bool.true_eq_false])
  have hK:(g.nodes.getD k default).kind=1↔k=0:=B5t h
  have hO:=hN.2.2.2.2.2.2.2.2
  refine C0 A0 false [] (fun j:Nat=>[(5,.c (vi j))]) (fun j=>[⟨0,[.c (Bp g.nodes),.c (vi g.workers),.c (vi g.cap)]⟩,⟨1,[.c (vi (g.nodes.getD k default).kind),.c (vi (g.nodes.getD k default).a),.c (vi (g.nodes.getD k default).b),.c (At (g.nodes.getD k default).outs)]⟩]) (fun j=>[])
   (fun j=>j≤(g.nodes.getD k default).outs.length∧Mz (fun j=>Tk g k (g.nodes.getD k default) ((g.nodes.getD k default).outs.getD j default)) j) (fun j=>(g.nodes.getD k default).outs.length-j) 0 ⟨Nat.zero_le _,by first|rfl|assumption|simp⟩ ⟨G9,trivial⟩ Cf trivial Cr A7 (fun j hj=>?_)
  obtain ⟨hj,hej⟩:=hj
  conv=>whnf
  refine Fi (fun h2=>?_) fun h2=>?_<;>conv=>whnf
  ·have h2:j<(g.nodes.getD k default).outs.length:=by first|omega|(simp only [Int.toNat_natCast] at h2;omega)
   have hb:=hO _ (B8 (d:=default) h2)
   repeat' (first|(refine L6 ?_;conv=>whnf)|(refine L7 ?_;conv=>whnf)|(refine ⟨fun h=>?_,fun h=>?_⟩<;>conv=>whnf)|(refine Gx ?_;conv=>whnf)|fail)
   all_goals try (refine B3 A0 rfl rfl ⟨congrArg vb (decide_eq_false fun p=>?_),trivial⟩;have q:=(p.2.2.2 k h').2.2 _ (B8 (d:=default) h2);clear p hej he hv hu hN hK hO;simp only [Tk,Z8] at q;simp only [beq_iff_eq,beq_eq_false_iff_ne,bne_iff_ne,bne_eq_false_iff_eq,Bool.not_eq_true',Bool.not_eq_false',Go.Sx.As,Go.Sx.Bn,decide_eq_true_eq,decide_eq_false_iff_not,ne_eq,Int.not_lt,Int.not_le,ge_iff_le,gt_iff_lt,Int.toNat_zero,Int.toNat_one,Int.toNat_natCast] at * <;>omega)
   all_goals
    refine B9 [] (j+1) ⟨by omega,Fb hej (by clear hej he hv hu hN hK hO;simp only [Tk,Z8];simp only [beq_iff_eq,beq_eq_false_iff_ne,bne_iff_ne,bne_eq_false_iff_eq,Bool.not_eq_true',Bool.not_eq_false',Go.Sx.As,Go.Sx.Bn,decide_eq_true_eq,decide_eq_false_iff_not,ne_eq,Int.not_lt,Int.not_le,ge_iff_le,gt_iff_lt,Int.toNat_zero,Int.toNat_one,Int.toNat_natCast] at * <;>omega)⟩ Ab ⟨rfl,trivial⟩ trivial Cf A7 Cr A7
  have e:j=(g.nodes.getD k default).outs.length:=by first|omega|(simp only [Int.toNat_natCast] at h2;omega)
  (repeat refine An ?_)
  refine B9 [] (k+1) ⟨by omega,Fb he ⟨hN,hK,K9 (e▸hej)⟩⟩ Ab ⟨rfl,trivial⟩ trivial Cf A7 Cr A7
 have e:k=g.nodes.length:=by omega
 exact B3 A0 rfl rfl ⟨congrArg vb (decide_eq_true ⟨by simp only [beq_iff_eq,beq_eq_false_iff_ne,bne_iff_ne,bne_eq_false_iff_eq,Bool.not_eq_true',Bool.not_eq_false',Go.Sx.As,Go.Sx.Bn,decide_eq_true_eq,decide_eq_false_iff_not,ne_eq,Int.not_lt,Int.not_le,ge_iff_le,gt_iff_lt,Int.toNat_zero,Int.toNat_one,Int.toNat_natCast] at * <;>omega,by simp only [beq_iff_eq,beq_eq_false_iff_ne,bne_iff_ne,bne_eq_false_iff_eq,Bool.not_eq_true',Bool.not_eq_false',Go.Sx.As,Go.Sx.Bn,decide_eq_true_eq,decide_eq_false_iff_not,ne_eq,Int.not_lt,Int.not_le,ge_iff_le,gt_iff_lt,Int.toNat_zero,Int.toNat_one,Int.toNat_natCast] at * <;>omega,by simp only [beq_iff_eq,beq_eq_false_iff_ne,bne_iff_ne,bne_eq_false_iff_eq,Bool.not_eq_true',Bool.not_eq_false',Go.Sx.As,Go.Sx.Bn,decide_eq_true_eq,decide_eq_false_iff_not,ne_eq,Int.not_lt,Int.not_le,ge_iff_le,gt_iff_lt,Int.toNat_zero,Int.toNat_one,Int.toNat_natCast] at * <;>omega,e▸he⟩),trivial⟩
def Li (l:List Ag):Prop:=∀i,i<l.length-1→Iv (l.getD i default) (l.getD (i+1) default)<0
instance (l:List Ag):Decidable (Li l):=by unfold Li;infer_instance
def Yn (l:List Ag):Bool:=decide (Li l)
theorem A2l (l:List Ag)(hl:l.length≤16777216):Bo Tryz.prog 173 [.one (Ak l)] [.one (vb (Yn l))]:=by
 refine Bh A0 false Tryz.func173 rfl Aw fun W=>?_
 conv=>whnf
 refine C0 A0 false [] (fun j:Nat=>[(3,.c (vi ((j:Int)+1)))]) (fun j=>[]) (fun j=>[]) (fun j=>j≤l.length∧Mz (fun i=>Iv (l.getD i default) (l.getD (i+1) default)<0) j) (fun j=>l.length-j) (0) (⟨Nat.zero_le _,Fc _⟩) ⟨G9,trivial⟩ trivial trivial Cr A7 (fun j hj=>?_)
 conv=>whnf
 obtain ⟨hj,he⟩:=hj
 refine Fi (fun h=>?_) fun h=>?_<;>conv=>whnf
 ·have h:j+1<l.length:=by omega
  have e1:((j:Int)+1-1).toNat=j:=by omega
  have e2:((j:Int)+1).toNat=j+1:=by omega
  (repeat refine An ?_)
  first|(refine B7 4 rfl [0,1,2,3,4,5,6,7,8,9,10] A7 (A8 ?_))
  (repeat refine An ?_)
  refine B5 (On (l.getD ((j:Int)+1-1).toNat default) (l.getD ((j:Int)+1).toNat default)) rfl (A8 ?_)
  refine Fi (fun h2=>?_) fun h2=>?_<;>conv=>whnf
  all_goals rw [e1,e2] at h2
  ·exact B3 A0 rfl rfl ⟨congrArg vb (decide_eq_false fun p=>by have:=p j Ab;omega),trivial⟩
  (repeat refine An ?_)
  refine B9 [] (j+1) (⟨by omega,Fb he Ab⟩) Ab ⟨rfl,trivial⟩ trivial trivial A7 Cr A7
 exact B3 A0 rfl rfl ⟨congrArg vb (decide_eq_true fun i hi=>he i Ab),trivial⟩
def Ra (n:Nat) (l:List Ae):Prop:=∀r∈l,Hs r∧r.op<n
instance (n:Nat) (l:List Ae):Decidable (Ra n l):=by unfold Ra;infer_instance
def A1z (n:Nat) (l:List Ae):Bool:=decide (Ra n l)
theorem A3r (g:Ap)(k:Int)(hg:g.w≤16777216):Bo Tryz.prog 140 [.agg g.c,.one (vi k)] [.one (vb (Do k 0 (g.nodes.length-1)))]:=by
 have hn:=Ap.nodes_le hg
 refine Bh A0 false Tryz.func140 rfl Aw fun W=>?_
 conv=>whnf
 (repeat refine An ?_)
 refine B5 (A3q k 0 (g.nodes.length-1)) rfl (A8 ?_)
 exact B3 A0 rfl rfl ⟨rfl,trivial⟩
theorem M4 {r:Ae}:Ig r=true↔Hs r:=decide_eq_true_iff
theorem O6 (g:Ap)(l:List Ae)(hg:g.w≤16777216)(hl:l.length≤16777216):Bo Tryz.prog 139 [.agg g.c,.one (Ah l)] [.one (vb (A1z g.nodes.length l))]:=by
 have hu:=Fc (fun i=>Hs (l.getD i default)∧(l.getD i default).op<g.nodes.length)
 have hn:=Ap.nodes_le hg
 refine Bh A0 false Tryz.func139 rfl Aw fun W=>?_
 conv=>whnf
 refine C0 A0 false [] (fun k:Nat=>[(5,.c (vi k))]) (fun k=>[⟨0,[.c (Bp g.nodes),.c (vi g.workers),.c (vi g.cap)]⟩]) (fun k=>[])
  (fun k=>k≤l.length∧Mz (fun i=>Hs (l.getD i default)∧(l.getD i default).op<g.nodes.length) k) (fun k=>l.length-k) 0 ⟨Nat.zero_le _,by first|rfl|assumption|simp⟩ ⟨G9,trivial⟩ Cf trivial Cr A7 (fun k hk=>?_)
 obtain ⟨hk,he⟩:=hk
 conv=>whnf
 refine Fi (fun h'=>?_) fun h'=>?_<;>conv=>whnf
 ·have h':k<l.length:=by omega
  repeat' (first|(refine L6 ?_;conv=>whnf)|(refine L7 ?_;conv=>whnf)|(refine ⟨fun h=>?_,fun h=>?_⟩<;>conv=>whnf)|(refine B5 (Hb (l.getD k default)) rfl (Ji ?_);conv=>whnf)|(refine B5 (Fh _ _ _) rfl (A8 ?_))|(refine Gx ?_;conv=>whnf)|(refine B7 4 rfl [0,1,2,3,4,5,6,7,8,9,10,11,12,13,14,15,16] A7 (A8 ?_))|fail)
  all_goals try (refine B3 A0 rfl rfl ⟨congrArg vb (decide_eq_false fun p=>?_),trivial⟩;obtain ⟨p1,p2⟩:=p _ (B8 (d:=default) h');first|(rw [M4.2 p1] at h;exact absurd h Aw)|(have p3:=p1.1;clear he hu;simp only [beq_iff_eq,beq_eq_false_iff_ne,bne_iff_ne,bne_eq_false_iff_eq,Bool.not_eq_true',Bool.not_eq_false',Go.Sx.As,Go.Sx.Bn,decide_eq_true_eq,decide_eq_false_iff_not,ne_eq,Int.not_lt,Int.not_le,ge_iff_le,gt_iff_lt,Int.toNat_zero,Int.toNat_one,Int.toNat_natCast] at * <;>omega))
  all_goals
   have hp:Hs (l.getD k default):=M4.1 (by first|(simpa using h)|(rename_i q _;simpa using q)|(rename_i q;simpa using q))
   refine B9 [] (k+1) ⟨by omega,Fb he ⟨hp,by clear he hu hp;simp only [beq_iff_eq,beq_eq_false_iff_ne,bne_iff_ne,bne_eq_false_iff_eq,Bool.not_eq_true',Bool.not_eq_false',Go.Sx.As,Go.Sx.Bn,decide_eq_true_eq,decide_eq_false_iff_not,ne_eq,Int.not_lt,Int.not_le,ge_iff_le,gt_iff_lt,Int.toNat_zero,Int.toNat_one,Int.toNat_natCast] at * <;>omega⟩⟩ Ab ⟨rfl,trivial⟩ trivial Cf A7 Cr A7
 have e:k=l.length:=by omega
 exact B3 A0 rfl rfl ⟨congrArg vb (decide_eq_true (K9 (p:=fun r=>Hs r∧r.op<g.nodes.length) (e▸he))),trivial⟩
def B2e (l:List Ae):Prop:=∀r∈l,Hs r
instance (l:List Ae):Decidable (B2e l):=by unfold B2e;infer_instance
def X1 (l:Bv):Prop:=(1≤l.cap∧l.cap≤4)∧(0≤l.credits∧l.credits≤l.cap)∧(0≤l.back∧l.back≤l.cap)∧l.credits+l.back+l.queue.length=l.cap∧(0≤l.sent∧l.sent≤1000000000)∧0≤l.got∧l.sent-l.got=l.queue.length
instance (l:Bv):Decidable (X1 l):=by unfold X1;infer_instance
def G1 (l:Bv):Prop:=X1 l∧B2e l.queue
instance (l:Bv):Decidable (G1 l):=by unfold G1;infer_instance
def M0 (l:Bv):Bool:=decide (G1 l)
theorem Me (l:Bv)(hl:l.w≤16777216):Bo Tryz.prog 138 [.agg l.c] [.one (vb (M0 l))]:=by
 have hq:l.queue.length≤16777216:=hl
 have hu:=Fc (fun i=>Hs (l.queue.getD i default))
 refine Bh A0 false Tryz.func138 rfl Aw fun W=>?_
 conv=>whnf
 refine C0 A0 false [] (fun k:Nat=>[(3,.c (vi k))]) (fun k=>[⟨0,[.c (vi l.cap),.c (Ah l.queue),.c (vi l.credits),.c (vi l.back),.c (vi l.sent),.c (vi l.got)]⟩]) (fun k=>[])
  (fun k=>k≤l.queue.length∧Mz (fun i=>Hs (l.queue.getD i default)) k) (fun k=>l.queue.length-k) 0 ⟨Nat.zero_le _,by first|rfl|assumption|simp⟩ ⟨G9,trivial⟩ Cf trivial Cr A7 (fun k hk=>?_)
 obtain ⟨hk,he⟩:=hk
 conv=>whnf
 refine Fi (fun h'=>?_) fun h'=>?_<;>conv=>whnf
 ·have h':k<l.queue.length:=by omega
  (repeat refine An ?_)
  refine B5 (Hb (l.queue.getD k default)) rfl (A8 ?_)
  refine ⟨fun h=>?_,fun h=>?_⟩<;>conv=>whnf
  ·exact B3 A0 rfl rfl ⟨congrArg vb (decide_eq_false fun p=>by rw [M4.2 (p.2 _ (B8 (d:=default) h'))] at h;exact absurd h Aw),trivial⟩
  (repeat refine An ?_)
  refine B9 [] (k+1) ⟨by omega,Fb he (M4.1 (by simpa using h))⟩ Ab ⟨rfl,trivial⟩ trivial Cf A7 Cr A7
 have e:k=l.queue.length:=by omega
 have hA:B2e l.queue:=K9 (p:=Hs) (e▸he)
 clear he hu
 repeat' (first|(refine L6 ?_;conv=>whnf)|(refine L7 ?_;conv=>whnf)|(refine ⟨fun h=>?_,fun h=>?_⟩<;>conv=>whnf)|(refine B5 (Fh _ _ _) rfl (A8 ?_))|(refine Gx ?_;conv=>whnf)|fail)
 all_goals first
  |(refine B3 A0 rfl rfl ⟨congrArg vb (decide_eq_false fun p=>?_),trivial⟩;obtain ⟨⟨p1,p2,p3,p4,p5,p6,p7⟩,_⟩:=p;clear hA;simp only [beq_iff_eq,beq_eq_false_iff_ne,bne_iff_ne,bne_eq_false_iff_eq,Bool.not_eq_true',Bool.not_eq_false',Go.Sx.As,Go.Sx.Bn,decide_eq_true_eq,decide_eq_false_iff_not,ne_eq,Int.not_lt,Int.not_le,ge_iff_le,gt_iff_lt,Int.toNat_zero,Int.toNat_one,Int.toNat_natCast] at * <;>omega)
  |(refine B3 A0 rfl rfl ⟨congrArg vb (decide_eq_decide.2 ⟨fun p=>p.1.2.2.2.2.2.1,fun p=>⟨?_,hA⟩⟩),trivial⟩;clear hA;refine ⟨?_,?_,?_,?_,?_,?_,?_⟩<;>(simp only [beq_iff_eq,beq_eq_false_iff_ne,bne_iff_ne,bne_eq_false_iff_eq,Bool.not_eq_true',Bool.not_eq_false',Go.Sx.As,Go.Sx.Bn,decide_eq_true_eq,decide_eq_false_iff_not,ne_eq,Int.not_lt,Int.not_le,ge_iff_le,gt_iff_lt,Int.toNat_zero,Int.toNat_one,Int.toNat_natCast] at * <;>omega))
end Go.Proofs.YtdendlkeiaccpaaGreatDoor
