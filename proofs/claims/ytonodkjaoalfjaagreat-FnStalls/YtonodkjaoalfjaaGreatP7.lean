/- Part 7 of the proof that each of the laws FnStalls returns true for every input. No conditions. -/
import Derived.Test.YtonodkjaoalfjaaGreatP6

set_option linter.unusedSimpArgs false
set_option linter.unusedVariables false
set_option maxRecDepth 100000
namespace Go.Proofs.YtonodkjaoalfjaaGreat
open Go.Sx
def K1 (a b:Int):Int:=if a<b then-1 else if a>b then 1 else 0
def P1:List Int→List Int→Int
 |a::x,b::y=>if K1 a b=0 then P1 x y else K1 a b
 |_,_=>0
theorem B1k (a b:Int):B0 Tryz.prog 165 [.one (vi a),.one (vi b)] [.one (vi (K1 a b))]:=by
 refine Ay A0 false Tryz.func165 rfl Bu fun W=>?_
 conv=>whnf
 refine G5 (fun h=>?_) fun h=>?_<;>conv=>whnf
 ·exact Ao A0 rfl rfl ⟨congrArg vi (by rw [K1,if_pos h]),trivial⟩
 ·refine G5 (fun h2=>?_) fun h2=>?_<;>conv=>whnf
  ·exact Ao A0 rfl rfl ⟨congrArg vi (by rw [K1,if_neg h,if_pos h2]),trivial⟩
  ·exact Ao A0 rfl rfl ⟨congrArg vi (by rw [K1,if_neg h,if_neg h2]),trivial⟩
def Lp (x:A7):List Int:=[x.epoch,x.op,x.key,x.val]
def Jr (a b:A7):Int:=P1 (Lp a) (Lp b)
def A9w (a b:A7):List Int:=[K1 a.epoch b.epoch,K1 a.op b.op,K1 a.key b.key,K1 a.val b.val]
theorem Wm:∀(l m:List Int) (k:Nat),(∀i,i<k→K1 (l.getD i default) (m.getD i default)=0)→l.length=m.length→k<l.length→K1 (l.getD k default) (m.getD k default)≠0→P1 l m=K1 (l.getD k default) (m.getD k default)
 | [],_,_,_,_,h,_=>by simp at h
 |_::_,[],_,_,h,_,_=>by simp at h
 |a::x,b::y,0,_,_,_,h=>by rw [P1,if_neg (show ¬ K1 a b=0 from h)];rfl
 |a::x,b::y,k+1,h0,hl,hk,h=>by
  have:=h0 0 Ac
  rw [P1,if_pos (show K1 a b=0 from this)]
  exact Wm x y k (fun i hi=>h0 (i+1) Ac) (by simpa using hl) (by simpa using hk) h
theorem Z8:∀(l m:List Int),(∀i,i<l.length→K1 (l.getD i default) (m.getD i default)=0)→l.length=m.length→P1 l m=0
 | [],_,_,_=>by rw [P1];simp
 |_::_,[],_,h=>by simp at h
 |a::x,b::y,h0,hl=>by
  have:=h0 0 A9h
  rw [P1,if_pos (show K1 a b=0 from this)]
  exact Z8 x y (fun i hi=>h0 (i+1) (by simpa using hi)) (by simpa using hl)
theorem Yd (a b:A7):B0 Tryz.prog 144 [.agg a.c,.agg b.c] [.one (vi (Jr a b))]:=by
 refine Ay A0 false Tryz.func144 rfl Bu fun W=>?_
 conv=>whnf
 repeat' (first|(refine Ms ?_;conv=>whnf)|(refine Mt ?_;conv=>whnf)|(refine ⟨fun h=>?_,fun h=>?_⟩<;>conv=>whnf)|(refine Aw (B1k _ _) rfl (Al ?_))|(refine Gj ?_;conv=>whnf)|(refine B9 1 rfl [0,1,2,3,5,6,7,8,10,11,12,13,15,16,17,18,4,9,14,19,20,21] Aa (Al ?_))|fail)
 refine G4 2 (F1 (A9w a b)) rfl (Db rfl F3) ?_
 refine Bw A0 false [] (fun k:Nat=>[(6,.c (vi k))]) (fun k=>[]) (fun k=>[⟨2,F1 (A9w a b)⟩])
  (fun k=>k≤4∧∀i,i<k→(A9w a b).getD i default=0) (fun k=>4-k) 0 ⟨Nat.zero_le _,by first|rfl|assumption|simp⟩ ⟨by first|rfl|simp [Dl,ren2,ren1,ren0],trivial⟩ trivial ⟨by first|rfl|exact (congrArg (fun l=>Du _ _ l) (List.append_nil _)).symm|(show (_:A8)=_;simp)|simp,trivial⟩ Dh Aa (fun k hk=>?_)
 obtain ⟨hk,he⟩:=hk
 conv=>whnf
 refine G5 (fun h=>?_) fun h=>?_<;>conv=>whnf
 ·have h:k<4:=by omega
  have hk:(A9w a b).length=4:=rfl
  have hq:∀i,i<4→(A9w a b).getD i default=K1 ((Lp a).getD i default) ((Lp b).getD i default):=fun i hi=>by
   match i,hi with
   | 0,_=>rfl
   | 1,_=>rfl
   | 2,_=>rfl
   | 3,_=>rfl
  (repeat refine Ar ?_)
  refine ⟨fun h3=>have h3:=bne_iff_ne.1 h3;?_,fun h3=>have h3:=bne_eq_false_iff_eq.1 h3;?_⟩<;>conv=>whnf
  ·(repeat refine Ar ?_)
   exact Ao A0 rfl rfl ⟨congrArg vi ((Wm _ _ k (fun i hi=>(hq i Ac).symm.trans (he i hi)) rfl h (by rw [←hq k h];exact h3)).trans (hq k h).symm),trivial⟩
  ·(repeat refine Ar ?_)
   refine B5 [] (k+1) ⟨by omega,fun i hi=>(Nat.lt_succ_iff_lt_or_eq.1 hi).elim (fun h4=>he i h4) (fun h4=>h4▸h3)⟩ Ac ⟨rfl,trivial⟩ ⟨rfl,trivial⟩ trivial Aa Dh Aa
 ·have hq:∀i,i<4→(A9w a b).getD i default=K1 ((Lp a).getD i default) ((Lp b).getD i default):=fun i hi=>by
   match i,hi with
   | 0,_=>rfl
   | 1,_=>rfl
   | 2,_=>rfl
   | 3,_=>rfl
  exact Ao A0 rfl rfl ⟨congrArg vi (Z8 (Lp a) (Lp b) (fun i hi=>(hq i hi).symm.trans (he i (by have:i<4:=hi;omega))) rfl),trivial⟩
def T4 (g:Ad) (k:Int):Int:=(g.nodes.getD k.toNat default).kind
def Ob (g:Ad) (i:Nat) (x:Cb) (k:Int):Prop:=k<g.nodes.length∧(x.kind=7→k≤i∧(T4 g k=5∨T4 g k=6))∧(x.kind≠7→i<k)
instance (g:Ad) (i:Nat) (x:Cb) (k:Int):Decidable (Ob g i x k):=by unfold Ob;infer_instance
def Lm (g:Ad) (i:Nat):Prop:=Iw (g.nodes.getD i default)∧((g.nodes.getD i default).kind=1↔i=0)∧∀k∈(g.nodes.getD i default).outs,Ob g i (g.nodes.getD i default) k
instance (g:Ad) (i:Nat):Decidable (Lm g i):=by unfold Lm;infer_instance
def E7 (g:Ad):Prop:=(1≤g.nodes.length∧g.nodes.length≤8)∧(1≤g.workers∧g.workers≤4)∧(1≤g.cap∧g.cap≤4)∧∀i,i<g.nodes.length→Lm g i
instance (g:Ad):Decidable (E7 g):=by unfold E7;infer_instance
def Ga (g:Ad):Bool:=decide (E7 g)
def O8 (p:Nat→Prop) (k:Nat):Prop:=∀i,i<k→p i
theorem Fe (p:Nat→Prop):O8 p 0:=fun i h=>absurd h (Nat.not_lt_zero i)
theorem Fc {p:Nat→Prop}{k:Nat}(h:O8 p k)(hk:p k):O8 p (k+1):=fun i hi=>by
 by_cases e:i=k
 ·subst e;exact hk
 ·exact h i Ac
theorem K5 {α:Type} [Inhabited α] {l:List α}{p:α→Prop}(h:O8 (fun i=>p (l.getD i default)) l.length):∀x∈l,p x:=fun x hx=>by
 obtain ⟨i,hi,e⟩:=List.getElem_of_mem hx
 have:p (l.getD i default):=h i hi
 rw [List.getD,List.getElem?_eq_getElem hi] at this
 rw [←e];exact this
theorem Ad.nodes_le {g:Ad}{n:Nat}(h:g.w≤n):g.nodes.length≤n:=by
 have:g.nodes.length+(g.nodes.map Cb.w).sum≤n:=h
 omega
theorem Ad.node_le {g:Ad}{n:Nat}(h:g.w≤n){k:Nat}(hk:k<g.nodes.length):(g.nodes.getD k default).w≤n:=by
 have:g.nodes.length+(g.nodes.map Cb.w).sum≤n:=h
 have hle:=Hg Cb.w g.nodes k hk
 omega
theorem B4j {z:Int}{k:Nat}(h:((z==1) !=((k:Int)==0))=true):¬ (z=1↔k=0):=by
 intro q
 by_cases e:k=0
 ·have:=q.2 e
  subst this;subst e
  exact absurd h Bu
 ·have e1:¬ z=1:=fun e2=>e (q.1 e2)
  rw [beq_eq_false_iff_ne.2 e1,beq_eq_false_iff_ne.2 (show (k:Int)≠0 by omega)] at h
  exact absurd h Bu
theorem B4i {z:Int}{k:Nat}(h:((z==1) !=((k:Int)==0))=false):z=1↔k=0:=by
 have h:=bne_eq_false_iff_eq.1 h
 constructor
 ·intro e
  have h2:((k:Int)==0)=true:=by rw [←h,e];rfl
  have:=eq_of_beq h2
  omega
 ·intro e
  have h2:(z==1)=true:=by rw [h,e];rfl
  exact eq_of_beq h2
theorem A49 (g:Ad)(hg:g.w≤16777216):B0 Tryz.prog 86 [.agg g.c] [.one (vb (Ga g))]:=by
 have hn:=Ad.nodes_le hg
 have hu:=Fe (Lm g)
 refine Ay A0 false Tryz.func86 rfl Bu fun W=>?_
 conv=>whnf
 repeat' (first|(refine Ms ?_;conv=>whnf)|(refine Mt ?_;conv=>whnf)|(refine ⟨fun h=>?_,fun h=>?_⟩<;>conv=>whnf)|(refine Aw (Jo _ _ _) rfl (Al ?_))|(refine Gj ?_;conv=>whnf)|fail)
 all_goals try (refine Ao A0 rfl rfl ⟨congrArg vb (decide_eq_false fun p=>?_),trivial⟩;have p1:=p.1;have p2:=p.2.1;have p3:=p.2.2.1;clear p;simp only [beq_iff_eq,beq_eq_false_iff_ne,bne_iff_ne,bne_eq_false_iff_eq,Bool.not_eq_true',Bool.not_eq_false',Go.Sx.Am,Go.Sx.Az,decide_eq_true_eq,decide_eq_false_iff_not,ne_eq,Int.not_lt,Int.not_le,ge_iff_le,gt_iff_lt,Int.toNat_zero,Int.toNat_one,Int.toNat_natCast] at * <;>omega)
 refine Bw A0 false [] (fun k:Nat=>[(3,.c (vi k))]) (fun k=>[⟨0,[.c (Bp g.nodes),.c (vi g.workers),.c (vi g.cap)]⟩]) (fun k=>[])
  (fun k=>k≤g.nodes.length∧O8 (Lm g) k) (fun k=>g.nodes.length-k) 0 ⟨Nat.zero_le _,by first|rfl|assumption|simp⟩ ⟨by first|rfl|simp [Dl,ren2,ren1,ren0],trivial⟩ F3 trivial Dh Aa (fun k hk=>?_)
 obtain ⟨hk,he⟩:=hk
 conv=>whnf
 refine G5 (fun h'=>?_) fun h'=>?_<;>conv=>whnf
 ·have h':k<g.nodes.length:=by omega
  have hw:=Ad.node_le hg h'
  have hq:(g.nodes.getD k default).outs.length≤16777216:=hw
  have hv:=Fe (fun j=>Ob g k (g.nodes.getD k default) ((g.nodes.getD k default).outs.getD j default))
  repeat' (first|(refine Ms ?_;conv=>whnf)|(refine Mt ?_;conv=>whnf)|(refine ⟨fun h=>?_,fun h=>?_⟩<;>conv=>whnf)|(refine Aw (Xj (g.nodes.getD k default) hw) rfl (Tt ?_);conv=>whnf)|(refine Gj ?_;conv=>whnf)|fail)
  ·exact Ao A0 rfl rfl ⟨congrArg vb (decide_eq_false fun p=>by rw [show Ka (g.nodes.getD k default)=true from decide_eq_true (p.2.2.2 k h').1] at h;exact absurd h Bu),trivial⟩
  ·exact Ao A0 rfl rfl ⟨congrArg vb (decide_eq_false fun p=>B4j h (p.2.2.2 k h').2.1),trivial⟩
  ·rename_i hno
   have hN:Iw (g.nodes.getD k default):=of_decide_eq_true (show Ka (g.nodes.getD k default)=true by cases hq2:Ka (g.nodes.getD k default)<;>simp_all only [Bool.not_false,Bool.true_eq_false])
   have hK:(g.nodes.getD k default).kind=1↔k=0:=B4i h
   have hO:=hN.2.2.2.2.2.2.2.2
   refine Bw A0 false [] (fun j:Nat=>[(5,.c (vi j))]) (fun j=>[⟨0,[.c (Bp g.nodes),.c (vi g.workers),.c (vi g.cap)]⟩,⟨1,[.c (vi (g.nodes.getD k default).kind),.c (vi (g.nodes.getD k default).a),.c (vi (g.nodes.getD k default).b),.c (F1 (g.nodes.getD k default).outs)]⟩]) (fun j=>[])
    (fun j=>j≤(g.nodes.getD k default).outs.length∧O8 (fun j=>Ob g k (g.nodes.getD k default) ((g.nodes.getD k default).outs.getD j default)) j) (fun j=>(g.nodes.getD k default).outs.length-j) 0 ⟨Nat.zero_le _,by first|rfl|assumption|simp⟩ ⟨by first|rfl|simp [Dl,ren2,ren1,ren0],trivial⟩ F3 trivial Dh Aa (fun j hj=>?_)
   obtain ⟨hj,hej⟩:=hj
   conv=>whnf
   refine G5 (fun h2=>?_) fun h2=>?_<;>conv=>whnf
   ·have h2:j<(g.nodes.getD k default).outs.length:=by first|omega|(simp only [Int.toNat_natCast] at h2;omega)
    have hb:=hO _ (Aq (d:=default) h2)
    repeat' (first|(refine Ms ?_;conv=>whnf)|(refine Mt ?_;conv=>whnf)|(refine ⟨fun h=>?_,fun h=>?_⟩<;>conv=>whnf)|(refine Gj ?_;conv=>whnf)|fail)
    all_goals try (refine Ao A0 rfl rfl ⟨congrArg vb (decide_eq_false fun p=>?_),trivial⟩;have q:=(p.2.2.2 k h').2.2 _ (Aq (d:=default) h2);clear p hej he hv hu hN hK hO;simp only [Ob,T4] at q;simp only [beq_iff_eq,beq_eq_false_iff_ne,bne_iff_ne,bne_eq_false_iff_eq,Bool.not_eq_true',Bool.not_eq_false',Go.Sx.Am,Go.Sx.Az,decide_eq_true_eq,decide_eq_false_iff_not,ne_eq,Int.not_lt,Int.not_le,ge_iff_le,gt_iff_lt,Int.toNat_zero,Int.toNat_one,Int.toNat_natCast] at * <;>omega)
    all_goals
     refine B5 [] (j+1) ⟨by omega,Fc hej (by clear hej he hv hu hN hK hO;simp only [Ob,T4];simp only [beq_iff_eq,beq_eq_false_iff_ne,bne_iff_ne,bne_eq_false_iff_eq,Bool.not_eq_true',Bool.not_eq_false',Go.Sx.Am,Go.Sx.Az,decide_eq_true_eq,decide_eq_false_iff_not,ne_eq,Int.not_lt,Int.not_le,ge_iff_le,gt_iff_lt,Int.toNat_zero,Int.toNat_one,Int.toNat_natCast] at * <;>omega)⟩ Ac ⟨rfl,trivial⟩ trivial F3 Aa Dh Aa
   ·have e:j=(g.nodes.getD k default).outs.length:=by first|omega|(simp only [Int.toNat_natCast] at h2;omega)
    (repeat refine Ar ?_)
    refine B5 [] (k+1) ⟨by omega,Fc he ⟨hN,hK,K5 (e▸hej)⟩⟩ Ac ⟨rfl,trivial⟩ trivial F3 Aa Dh Aa
 ·have e:k=g.nodes.length:=by omega
  exact Ao A0 rfl rfl ⟨congrArg vb (decide_eq_true ⟨by simp only [beq_iff_eq,beq_eq_false_iff_ne,bne_iff_ne,bne_eq_false_iff_eq,Bool.not_eq_true',Bool.not_eq_false',Go.Sx.Am,Go.Sx.Az,decide_eq_true_eq,decide_eq_false_iff_not,ne_eq,Int.not_lt,Int.not_le,ge_iff_le,gt_iff_lt,Int.toNat_zero,Int.toNat_one,Int.toNat_natCast] at * <;>omega,by simp only [beq_iff_eq,beq_eq_false_iff_ne,bne_iff_ne,bne_eq_false_iff_eq,Bool.not_eq_true',Bool.not_eq_false',Go.Sx.Am,Go.Sx.Az,decide_eq_true_eq,decide_eq_false_iff_not,ne_eq,Int.not_lt,Int.not_le,ge_iff_le,gt_iff_lt,Int.toNat_zero,Int.toNat_one,Int.toNat_natCast] at * <;>omega,by simp only [beq_iff_eq,beq_eq_false_iff_ne,bne_iff_ne,bne_eq_false_iff_eq,Bool.not_eq_true',Bool.not_eq_false',Go.Sx.Am,Go.Sx.Az,decide_eq_true_eq,decide_eq_false_iff_not,ne_eq,Int.not_lt,Int.not_le,ge_iff_le,gt_iff_lt,Int.toNat_zero,Int.toNat_one,Int.toNat_natCast] at * <;>omega,e▸he⟩),trivial⟩
def Mu (l:List A7):Prop:=∀i,i<l.length-1→Jr (l.getD i default) (l.getD (i+1) default)<0
instance (l:List A7):Decidable (Mu l):=by unfold Mu;infer_instance
def A0n (l:List A7):Bool:=decide (Mu l)
theorem C3h (l:List A7)(hl:l.length≤16777216):B0 Tryz.prog 139 [.one (Ai l)] [.one (vb (A0n l))]:=by
 refine Ay A0 false Tryz.func139 rfl Bu fun W=>?_
 conv=>whnf
 refine Bw A0 false [] (fun j:Nat=>[(3,.c (vi ((j:Int)+1)))]) (fun j=>[]) (fun j=>[]) (fun j=>j≤l.length∧O8 (fun i=>Jr (l.getD i default) (l.getD (i+1) default)<0) j) (fun j=>l.length-j) (0) (⟨Nat.zero_le _,Fe _⟩) ⟨by first|rfl|simp [Dl,ren2,ren1,ren0],trivial⟩ trivial trivial Dh Aa (fun j hj=>?_)
 conv=>whnf
 obtain ⟨hj,he⟩:=hj
 refine G5 (fun h=>?_) fun h=>?_<;>conv=>whnf
 ·have h:j+1<l.length:=by omega
  have e1:((j:Int)+1-1).toNat=j:=by omega
  have e2:((j:Int)+1).toNat=j+1:=by omega
  (repeat refine Ar ?_)
  first|(refine B9 4 rfl [0,1,2,3,4,5,6,7,8,9,10] Aa (Al ?_))
  (repeat refine Ar ?_)
  refine Aw (Yd (l.getD ((j:Int)+1-1).toNat default) (l.getD ((j:Int)+1).toNat default)) rfl (Al ?_)
  refine G5 (fun h2=>?_) fun h2=>?_<;>conv=>whnf
  all_goals rw [e1,e2] at h2
  ·exact Ao A0 rfl rfl ⟨congrArg vb (decide_eq_false fun p=>by have:=p j Ac;omega),trivial⟩
  ·(repeat refine Ar ?_)
   refine B5 [] (j+1) (⟨by omega,Fc he Ac⟩) Ac ⟨rfl,trivial⟩ trivial trivial Aa Dh Aa
 ·exact Ao A0 rfl rfl ⟨congrArg vb (decide_eq_true fun i hi=>he i Ac),trivial⟩
def Sm (n:Nat) (l:List A5):Prop:=∀r∈l,Ja r∧r.op<n
instance (n:Nat) (l:List A5):Decidable (Sm n l):=by unfold Sm;infer_instance
def A39 (n:Nat) (l:List A5):Bool:=decide (Sm n l)
theorem Nu {r:A5}:F9 r=true↔Ja r:=decide_eq_true_iff
theorem C1b (g:Ad)(l:List A5)(hg:g.w≤16777216)(hl:l.length≤16777216):B0 Tryz.prog 100 [.agg g.c,.one (Ax l)] [.one (vb (A39 g.nodes.length l))]:=by
 have hu:=Fe (fun i=>Ja (l.getD i default)∧(l.getD i default).op<g.nodes.length)
 have hn:=Ad.nodes_le hg
 refine Ay A0 false Tryz.func100 rfl Bu fun W=>?_
 conv=>whnf
 refine Bw A0 false [] (fun k:Nat=>[(5,.c (vi k))]) (fun k=>[⟨0,[.c (Bp g.nodes),.c (vi g.workers),.c (vi g.cap)]⟩]) (fun k=>[])
  (fun k=>k≤l.length∧O8 (fun i=>Ja (l.getD i default)∧(l.getD i default).op<g.nodes.length) k) (fun k=>l.length-k) 0 ⟨Nat.zero_le _,by first|rfl|assumption|simp⟩ ⟨by first|rfl|simp [Dl,ren2,ren1,ren0],trivial⟩ F3 trivial Dh Aa (fun k hk=>?_)
 obtain ⟨hk,he⟩:=hk
 conv=>whnf
 refine G5 (fun h'=>?_) fun h'=>?_<;>conv=>whnf
 ·have h':k<l.length:=by omega
  repeat' (first|(refine Ms ?_;conv=>whnf)|(refine Mt ?_;conv=>whnf)|(refine ⟨fun h=>?_,fun h=>?_⟩<;>conv=>whnf)|(refine Aw (A19 (l.getD k default)) rfl (Tt ?_);conv=>whnf)|(refine Aw (Jo _ _ _) rfl (Al ?_))|(refine Gj ?_;conv=>whnf)|(refine B9 4 rfl [0,1,2,3,4,5,6,7,8,9,10,11,12,13,14,15,16] Aa (Al ?_))|fail)
  all_goals try (refine Ao A0 rfl rfl ⟨congrArg vb (decide_eq_false fun p=>?_),trivial⟩;obtain ⟨p1,p2⟩:=p _ (Aq (d:=default) h');first|(rw [Nu.2 p1] at h;exact absurd h Bu)|(have p3:=p1.1;clear he hu;simp only [beq_iff_eq,beq_eq_false_iff_ne,bne_iff_ne,bne_eq_false_iff_eq,Bool.not_eq_true',Bool.not_eq_false',Go.Sx.Am,Go.Sx.Az,decide_eq_true_eq,decide_eq_false_iff_not,ne_eq,Int.not_lt,Int.not_le,ge_iff_le,gt_iff_lt,Int.toNat_zero,Int.toNat_one,Int.toNat_natCast] at * <;>omega))
  all_goals
   have hp:Ja (l.getD k default):=Nu.1 (by first|(simpa using h)|(rename_i q _;simpa using q)|(rename_i q;simpa using q))
   refine B5 [] (k+1) ⟨by omega,Fc he ⟨hp,by clear he hu hp;simp only [beq_iff_eq,beq_eq_false_iff_ne,bne_iff_ne,bne_eq_false_iff_eq,Bool.not_eq_true',Bool.not_eq_false',Go.Sx.Am,Go.Sx.Az,decide_eq_true_eq,decide_eq_false_iff_not,ne_eq,Int.not_lt,Int.not_le,ge_iff_le,gt_iff_lt,Int.toNat_zero,Int.toNat_one,Int.toNat_natCast] at * <;>omega⟩⟩ Ac ⟨rfl,trivial⟩ trivial F3 Aa Dh Aa
 ·have e:k=l.length:=by omega
  exact Ao A0 rfl rfl ⟨congrArg vb (decide_eq_true (K5 (p:=fun r=>Ja r∧r.op<g.nodes.length) (e▸he))),trivial⟩
def B5v (l:List A5):Prop:=∀r∈l,Ja r
instance (l:List A5):Decidable (B5v l):=by unfold B5v;infer_instance
def Tl (l:C2):Prop:=(1≤l.cap∧l.cap≤4)∧(0≤l.credits∧l.credits≤l.cap)∧(0≤l.back∧l.back≤l.cap)∧l.credits+l.back+l.queue.length=l.cap∧(0≤l.sent∧l.sent≤1000000000)∧0≤l.got∧l.sent-l.got=l.queue.length
instance (l:C2):Decidable (Tl l):=by unfold Tl;infer_instance
def Gy (l:C2):Prop:=Tl l∧B5v l.queue
instance (l:C2):Decidable (Gy l):=by unfold Gy;infer_instance
def Nm (l:C2):Bool:=decide (Gy l)
theorem C00 (l:C2)(hl:l.w≤16777216):B0 Tryz.prog 99 [.agg l.c] [.one (vb (Nm l))]:=by
 have hq:l.queue.length≤16777216:=hl
 have hu:=Fe (fun i=>Ja (l.queue.getD i default))
 refine Ay A0 false Tryz.func99 rfl Bu fun W=>?_
 conv=>whnf
 refine Bw A0 false [] (fun k:Nat=>[(3,.c (vi k))]) (fun k=>[⟨0,[.c (vi l.cap),.c (Ax l.queue),.c (vi l.credits),.c (vi l.back),.c (vi l.sent),.c (vi l.got)]⟩]) (fun k=>[])
  (fun k=>k≤l.queue.length∧O8 (fun i=>Ja (l.queue.getD i default)) k) (fun k=>l.queue.length-k) 0 ⟨Nat.zero_le _,by first|rfl|assumption|simp⟩ ⟨by first|rfl|simp [Dl,ren2,ren1,ren0],trivial⟩ F3 trivial Dh Aa (fun k hk=>?_)
 obtain ⟨hk,he⟩:=hk
 conv=>whnf
 refine G5 (fun h'=>?_) fun h'=>?_<;>conv=>whnf
 ·have h':k<l.queue.length:=by omega
  (repeat refine Ar ?_)
  refine Aw (A19 (l.queue.getD k default)) rfl (Al ?_)
  refine ⟨fun h=>?_,fun h=>?_⟩<;>conv=>whnf
  ·exact Ao A0 rfl rfl ⟨congrArg vb (decide_eq_false fun p=>by rw [Nu.2 (p.2 _ (Aq (d:=default) h'))] at h;exact absurd h Bu),trivial⟩
  ·(repeat refine Ar ?_)
   refine B5 [] (k+1) ⟨by omega,Fc he (Nu.1 (by simpa using h))⟩ Ac ⟨rfl,trivial⟩ trivial F3 Aa Dh Aa
 ·have e:k=l.queue.length:=by omega
  have hA:B5v l.queue:=K5 (p:=Ja) (e▸he)
  clear he hu
  repeat' (first|(refine Ms ?_;conv=>whnf)|(refine Mt ?_;conv=>whnf)|(refine ⟨fun h=>?_,fun h=>?_⟩<;>conv=>whnf)|(refine Aw (Jo _ _ _) rfl (Al ?_))|(refine Gj ?_;conv=>whnf)|fail)
  all_goals first
   |(refine Ao A0 rfl rfl ⟨congrArg vb (decide_eq_false fun p=>?_),trivial⟩;obtain ⟨⟨p1,p2,p3,p4,p5,p6,p7⟩,_⟩:=p;clear hA;simp only [beq_iff_eq,beq_eq_false_iff_ne,bne_iff_ne,bne_eq_false_iff_eq,Bool.not_eq_true',Bool.not_eq_false',Go.Sx.Am,Go.Sx.Az,decide_eq_true_eq,decide_eq_false_iff_not,ne_eq,Int.not_lt,Int.not_le,ge_iff_le,gt_iff_lt,Int.toNat_zero,Int.toNat_one,Int.toNat_natCast] at * <;>omega)
   |(refine Ao A0 rfl rfl ⟨congrArg vb (decide_eq_decide.2 ⟨fun p=>p.1.2.2.2.2.2.1,fun p=>⟨?_,hA⟩⟩),trivial⟩;clear hA;refine ⟨?_,?_,?_,?_,?_,?_,?_⟩<;>(simp only [beq_iff_eq,beq_eq_false_iff_ne,bne_iff_ne,bne_eq_false_iff_eq,Bool.not_eq_true',Bool.not_eq_false',Go.Sx.Am,Go.Sx.Az,decide_eq_true_eq,decide_eq_false_iff_not,ne_eq,Int.not_lt,Int.not_le,ge_iff_le,gt_iff_lt,Int.toNat_zero,Int.toNat_one,Int.toNat_natCast] at * <;>omega))
end Go.Proofs.YtonodkjaoalfjaaGreat
