/- Part 7 of the proof that each of the laws FnSpread returns true for every input. No conditions. -/
import Derived.Test.YtdendlkeiaccpaaGreatQ6
import Derived.Test.YtdendlkeiaccpaaGreatQ4

set_option linter.unusedSimpArgs false
set_option linter.unusedVariables false
set_option maxRecDepth 100000
namespace Go.Proofs.YtdendlkeiaccpaaGreat
open Go.Sx
def P4 (l:List Ae):Prop:=∀i,i<l.length-1→Kh (l.getD i default) (l.getD (i+1) default)<0
instance (l:List Ae):Decidable (P4 l):=by unfold P4;infer_instance
def S6 (l:List Ae):Bool:=decide (P4 l)
theorem A8c (l:List Ae)(hl:l.length≤16777216):B3 Tryz.prog 253 [.one (Ak l)] [.one (vb (S6 l))]:=by
 refine Aw A0 false Tryz.func253 rfl B5 fun W=>?_;conv=>whnf
 refine Bk A0 false [] (fun j:Nat=>[(3,.c (vi ((j:Int)+1)))]) (fun j=>[]) (fun j=>[]) (fun j=>j≤l.length∧Kc (fun i=>Kh (l.getD i default) (l.getD (i+1) default)<0) j) (fun j=>l.length-j) (0) (⟨Nat.zero_le _,Dz _⟩) ⟨F0,trivial⟩ trivial trivial C1 A6 (fun j hj=>?_);conv=>whnf
 obtain ⟨hj,he⟩:=hj;refine Eo (fun h=>?_) fun h=>?_<;>conv=>whnf
 ·have h:j+1<l.length:=by omega
  have e1:((j:Int)+1-1).toNat=j:=by omega
  have e2:((j:Int)+1).toNat=j+1:=by omega
  (repeat refine Ap ?_)
  first|(refine Ax 4 rfl [0,1,2,3,4,5,6,7,8,9,10] A6 (A7 ?_))
  (repeat refine Ap ?_);refine As (Su (l.getD ((j:Int)+1-1).toNat default) (l.getD ((j:Int)+1).toNat default)) rfl (A7 ?_);refine Eo (fun h2=>?_) fun h2=>?_<;>conv=>whnf
  all_goals rw [e1,e2] at h2
  ·exact Am A0 rfl rfl ⟨congrArg vb (decide_eq_false fun p=>by have:=p j Ad;omega),trivial⟩
  (repeat refine Ap ?_);refine Az [] (j+1) (⟨by omega,Dy he Ad⟩) Ad ⟨rfl,trivial⟩ trivial trivial A6 C1 A6
 exact Am A0 rfl rfl ⟨congrArg vb (decide_eq_true fun i hi=>he i Ad),trivial⟩
theorem A9t (l:List Ae)(hl:l.length≤16777216):B3 Tryz.prog 104 [.one (Ak l)] [.one (vb (S6 l))]:=by
 refine Aw A0 false Tryz.func104 rfl B5 fun W=>?_;conv=>whnf
 refine Bk A0 false [] (fun j:Nat=>[(3,.c (vi ((j:Int)+1)))]) (fun j=>[]) (fun j=>[]) (fun j=>j≤l.length∧Kc (fun i=>Kh (l.getD i default) (l.getD (i+1) default)<0) j) (fun j=>l.length-j) (0) (⟨Nat.zero_le _,Dz _⟩) ⟨F0,trivial⟩ trivial trivial C1 A6 (fun j hj=>?_);conv=>whnf
 obtain ⟨hj,he⟩:=hj;refine Eo (fun h=>?_) fun h=>?_<;>conv=>whnf
 ·have h:j+1<l.length:=by omega
  have e1:((j:Int)+1-1).toNat=j:=by omega
  have e2:((j:Int)+1).toNat=j+1:=by omega
  (repeat refine Ap ?_)
  first|(refine Ax 4 rfl [0,1,2,3,4,5,6,7,8,9,10] A6 (A7 ?_))
  (repeat refine Ap ?_);refine As (Tb (l.getD ((j:Int)+1-1).toNat default) (l.getD ((j:Int)+1).toNat default)) rfl (A7 ?_);refine Eo (fun h2=>?_) fun h2=>?_<;>conv=>whnf
  all_goals rw [e1,e2] at h2
  ·exact Am A0 rfl rfl ⟨congrArg vb (decide_eq_false fun p=>by have:=p j Ad;omega),trivial⟩
  (repeat refine Ap ?_);refine Az [] (j+1) (⟨by omega,Dy he Ad⟩) Ad ⟨rfl,trivial⟩ trivial trivial A6 C1 A6
 exact Am A0 rfl rfl ⟨congrArg vb (decide_eq_true fun i hi=>he i Ad),trivial⟩
def We (n:Nat) (l:List Aa):Prop:=∀r∈l,H2 r∧r.op<n
instance (n:Nat) (l:List Aa):Decidable (We n l):=by unfold We;infer_instance
def Sy (n:Nat) (l:List Aa):Bool:=decide (We n l)
theorem Pu (g:Ah)(k:Int)(hg:g.w≤16777216):B3 Tryz.prog 146 [.agg g.c,.one (vi k)] [.one (vb (E6 k 0 (g.nodes.length-1)))]:=by
 have hn:=Ah.nodes_le hg;refine Aw A0 false Tryz.func146 rfl B5 fun W=>?_;conv=>whnf
 (repeat refine Ap ?_);refine As (Ik k 0 (g.nodes.length-1)) rfl (A7 ?_);exact Am A0 rfl rfl ⟨rfl,trivial⟩
theorem Iu {r:Aa}:Ev r=true↔H2 r:=decide_eq_true_iff
theorem S9 (g:Ah)(l:List Aa)(hg:g.w≤16777216)(hl:l.length≤16777216):B3 Tryz.prog 248 [.agg g.c,.one (Af l)] [.one (vb (Sy g.nodes.length l))]:=by
 have hu:=Dz (fun i=>H2 (l.getD i default)∧(l.getD i default).op<g.nodes.length);have hn:=Ah.nodes_le hg;refine Aw A0 false Tryz.func248 rfl B5 fun W=>?_;conv=>whnf
 refine Bk A0 false [] (fun k:Nat=>[(9,.c (vi k))]) (fun k=>[⟨0,[.c (Bg g.nodes),.c (vi g.workers),.c (vi g.cap)]⟩]) (fun k=>[])
  (fun k=>k≤l.length∧Kc (fun i=>H2 (l.getD i default)∧(l.getD i default).op<g.nodes.length) k) (fun k=>l.length-k) 0 ⟨Nat.zero_le _,by first|rfl|assumption|simp⟩ ⟨F0,trivial⟩ C2 trivial C1 A6 (fun k hk=>?_)
 obtain ⟨hk,he⟩:=hk;conv=>whnf
 refine Eo (fun h'=>?_) fun h'=>?_<;>conv=>whnf
 ·have h':k<l.length:=by omega
  repeat' (first|(refine L4 ?_;conv=>whnf)|(refine L5 ?_;conv=>whnf)|(refine ⟨fun h=>?_,fun h=>?_⟩<;>conv=>whnf)|(refine As (J0 (l.getD k default)) rfl (G3 ?_);conv=>whnf)|(refine As (Pu g _ hg) rfl (A7 ?_))|(refine Ft ?_;conv=>whnf)|fail)
  all_goals try (refine Am A0 rfl rfl ⟨congrArg vb (decide_eq_false fun p=>?_),trivial⟩;obtain ⟨p1,p2⟩:=p _ (At (d:=default) h');first|(rw [Iu.2 p1] at h;exact absurd h B5)|(have p3:=p1.1;clear he hu;simp only [beq_iff_eq,beq_eq_false_iff_ne,bne_iff_ne,bne_eq_false_iff_eq,Bool.not_eq_true',Bool.not_eq_false',Go.Sx.Al,Go.Sx.B4,decide_eq_true_eq,decide_eq_false_iff_not,ne_eq,Int.not_lt,Int.not_le,ge_iff_le,gt_iff_lt,Int.toNat_zero,Int.toNat_one,Int.toNat_natCast] at * <;>omega))
  all_goals
   have hp:H2 (l.getD k default):=Iu.1 (by first|(simpa using h)|(rename_i q _;simpa using q)|(rename_i q;simpa using q));refine Az [] (k+1) ⟨by omega,Dy he ⟨hp,by clear he hu hp;simp only [beq_iff_eq,beq_eq_false_iff_ne,bne_iff_ne,bne_eq_false_iff_eq,Bool.not_eq_true',Bool.not_eq_false',Go.Sx.Al,Go.Sx.B4,decide_eq_true_eq,decide_eq_false_iff_not,ne_eq,Int.not_lt,Int.not_le,ge_iff_le,gt_iff_lt,Int.toNat_zero,Int.toNat_one,Int.toNat_natCast] at * <;>omega⟩⟩ Ad ⟨rfl,trivial⟩ trivial C2 A6 C1 A6
 have e:k=l.length:=by omega
 exact Am A0 rfl rfl ⟨congrArg vb (decide_eq_true (Hc (p:=fun r=>H2 r∧r.op<g.nodes.length) (e▸he))),trivial⟩
theorem Sk (g:Ah)(l:List Aa)(hg:g.w≤16777216)(hl:l.length≤16777216):B3 Tryz.prog 76 [.agg g.c,.one (Af l)] [.one (vb (Sy g.nodes.length l))]:=by
 have hu:=Dz (fun i=>H2 (l.getD i default)∧(l.getD i default).op<g.nodes.length);have hn:=Ah.nodes_le hg;refine Aw A0 false Tryz.func76 rfl B5 fun W=>?_;conv=>whnf
 refine Bk A0 false [] (fun k:Nat=>[(5,.c (vi k))]) (fun k=>[⟨0,[.c (Bg g.nodes),.c (vi g.workers),.c (vi g.cap)]⟩]) (fun k=>[])
  (fun k=>k≤l.length∧Kc (fun i=>H2 (l.getD i default)∧(l.getD i default).op<g.nodes.length) k) (fun k=>l.length-k) 0 ⟨Nat.zero_le _,by first|rfl|assumption|simp⟩ ⟨F0,trivial⟩ C2 trivial C1 A6 (fun k hk=>?_)
 obtain ⟨hk,he⟩:=hk;conv=>whnf
 refine Eo (fun h'=>?_) fun h'=>?_<;>conv=>whnf
 ·have h':k<l.length:=by omega
  repeat' (first|(refine L4 ?_;conv=>whnf)|(refine L5 ?_;conv=>whnf)|(refine ⟨fun h=>?_,fun h=>?_⟩<;>conv=>whnf)|(refine As (I1 (l.getD k default)) rfl (G3 ?_);conv=>whnf)|(refine As (G9 _ _ _) rfl (A7 ?_))|(refine Ft ?_;conv=>whnf)|(refine Ax 4 rfl [0,1,2,3,4,5,6,7,8,9,10,11,12,13,14,15,16] A6 (A7 ?_))|fail)
  all_goals try (refine Am A0 rfl rfl ⟨congrArg vb (decide_eq_false fun p=>?_),trivial⟩;obtain ⟨p1,p2⟩:=p _ (At (d:=default) h');first|(rw [Iu.2 p1] at h;exact absurd h B5)|(have p3:=p1.1;clear he hu;simp only [beq_iff_eq,beq_eq_false_iff_ne,bne_iff_ne,bne_eq_false_iff_eq,Bool.not_eq_true',Bool.not_eq_false',Go.Sx.Al,Go.Sx.B4,decide_eq_true_eq,decide_eq_false_iff_not,ne_eq,Int.not_lt,Int.not_le,ge_iff_le,gt_iff_lt,Int.toNat_zero,Int.toNat_one,Int.toNat_natCast] at * <;>omega))
  all_goals
   have hp:H2 (l.getD k default):=Iu.1 (by first|(simpa using h)|(rename_i q _;simpa using q)|(rename_i q;simpa using q));refine Az [] (k+1) ⟨by omega,Dy he ⟨hp,by clear he hu hp;simp only [beq_iff_eq,beq_eq_false_iff_ne,bne_iff_ne,bne_eq_false_iff_eq,Bool.not_eq_true',Bool.not_eq_false',Go.Sx.Al,Go.Sx.B4,decide_eq_true_eq,decide_eq_false_iff_not,ne_eq,Int.not_lt,Int.not_le,ge_iff_le,gt_iff_lt,Int.toNat_zero,Int.toNat_one,Int.toNat_natCast] at * <;>omega⟩⟩ Ad ⟨rfl,trivial⟩ trivial C2 A6 C1 A6
 have e:k=l.length:=by omega
 exact Am A0 rfl rfl ⟨congrArg vb (decide_eq_true (Hc (p:=fun r=>H2 r∧r.op<g.nodes.length) (e▸he))),trivial⟩
def B6p (l:List Aa):Prop:=∀r∈l,H2 r
instance (l:List Aa):Decidable (B6p l):=by unfold B6p;infer_instance
theorem B5b (l:List Aa)(hl:l.length≤16777216):B3 Tryz.prog 257 [.one (Af l)] [.one (vb (decide (B6p l)))]:=by
 have hu:=Dz (fun i=>H2 (l.getD i default));refine Aw A0 false Tryz.func257 rfl B5 fun W=>?_;conv=>whnf
 refine Bk A0 false [] (fun k:Nat=>[(7,.c (vi k))]) (fun k=>[]) (fun k=>[])
  (fun k=>k≤l.length∧Kc (fun i=>H2 (l.getD i default)) k) (fun k=>l.length-k) 0 ⟨Nat.zero_le _,by first|rfl|assumption|simp⟩ ⟨F0,trivial⟩ trivial trivial C1 A6 (fun k hk=>?_)
 obtain ⟨hk,he⟩:=hk;conv=>whnf
 refine Eo (fun h'=>?_) fun h'=>?_<;>conv=>whnf
 ·have h':k<l.length:=by omega
  (repeat refine Ap ?_);refine As (J0 (l.getD k default)) rfl (A7 ?_);refine ⟨fun h=>?_,fun h=>?_⟩<;>conv=>whnf
  ·exact Am A0 rfl rfl ⟨congrArg vb (decide_eq_false fun p=>by rw [Iu.2 (p _ (At (d:=default) h'))] at h;exact absurd h B5),trivial⟩
  (repeat refine Ap ?_);refine Az [] (k+1) ⟨by omega,Dy he (Iu.1 (by simpa using h))⟩ Ad ⟨rfl,trivial⟩ trivial trivial A6 C1 A6
 have e:k=l.length:=by omega
 exact Am A0 rfl rfl ⟨congrArg vb (decide_eq_true (Hc (p:=H2) (e▸he))),trivial⟩
def Xl (l:Ca):Prop:=(1≤l.cap∧l.cap≤4)∧(0≤l.credits∧l.credits≤l.cap)∧(0≤l.back∧l.back≤l.cap)∧l.credits+l.back+l.queue.length=l.cap∧(0≤l.sent∧l.sent≤1000000000)∧0≤l.got∧l.sent-l.got=l.queue.length
instance (l:Ca):Decidable (Xl l):=by unfold Xl;infer_instance
def Gn (l:Ca):Prop:=Xl l∧B6p l.queue
instance (l:Ca):Decidable (Gn l):=by unfold Gn;infer_instance
def Il (l:Ca):Bool:=decide (Gn l)
theorem Pv (l:Ca)(hl:l.w≤16777216)(og2:l.got≤9223372036854775807):B3 Tryz.prog 247 [.agg l.c] [.one (vb (Il l))]:=by
 have hq:l.queue.length≤16777216:=hl;refine Aw A0 false Tryz.func247 rfl B5 fun W=>?_;conv=>whnf
 repeat' (first|(refine L4 ?_;conv=>whnf)|(refine L5 ?_;conv=>whnf)|(refine ⟨fun h=>?_,fun h=>?_⟩<;>conv=>whnf)|(refine As (Ik _ _ _) rfl (A7 ?_))|(refine As (B5b l.queue hq) rfl (A7 ?_))|(refine Ft ?_;conv=>whnf)|fail)
 all_goals first
  |(refine Am A0 rfl rfl ⟨congrArg vb (decide_eq_false fun p=>?_),trivial⟩;obtain ⟨⟨p1,p2,p3,p4,p5,p6,p7⟩,_⟩:=p;simp only [beq_iff_eq,beq_eq_false_iff_ne,bne_iff_ne,bne_eq_false_iff_eq,Bool.not_eq_true',Bool.not_eq_false',Go.Sx.Al,Go.Sx.B4,decide_eq_true_eq,decide_eq_false_iff_not,ne_eq,Int.not_lt,Int.not_le,ge_iff_le,gt_iff_lt,Int.toNat_zero,Int.toNat_one,Int.toNat_natCast] at * <;>omega)
  |(refine Am A0 rfl rfl ⟨congrArg vb (decide_eq_decide.2 ⟨fun p=>p.2,fun p=>⟨?_,p⟩⟩),trivial⟩;refine ⟨?_,?_,?_,?_,?_,?_,?_⟩<;>(simp only [beq_iff_eq,beq_eq_false_iff_ne,bne_iff_ne,bne_eq_false_iff_eq,Bool.not_eq_true',Bool.not_eq_false',Go.Sx.Al,Go.Sx.B4,decide_eq_true_eq,decide_eq_false_iff_not,ne_eq,Int.not_lt,Int.not_le,ge_iff_le,gt_iff_lt,Int.toNat_zero,Int.toNat_one,Int.toNat_natCast] at * <;>omega))
theorem Qc (l:Ca)(hl:l.w≤16777216):B3 Tryz.prog 75 [.agg l.c] [.one (vb (Il l))]:=by
 have hq:l.queue.length≤16777216:=hl;have hu:=Dz (fun i=>H2 (l.queue.getD i default));refine Aw A0 false Tryz.func75 rfl B5 fun W=>?_;conv=>whnf
 refine Bk A0 false [] (fun k:Nat=>[(3,.c (vi k))]) (fun k=>[⟨0,[.c (vi l.cap),.c (Af l.queue),.c (vi l.credits),.c (vi l.back),.c (vi l.sent),.c (vi l.got)]⟩]) (fun k=>[])
  (fun k=>k≤l.queue.length∧Kc (fun i=>H2 (l.queue.getD i default)) k) (fun k=>l.queue.length-k) 0 ⟨Nat.zero_le _,by first|rfl|assumption|simp⟩ ⟨F0,trivial⟩ C2 trivial C1 A6 (fun k hk=>?_)
 obtain ⟨hk,he⟩:=hk;conv=>whnf
 refine Eo (fun h'=>?_) fun h'=>?_<;>conv=>whnf
 ·have h':k<l.queue.length:=by omega
  (repeat refine Ap ?_);refine As (I1 (l.queue.getD k default)) rfl (A7 ?_);refine ⟨fun h=>?_,fun h=>?_⟩<;>conv=>whnf
  ·exact Am A0 rfl rfl ⟨congrArg vb (decide_eq_false fun p=>by rw [Iu.2 (p.2 _ (At (d:=default) h'))] at h;exact absurd h B5),trivial⟩
  (repeat refine Ap ?_);refine Az [] (k+1) ⟨by omega,Dy he (Iu.1 (by simpa using h))⟩ Ad ⟨rfl,trivial⟩ trivial C2 A6 C1 A6
 have e:k=l.queue.length:=by omega
 have hA:B6p l.queue:=Hc (p:=H2) (e▸he)
 clear he hu
 repeat' (first|(refine L4 ?_;conv=>whnf)|(refine L5 ?_;conv=>whnf)|(refine ⟨fun h=>?_,fun h=>?_⟩<;>conv=>whnf)|(refine As (G9 _ _ _) rfl (A7 ?_))|(refine Ft ?_;conv=>whnf)|fail)
 all_goals first
  |(refine Am A0 rfl rfl ⟨congrArg vb (decide_eq_false fun p=>?_),trivial⟩;obtain ⟨⟨p1,p2,p3,p4,p5,p6,p7⟩,_⟩:=p;clear hA;simp only [beq_iff_eq,beq_eq_false_iff_ne,bne_iff_ne,bne_eq_false_iff_eq,Bool.not_eq_true',Bool.not_eq_false',Go.Sx.Al,Go.Sx.B4,decide_eq_true_eq,decide_eq_false_iff_not,ne_eq,Int.not_lt,Int.not_le,ge_iff_le,gt_iff_lt,Int.toNat_zero,Int.toNat_one,Int.toNat_natCast] at * <;>omega)
  |(refine Am A0 rfl rfl ⟨congrArg vb (decide_eq_decide.2 ⟨fun p=>p.1.2.2.2.2.2.1,fun p=>⟨?_,hA⟩⟩),trivial⟩;clear hA;refine ⟨?_,?_,?_,?_,?_,?_,?_⟩<;>(simp only [beq_iff_eq,beq_eq_false_iff_ne,bne_iff_ne,bne_eq_false_iff_eq,Bool.not_eq_true',Bool.not_eq_false',Go.Sx.Al,Go.Sx.B4,decide_eq_true_eq,decide_eq_false_iff_not,ne_eq,Int.not_lt,Int.not_le,ge_iff_le,gt_iff_lt,Int.toNat_zero,Int.toNat_one,Int.toNat_natCast] at * <;>omega))
theorem Yd (xs:List Aa)(e:Int)(hx:xs.length≤16777216):B3 Tryz.prog 241 [.one (Af xs),.one (vi e)] [.one (Af (Cz xs e))]:=by
 refine Aw A0 false Tryz.func241 rfl B5 fun W=>?_;conv=>whnf
 refine Es 0 (Af []) rfl Cq ?_
 refine Bk A0 false [7] (fun k:Nat=>[(6,.c (vi k))]) (fun k=>[]) (fun k=>[⟨0,Af (Cz (xs.take k) e)⟩])
  (fun k=>k≤xs.length) (fun k=>xs.length-k) 0 (Nat.zero_le _) ⟨F0,trivial⟩ trivial ⟨Dm,trivial⟩ C1 A6 (fun k hk=>?_)
 conv=>whnf
 refine Eo (fun h=>?_) fun h=>?_<;>conv=>whnf
 ·have h:k<xs.length:=by omega
  have hs:=E4 (fun r=>r.stamp.epoch==e) xs k h;have hb:=Dd (fun r=>r.stamp.epoch==e) xs k;(repeat refine Ap ?_);refine ⟨fun hc=>?_,fun hc=>?_⟩<;>conv=>whnf
  ·(repeat refine Ap ?_)
   refine Bj A0 rfl rfl rfl rfl rfl rfl rfl rfl rfl rfl rfl (Af (Cz (xs.take k) e++[xs.getD k default])) (An rfl) C6 (by show (List.filter _ _).length+1≤_;omega) (A7 ?_)
   (repeat refine Ap ?_);refine Az [(0,2)] (k+1) Ad Ad ⟨rfl,trivial⟩ ⟨congrArg Af (by show _=List.filter _ _;rw [hs];exact congrArg (fun l=>List.filter _ (xs.take k)++l) (if_pos hc).symm),trivial⟩ trivial A6 C1 A6
  (repeat refine Ap ?_);refine Az [] (k+1) Ad Ad ⟨rfl,trivial⟩ ⟨congrArg Af (by show _=List.filter _ _;rw [hs];exact (List.append_nil _).symm.trans (congrArg (fun l=>List.filter _ (xs.take k)++l) (if_neg (Bool.eq_false_iff.1 hc)).symm)),trivial⟩ trivial A6 C1 A6
 refine Am A0 rfl rfl ⟨?_,trivial⟩;exact congrArg (fun l=>Af (Cz l e)) (Da xs k Ad)
theorem R7 (xs:List Aa)(e:Int)(hx:xs.length≤16777216):B3 Tryz.prog 107 [.one (Af xs),.one (vi e)] [.one (Af (Cz xs e))]:=by
 refine Aw A0 false Tryz.func107 rfl B5 fun W=>?_;conv=>whnf
 refine Yl 5 5 (fun i=>Aa.c (([]:List Aa).getD i default)) rfl ?_
 refine Bk A0 false [] (fun k:Nat=>[(10,.c (vi k))]) (fun k=>[]) (fun k=>[⟨0,Af (Cz (xs.take k) e)⟩])
  (fun k=>k≤xs.length) (fun k=>xs.length-k) 0 (Nat.zero_le _) ⟨F0,trivial⟩ trivial ⟨Dm,trivial⟩ C1 A6 (fun k hk=>?_)
 conv=>whnf
 refine Eo (fun h=>?_) fun h=>?_<;>conv=>whnf
 ·have h:k<xs.length:=by omega
  have hs:=E4 (fun r=>r.stamp.epoch==e) xs k h;have hb:=Dd (fun r=>r.stamp.epoch==e) xs k;(repeat refine Ap ?_);refine ⟨fun hc=>?_,fun hc=>?_⟩<;>conv=>whnf
  ·(repeat refine Ap ?_)
   refine Bj A0 rfl rfl rfl rfl rfl rfl rfl rfl rfl rfl rfl (Af (Cz (xs.take k) e++[xs.getD k default])) (An rfl) C6 (by show (List.filter _ _).length+1≤_;omega) (A7 ?_)
   (repeat refine Ap ?_);refine Az [(0,3)] (k+1) Ad Ad ⟨rfl,trivial⟩ ⟨congrArg Af (by show _=List.filter _ _;rw [hs];exact congrArg (fun l=>List.filter _ (xs.take k)++l) (if_pos hc).symm),trivial⟩ trivial A6 C1 A6
  (repeat refine Ap ?_);refine Az [] (k+1) Ad Ad ⟨rfl,trivial⟩ ⟨congrArg Af (by show _=List.filter _ _;rw [hs];exact (List.append_nil _).symm.trans (congrArg (fun l=>List.filter _ (xs.take k)++l) (if_neg (Bool.eq_false_iff.1 hc)).symm)),trivial⟩ trivial A6 C1 A6
 refine Am A0 rfl rfl ⟨?_,trivial⟩;exact congrArg (fun l=>Af (Cz l e)) (Da xs k Ad)
theorem B02 (xs:List Aa)(hx:xs.length≤16777216)(f:Nat)(cs:List Ai)(p:Aa→Bool)(hf:∀x∈xs,B3 Tryz.prog f [.agg x.c,.ptr cs] [.one (vb (p x))]):
  B3 Tryz.prog 264 [.one (Af xs),.fn f [.ptr cs]] [.one (vi (Me p xs))]:=by
 refine Aw A0 false Tryz.func264 rfl B5 fun W=>?_;conv=>whnf
 refine Bk A0 false [] (fun k:Nat=>[(8,.c (vi k))]) (fun k=>[]) (fun k=>[])
  (fun k=>k≤xs.length∧(xs.take k).any p=false) (fun k=>xs.length-k) 0 ⟨Nat.zero_le _,by first|rfl|assumption|simp⟩ ⟨F0,trivial⟩ trivial trivial C1 A6 (fun k hk=>?_)
 obtain ⟨hk,he⟩:=hk;conv=>whnf
 refine Eo (fun h=>?_) fun h=>?_<;>conv=>whnf
 ·have h:k<xs.length:=by omega
  (repeat refine Ap ?_);refine As (hf (xs.getD k default) (At h)) rfl (A7 ?_);refine ⟨fun hc=>?_,fun hc=>?_⟩<;>conv=>whnf
  ·exact Am A0 rfl rfl ⟨congrArg vi (On p xs k he h hc),trivial⟩
  (repeat refine Ap ?_);refine Az [] (k+1) ⟨by omega,Fw he h hc⟩ Ad ⟨rfl,trivial⟩ trivial trivial A6 C1 A6
 exact Am A0 rfl rfl ⟨congrArg vi (Jp p xs (by rw [Da xs k Ad] at he;exact he)),trivial⟩
theorem A7s (xs:List Aa)(hx:xs.length≤16777216)(f:Nat)(cs:List Ai)(p:Aa→Bool)(hf:∀x∈xs,B3 Tryz.prog f [.agg x.c,.ptr cs] [.one (vb (p x))]):
  B3 Tryz.prog 260 [.one (Af xs),.fn f [.ptr cs]] [.one (vb (xs.any p))]:=by
 refine Aw A0 false Tryz.func260 rfl B5 fun W=>?_;conv=>whnf
 refine As (B02 xs hx f cs p hf) rfl (A7 ?_);exact Am A0 rfl rfl ⟨congrArg vb (Ws p xs).symm,trivial⟩
theorem B8i (xs:List F6)(hx:xs.length≤16777216)(f:Nat)(cs:List Ai)(p:F6→Bool)(hf:∀x∈xs,B3 Tryz.prog f [.agg x.c,.ptr cs] [.one (vb (p x))]):
  B3 Tryz.prog 263 [.one (G1 xs),.fn f [.ptr cs]] [.one (vi (Me p xs))]:=by
 refine Aw A0 false Tryz.func263 rfl B5 fun W=>?_;conv=>whnf
 refine Bk A0 false [] (fun k:Nat=>[(8,.c (vi k))]) (fun k=>[]) (fun k=>[])
  (fun k=>k≤xs.length∧(xs.take k).any p=false) (fun k=>xs.length-k) 0 ⟨Nat.zero_le _,by first|rfl|assumption|simp⟩ ⟨F0,trivial⟩ trivial trivial C1 A6 (fun k hk=>?_)
 obtain ⟨hk,he⟩:=hk;conv=>whnf
 refine Eo (fun h=>?_) fun h=>?_<;>conv=>whnf
 ·have h:k<xs.length:=by omega
  (repeat refine Ap ?_);refine As (hf (xs.getD k default) (At h)) rfl (A7 ?_);refine ⟨fun hc=>?_,fun hc=>?_⟩<;>conv=>whnf
  ·exact Am A0 rfl rfl ⟨congrArg vi (On p xs k he h hc),trivial⟩
  (repeat refine Ap ?_);refine Az [] (k+1) ⟨by omega,Fw he h hc⟩ Ad ⟨rfl,trivial⟩ trivial trivial A6 C1 A6
 exact Am A0 rfl rfl ⟨congrArg vi (Jp p xs (by rw [Da xs k Ad] at he;exact he)),trivial⟩
theorem B4u (xs:List F6)(hx:xs.length≤16777216)(f:Nat)(cs:List Ai)(p:F6→Bool)(hf:∀x∈xs,B3 Tryz.prog f [.agg x.c,.ptr cs] [.one (vb (p x))]):
  B3 Tryz.prog 258 [.one (G1 xs),.fn f [.ptr cs]] [.one (vb (xs.any p))]:=by
 refine Aw A0 false Tryz.func258 rfl B5 fun W=>?_;conv=>whnf
 refine As (B8i xs hx f cs p hf) rfl (A7 ?_);exact Am A0 rfl rfl ⟨congrArg vb (Ws p xs).symm,trivial⟩
theorem C5f (x:Aa)(e:Int):B3 Tryz.prog 261 [.agg x.c,.ptr [vi e]] [.one (vb (decide (x.stamp.epoch≤e)))]:=by
 refine Aw A0 false Tryz.func261 rfl B5 fun W=>?_;conv=>whnf
 exact Am A0 rfl rfl ⟨rfl,trivial⟩
theorem C40 (x:F6)(e:Int):B3 Tryz.prog 259 [.agg x.c,.ptr [vi e]] [.one (vb (x.epoch==e))]:=by
 refine Aw A0 false Tryz.func259 rfl B5 fun W=>?_;conv=>whnf
 exact Am A0 rfl rfl ⟨rfl,trivial⟩
theorem B07 (x:Ab)(e:Int)(h:x.w≤16777216):B3 Tryz.prog 250 [.agg x.c,.one (vi e)] [.one (vb (U2 x e))]:=by
 refine Aw A0 false Tryz.func250 rfl B5 fun W=>?_;conv=>whnf
 refine As (A7s x.inputs (by simp only [Ab.w] at h;omega) _ [vi e] (fun r=>decide (r.stamp.epoch≤e)) (fun r _=>C5f r e)) rfl (A7 ?_);exact Am A0 rfl rfl ⟨rfl,trivial⟩
theorem B14 (x:Ab)(e:Int)(h:x.w≤16777216):B3 Tryz.prog 213 [.agg x.c,.one (vi e)] [.one (vb (U2 x e))]:=by
 have hl:x.inputs.length≤16777216:=by simp only [Ab.w] at h;omega
 refine Aw A0 false Tryz.func213 rfl B5 fun W=>?_;conv=>whnf
 refine Bk A0 false [] (fun k:Nat=>[(5,.c (vi k))]) (fun k=>[⟨0,[.c (Af x.queue),.c (Af x.staged),.c (Af x.inputs),.c (Ak x.cells),.c (Bh x.sums),.c (Dw x.black),.c (Dw x.caps),.c (G1 x.dones)]⟩]) (fun k=>[])
  (fun k=>k≤x.inputs.length∧(x.inputs.take k).any (fun r=>decide (r.stamp.epoch≤e))=false) (fun k=>x.inputs.length-k) 0 ⟨Nat.zero_le _,by first|rfl|assumption|simp⟩ ⟨F0,trivial⟩ C2 trivial C1 A6 (fun k hk=>?_)
 obtain ⟨hk,he⟩:=hk;conv=>whnf
 refine Eo (fun h=>?_) fun h=>?_<;>conv=>whnf
 ·have h:k<x.inputs.length:=by omega
  (repeat refine Ap ?_);refine ⟨fun hc=>?_,fun hc=>?_⟩<;>conv=>whnf
  ·exact Am A0 rfl rfl ⟨congrArg vb (Lu h hc),trivial⟩
  (repeat refine Ap ?_);refine Az [] (k+1) ⟨by omega,Fw he h hc⟩ Ad ⟨rfl,trivial⟩ trivial C2 A6 C1 A6
 exact Am A0 rfl rfl ⟨congrArg vb (by rw [Da x.inputs k Ad] at he;exact he),trivial⟩
theorem A00 (xs:List F6)(e:Int)(h:xs.length≤16777216):B3 Tryz.prog 249 [.one (G1 xs),.one (vi e)] [.one (vb (xs.any fun d=>d.epoch==e))]:=by
 refine Aw A0 false Tryz.func249 rfl B5 fun W=>?_;conv=>whnf
 refine As (B4u xs h _ [vi e] (fun d=>d.epoch==e) (fun d _=>C40 d e)) rfl (A7 ?_);exact Am A0 rfl rfl ⟨rfl,trivial⟩
theorem A03 (x:Ab)(e:Int)(h:x.w≤16777216):B3 Tryz.prog 234 [.agg x.c,.one (vi e)] [.one (vb (Cv x e))]:=by
 refine Aw A0 false Tryz.func234 rfl B5 fun W=>?_;conv=>whnf
 refine As (A00 x.dones e (by simp only [Ab.w] at h;omega)) rfl (A7 ?_);exact Am A0 rfl rfl ⟨rfl,trivial⟩
theorem A2h (x:Ab)(e:Int)(h:x.w≤16777216):B3 Tryz.prog 189 [.agg x.c,.one (vi e)] [.one (vb (Cv x e))]:=by
 have hl:x.dones.length≤16777216:=by simp only [Ab.w] at h;omega
 refine Aw A0 false Tryz.func189 rfl B5 fun W=>?_;conv=>whnf
 refine Bk A0 false [] (fun k:Nat=>[(5,.c (vi k))]) (fun k=>[⟨0,[.c (Af x.queue),.c (Af x.staged),.c (Af x.inputs),.c (Ak x.cells),.c (Bh x.sums),.c (Dw x.black),.c (Dw x.caps),.c (G1 x.dones)]⟩]) (fun k=>[])
  (fun k=>k≤x.dones.length∧(x.dones.take k).any (fun d=>d.epoch==e)=false) (fun k=>x.dones.length-k) 0 ⟨Nat.zero_le _,by first|rfl|assumption|simp⟩ ⟨F0,trivial⟩ C2 trivial C1 A6 (fun k hk=>?_)
 obtain ⟨hk,he⟩:=hk;conv=>whnf
 refine Eo (fun h=>?_) fun h=>?_<;>conv=>whnf
 ·have h:k<x.dones.length:=by omega
  (repeat refine Ap ?_);refine ⟨fun hc=>?_,fun hc=>?_⟩<;>conv=>whnf
  ·exact Am A0 rfl rfl ⟨congrArg vb (Lu h hc),trivial⟩
  (repeat refine Ap ?_);refine Az [] (k+1) ⟨by omega,Fw he h hc⟩ Ad ⟨rfl,trivial⟩ trivial C2 A6 C1 A6
 exact Am A0 rfl rfl ⟨congrArg vb (by rw [Da x.dones k Ad] at he;exact he),trivial⟩
theorem B15 (x:Ab)(e:Int)(h:x.w≤16777216):B3 Tryz.prog 214 [.agg x.c,.one (vi e)] [.one (vi (Ue x e))]:=by
 simp only [Ab.w] at h;have h1:=Ld x.queue e;have h2:=Ld x.staged e;refine Aw A0 false Tryz.func214 rfl B5 fun W=>?_;conv=>whnf
 first|(refine Ax 1 rfl [0,1,2,5,6,7,3,4,8,9,10,11] A6 (A7 ?_))
 refine As (Yd x.queue e Ad) rfl (A7 ?_);refine As (Yd x.staged e Ad) rfl (A7 ?_);(repeat refine Ap ?_);exact Am A0 rfl rfl ⟨congrArg vi (by simp only [Ue];omega),trivial⟩
theorem A3a (x:Ab)(e:Int)(hx:x.w≤16777216):B3 Tryz.prog 187 [.agg x.c,.one (vi e)] [.one (vb (Dx x e))]:=by
 refine Aw A0 false Tryz.func187 rfl B5 fun W=>?_;conv=>whnf
 refine As (B14 x e hx) rfl (A7 ?_)
 repeat' (first|(refine L4 ?_;conv=>whnf)|(refine L5 ?_;conv=>whnf)|(refine ⟨fun h=>?_,fun h=>?_⟩<;>conv=>whnf)|(refine Gi ?_;conv=>whnf)|fail)
 all_goals first
  |(refine As (B15 x e hx) rfl (A7 ?_))
  |(refine Am A0 rfl rfl ⟨?_,trivial⟩;(conv=>whnf);refine congrArg vb ?_;simp_all [Dx];done)
 repeat' (first|(refine L4 ?_;conv=>whnf)|(refine L5 ?_;conv=>whnf)|(refine ⟨fun h=>?_,fun h=>?_⟩<;>conv=>whnf)|(refine Gi ?_;conv=>whnf)|fail)
 all_goals (refine Am A0 rfl rfl ⟨?_,trivial⟩;(conv=>whnf);refine congrArg vb ?_;simp_all [Dx])
theorem B09 (x:Ab)(e:Int)(h:x.w≤16777216):B3 Tryz.prog 251 [.agg x.c,.one (vi e)] [.one (vi (Ue x e))]:=by
 simp only [Ab.w] at h;have h1:=Ld x.queue e;have h2:=Ld x.staged e;refine Aw A0 false Tryz.func251 rfl B5 fun W=>?_;conv=>whnf
 first|(refine Ax 1 rfl [0,1,2,5,6,7,3,4,8,9,10,11] A6 (A7 ?_))
 refine As (R7 x.queue e Ad) rfl (A7 ?_);refine As (R7 x.staged e Ad) rfl (A7 ?_);(repeat refine Ap ?_);exact Am A0 rfl rfl ⟨congrArg vi (by simp only [Ue];omega),trivial⟩
theorem A22 (x:Ab)(e:Int)(hx:x.w≤16777216):B3 Tryz.prog 235 [.agg x.c,.one (vi e)] [.one (vb (Dx x e))]:=by
 refine Aw A0 false Tryz.func235 rfl B5 fun W=>?_;conv=>whnf
 refine As (B07 x e hx) rfl (A7 ?_)
 repeat' (first|(refine L4 ?_;conv=>whnf)|(refine L5 ?_;conv=>whnf)|(refine ⟨fun h=>?_,fun h=>?_⟩<;>conv=>whnf)|(refine Gi ?_;conv=>whnf)|fail)
 all_goals first
  |(refine As (B09 x e hx) rfl (A7 ?_))
  |(refine Am A0 rfl rfl ⟨?_,trivial⟩;(conv=>whnf);refine congrArg vb ?_;simp_all [Dx];done)
 repeat' (first|(refine L4 ?_;conv=>whnf)|(refine L5 ?_;conv=>whnf)|(refine ⟨fun h=>?_,fun h=>?_⟩<;>conv=>whnf)|(refine Gi ?_;conv=>whnf)|fail)
 all_goals (refine Am A0 rfl rfl ⟨?_,trivial⟩;(conv=>whnf);refine congrArg vb ?_;simp_all [Dx])
def Wd (l:List Aa) (i:Nat):Prop:=(l.getD i default).op=0∧(l.getD i default).stamp.turn=0∧(0<i→(l.getD (i-1) default).stamp.epoch≤(l.getD i default).stamp.epoch)
instance (l:List Aa) (i:Nat):Decidable (Wd l i):=by unfold Wd;infer_instance
def A7e (l:List Aa):Prop:=∀i,i<l.length→Wd l i
instance (l:List Aa):Decidable (A7e l):=by unfold A7e;infer_instance
def Hf (n:Int):Prop:= -1000000≤n∧n≤1000000
instance (n:Int):Decidable (Hf n):=by unfold Hf;infer_instance
def Zf (l:List Int):Prop:=∀n∈l,Hf n
instance (l:List Int):Decidable (Zf l):=by unfold Zf;infer_instance
def B2m (l:List F6) (i:Nat):Prop:=∀k,k<i→(l.getD k default).epoch≠(l.getD i default).epoch
instance (l:List F6) (i:Nat):Decidable (B2m l i):=by unfold B2m;infer_instance
def Th (l:List F6) (i:Nat):Prop:=(0≤(l.getD i default).epoch∧(l.getD i default).epoch≤3)∧B2m l i
instance (l:List F6) (i:Nat):Decidable (Th l i):=by unfold Th;infer_instance
def A4z (l:List F6):Prop:=∀i,i<l.length→Th l i
instance (l:List F6):Decidable (A4z l):=by unfold A4z;infer_instance
def Nl (n:Nat) (x:Ab):Prop:=(We n x.queue∧We n x.staged∧We n x.inputs∧P4 x.cells)
instance (n:Nat) (x:Ab):Decidable (Nl n x):=by unfold Nl;infer_instance
def P5 (x:Ab):Prop:=(x.sums.length=4∧x.black.length=4∧x.caps.length=4)
instance (x:Ab):Decidable (P5 x):=by unfold P5;infer_instance
def Db (n:Nat) (x:Ab):Prop:=Nl n x∧P5 x∧A7e x.inputs∧Zf x.sums∧A4z x.dones
instance (n:Nat) (x:Ab):Decidable (Db n x):=by unfold Db;infer_instance
def Hd (n:Nat) (x:Ab):Bool:=decide (Db n x)
theorem Zm {l:List F6}{i:Nat}(h:i≤l.length):(l.take i).any (fun d=>d.epoch==(l.getD i default).epoch)=false↔B2m l i:=by
 rw [List.any_eq_false]
 constructor
 ·intro h1 k hk e
  have hm:l.getD k default∈l.take i:=by
   have hk2:k<(l.take i).length:=by simp;omega
   have:(l.take i).getD k default=l.getD k default:=by simp [List.getD,hk]
   rw [←this];exact At hk2
  exact h1 _ hm (by simpa using e)
 intro h1 d hd c;obtain ⟨k,hk,e⟩:=List.getElem_of_mem hd;have hk2:k<i:=by simp at hk;omega
 have hk3:k<l.length:=by omega
 refine h1 k hk2 ?_;rw [List.getD,List.getElem?_eq_getElem hk3];simp only [List.getElem_take] at e
 simpa [e] using c
theorem C0g {α:Type} [Inhabited α] {es:Nat}{e:α→List Ai}{xs:List α}{k:Nat}(h:k≤xs.length):Ze xs.length es (fun i=>e (xs.getD i default)) 0 (k:Int) (Kv es e (xs.take k)):=by
 have:=A6r (es:=es) (e:=e) (xs:=xs) (l:=0) (h:=(k:Int)) Ad Ad Ad
 simpa using this
theorem Py (g:Ah)(x:Ab)(hg:g.w≤16777216)(hx:x.w≤16777216):B3 Tryz.prog 244 [.agg g.c,.agg x.c] [.one (vb (Hd g.nodes.length x))]:=by
 have hx2:=hx;simp only [Ab.w] at hx2;refine Aw A0 false Tryz.func244 rfl B5 fun W=>?_;conv=>whnf
 repeat' (first|(refine L4 ?_;conv=>whnf)|(refine L5 ?_;conv=>whnf)|(refine ⟨fun h=>?_,fun h=>?_⟩<;>conv=>whnf)|(refine As (S9 g x.queue hg Ad) rfl (G3 ?_);conv=>whnf)|(refine As (S9 g x.staged hg Ad) rfl (G3 ?_);conv=>whnf)|(refine As (S9 g x.inputs hg Ad) rfl (G3 ?_);conv=>whnf)|(refine As (A8c x.cells Ad) rfl (G3 ?_);conv=>whnf)|(refine Ft ?_;conv=>whnf)|(refine Ax 6 rfl [0,1,2,3,4,5,6,7,8,9,10,11,12,13,14,15,16,17,18,19,20,21,22,23,24,25,26] A6 (A7 ?_))|(refine Ax 20 rfl [0,1,2,3,4,5,6,7,8,9,10,11,12] A6 (A7 ?_))|fail)
 all_goals try (refine Am A0 rfl rfl ⟨congrArg vb (decide_eq_false fun p=>?_),trivial⟩;obtain ⟨⟨p1,p2,p3,p4⟩,_⟩:=p;simp_all [Sy,S6];done)
 have hA:Nl g.nodes.length x:=by unfold Nl;refine ⟨?_,?_,?_,?_⟩<;>simp_all [Sy,S6]
 rename_i a1 a2 a3
 clear h a1 a2 a3
 have hu:=Dz (Wd x.inputs)
 refine Bk A0 false [] (fun k:Nat=>[(39,.c (vi k))]) (fun k=>[⟨0,[.c (Bg g.nodes),.c (vi g.workers),.c (vi g.cap)]⟩,⟨1,[.c (Af x.queue),.c (Af x.staged),.c (Af x.inputs),.c (Ak x.cells),.c (Bh x.sums),.c (Dw x.black),.c (Dw x.caps),.c (G1 x.dones)]⟩]) (fun k=>[])
  (fun k=>k≤x.inputs.length∧Kc (Wd x.inputs) k) (fun k=>x.inputs.length-k) 0 ⟨Nat.zero_le _,by first|rfl|assumption|simp⟩ ⟨F0,trivial⟩ C2 trivial C1 A6 (fun k hk=>?_)
 obtain ⟨hk,he⟩:=hk;conv=>whnf
 refine Eo (fun h'=>?_) fun h'=>?_<;>conv=>whnf
 ·have h':k<x.inputs.length:=by omega
  have e1:((k:Int)-1).toNat=k-1:=by omega
  repeat' (first|(refine L4 ?_;conv=>whnf)|(refine L5 ?_;conv=>whnf)|(refine ⟨fun h=>?_,fun h=>?_⟩<;>conv=>whnf)|(refine Ft ?_;conv=>whnf)|(refine Ax 6 rfl [0,1,2,3,4,5,6,7,8,9,10,11,12,13,14,15,16,17,18,19,20,21,22,23,24,25,26] A6 (A7 ?_))|(refine Ax 20 rfl [0,1,2,3,4,5,6,7,8,9,10,11,12] A6 (A7 ?_))|fail)
  all_goals try (refine Am A0 rfl rfl ⟨congrArg vb (decide_eq_false fun p=>?_),trivial⟩;have p:=p.2.2.1 k h';clear he hA hu;simp only [Wd] at p;simp only [beq_iff_eq,beq_eq_false_iff_ne,bne_iff_ne,bne_eq_false_iff_eq,Bool.not_eq_true',Bool.not_eq_false',Go.Sx.Al,Go.Sx.B4,decide_eq_true_eq,decide_eq_false_iff_not,ne_eq,Int.not_lt,Int.not_le,ge_iff_le,gt_iff_lt,Int.toNat_zero,Int.toNat_one,Int.toNat_natCast] at *;first|omega|(simp only [e1] at *;omega))
  all_goals
   have hs:Wd x.inputs k:=by clear he hA hu;simp only [Wd];simp only [beq_iff_eq,beq_eq_false_iff_ne,bne_iff_ne,bne_eq_false_iff_eq,Bool.not_eq_true',Bool.not_eq_false',Go.Sx.Al,Go.Sx.B4,decide_eq_true_eq,decide_eq_false_iff_not,ne_eq,Int.not_lt,Int.not_le,ge_iff_le,gt_iff_lt,Int.toNat_zero,Int.toNat_one,Int.toNat_natCast] at *;first|omega|(simp only [e1] at *;omega)
   refine Az [] (k+1) ⟨by omega,Dy he hs⟩ Ad ⟨rfl,trivial⟩ trivial C2 A6 C1 A6
 have e:k=x.inputs.length:=by omega
 have hI:A7e x.inputs:=fun i hi=>he i Ad
 clear he hu
 repeat' (first|(refine L4 ?_;conv=>whnf)|(refine L5 ?_;conv=>whnf)|(refine ⟨fun h=>?_,fun h=>?_⟩<;>conv=>whnf)|(refine Ft ?_;conv=>whnf)|(refine Ax 6 rfl [0,1,2,3,4,5,6,7,8,9,10,11,12,13,14,15,16,17,18,19,20,21,22,23,24,25,26] A6 (A7 ?_))|(refine Ax 20 rfl [0,1,2,3,4,5,6,7,8,9,10,11,12] A6 (A7 ?_))|fail)
 all_goals try (refine Am A0 rfl rfl ⟨congrArg vb (decide_eq_false fun p=>?_),trivial⟩;obtain ⟨p1,p2,p3⟩:=p.2.1;clear hA hI p;simp only [beq_iff_eq,beq_eq_false_iff_ne,bne_iff_ne,bne_eq_false_iff_eq,Bool.not_eq_true',Bool.not_eq_false',Go.Sx.Al,Go.Sx.B4,decide_eq_true_eq,decide_eq_false_iff_not,ne_eq,Int.not_lt,Int.not_le,ge_iff_le,gt_iff_lt,Int.toNat_zero,Int.toNat_one,Int.toNat_natCast] at *;omega)
 have hL:P5 x:=by clear hA hI;unfold P5;simp only [beq_iff_eq,beq_eq_false_iff_ne,bne_iff_ne,bne_eq_false_iff_eq,Bool.not_eq_true',Bool.not_eq_false',Go.Sx.Al,Go.Sx.B4,decide_eq_true_eq,decide_eq_false_iff_not,ne_eq,Int.not_lt,Int.not_le,ge_iff_le,gt_iff_lt,Int.toNat_zero,Int.toNat_one,Int.toNat_natCast] at *;omega
 rename_i a1 a2
 clear h a1 a2
 have hu:=Dz (fun i=>Hf (x.sums.getD i default))
 refine Bk A0 false [] (fun k:Nat=>[(91,.c (vi k))]) (fun k=>[⟨0,[.c (Bg g.nodes),.c (vi g.workers),.c (vi g.cap)]⟩,⟨1,[.c (Af x.queue),.c (Af x.staged),.c (Af x.inputs),.c (Ak x.cells),.c (Bh x.sums),.c (Dw x.black),.c (Dw x.caps),.c (G1 x.dones)]⟩]) (fun k=>[])
  (fun k=>k≤x.sums.length∧Kc (fun i=>Hf (x.sums.getD i default)) k) (fun k=>x.sums.length-k) 0 ⟨Nat.zero_le _,by first|rfl|assumption|simp⟩ ⟨F0,trivial⟩ C2 trivial C1 A6 (fun k hk=>?_)
 obtain ⟨hk,he⟩:=hk;conv=>whnf
 refine Eo (fun h'=>?_) fun h'=>?_<;>conv=>whnf
 ·have h':k<x.sums.length:=by omega
  (repeat refine Ap ?_);refine As (Ik _ _ _) rfl (A7 ?_);refine ⟨fun h=>?_,fun h=>?_⟩<;>conv=>whnf
  ·exact Am A0 rfl rfl ⟨congrArg vb (decide_eq_false fun p=>by have:=p.2.2.2.1 _ (At (d:=default) h');clear hA hI he p;simp only [Hf] at this;simp only [beq_iff_eq,beq_eq_false_iff_ne,bne_iff_ne,bne_eq_false_iff_eq,Bool.not_eq_true',Bool.not_eq_false',Go.Sx.Al,Go.Sx.B4,decide_eq_true_eq,decide_eq_false_iff_not,ne_eq,Int.not_lt,Int.not_le,ge_iff_le,gt_iff_lt,Int.toNat_zero,Int.toNat_one,Int.toNat_natCast] at *;omega),trivial⟩
  (repeat refine Ap ?_);refine Az [] (k+1) ⟨by omega,Dy he (by clear he hA hI;simp only [Hf];simp only [beq_iff_eq,beq_eq_false_iff_ne,bne_iff_ne,bne_eq_false_iff_eq,Bool.not_eq_true',Bool.not_eq_false',Go.Sx.Al,Go.Sx.B4,decide_eq_true_eq,decide_eq_false_iff_not,ne_eq,Int.not_lt,Int.not_le,ge_iff_le,gt_iff_lt,Int.toNat_zero,Int.toNat_one,Int.toNat_natCast] at *;omega)⟩ Ad ⟨rfl,trivial⟩ trivial C2 A6 C1 A6
 have e:k=x.sums.length:=by omega
 have hS:Zf x.sums:=Hc (p:=Hf) (e▸he)
 clear he hu
 have hu:=Dz (Th x.dones)
 refine Bk A0 false [] (fun k:Nat=>[(102,.c (vi k))]) (fun k=>[⟨0,[.c (Bg g.nodes),.c (vi g.workers),.c (vi g.cap)]⟩,⟨1,[.c (Af x.queue),.c (Af x.staged),.c (Af x.inputs),.c (Ak x.cells),.c (Bh x.sums),.c (Dw x.black),.c (Dw x.caps),.c (G1 x.dones)]⟩]) (fun k=>[])
  (fun k=>k≤x.dones.length∧Kc (Th x.dones) k) (fun k=>x.dones.length-k) 0 ⟨Nat.zero_le _,by first|rfl|assumption|simp⟩ ⟨F0,trivial⟩ C2 trivial C1 A6 (fun k hk=>?_)
 obtain ⟨hk,he⟩:=hk;conv=>whnf
 refine Eo (fun h'=>?_) fun h'=>?_<;>conv=>whnf
 ·have h':k<x.dones.length:=by omega
  repeat' (first|(refine L4 ?_;conv=>whnf)|(refine L5 ?_;conv=>whnf)|(refine ⟨fun h=>?_,fun h=>?_⟩<;>conv=>whnf)|(refine As (Ik _ _ _) rfl (A7 ?_))|(refine Ft ?_;conv=>whnf)|(refine Ax 6 rfl [0,1,2,3,4,5,6,7,8,9,10,11,12,13,14,15,16,17,18,19,20,21,22,23,24,25,26] A6 (A7 ?_))|(refine Ax 20 rfl [0,1,2,3,4,5,6,7,8,9,10,11,12] A6 (A7 ?_))|fail)
  ·exact Am A0 rfl rfl ⟨congrArg vb (decide_eq_false fun p=>by have:=(p.2.2.2.2 k h').1;clear hA hI he hS p;simp only [beq_iff_eq,beq_eq_false_iff_ne,bne_iff_ne,bne_eq_false_iff_eq,Bool.not_eq_true',Bool.not_eq_false',Go.Sx.Al,Go.Sx.B4,decide_eq_true_eq,decide_eq_false_iff_not,ne_eq,Int.not_lt,Int.not_le,ge_iff_le,gt_iff_lt,Int.toNat_zero,Int.toNat_one,Int.toNat_natCast] at *;omega),trivial⟩
  have hd:0≤(x.dones.getD k default).epoch∧(x.dones.getD k default).epoch≤3:=by clear hA hI he hS hu;simp only [beq_iff_eq,beq_eq_false_iff_ne,bne_iff_ne,bne_eq_false_iff_eq,Bool.not_eq_true',Bool.not_eq_false',Go.Sx.Al,Go.Sx.B4,decide_eq_true_eq,decide_eq_false_iff_not,ne_eq,Int.not_lt,Int.not_le,ge_iff_le,gt_iff_lt,Int.toNat_zero,Int.toNat_one,Int.toNat_natCast] at *;omega
  refine Q7 A0 rfl rfl rfl rfl rfl rfl rfl rfl rfl ⟨by omega,by omega,by omega⟩ (G1 (x.dones.take k)) (C0g Ad) (A7 ?_)
  repeat refine B2 ?_
  refine As (A00 (x.dones.take k) (x.dones.getD k default).epoch (by simp only [List.length_take];omega)) rfl (A7 ?_)
  repeat refine B2 ?_
  refine ⟨fun h2=>?_,fun h2=>?_⟩<;>conv=>whnf
  ·exact Am A0 rfl rfl ⟨congrArg vb (decide_eq_false fun p=>by have:=(Zm Ad).2 (p.2.2.2.2 k h').2;rw [this] at h2;exact absurd h2 B5),trivial⟩
  (repeat refine Ap ?_);refine Az [] (k+1) ⟨by omega,Dy he ⟨hd,(Zm Ad).1 h2⟩⟩ Ad ⟨rfl,trivial⟩ trivial C2 A6 C1 A6
 have e:k=x.dones.length:=by omega
 exact Am A0 rfl rfl ⟨congrArg vb (decide_eq_true ⟨hA,hL,hI,hS,fun i hi=>he i Ad⟩),trivial⟩
theorem Qd (g:Ah)(x:Ab)(hg:g.w≤16777216)(hx:x.w≤16777216):B3 Tryz.prog 74 [.agg g.c,.agg x.c] [.one (vb (Hd g.nodes.length x))]:=by
 have hx2:=hx;simp only [Ab.w] at hx2;refine Aw A0 false Tryz.func74 rfl B5 fun W=>?_;conv=>whnf
 repeat' (first|(refine L4 ?_;conv=>whnf)|(refine L5 ?_;conv=>whnf)|(refine ⟨fun h=>?_,fun h=>?_⟩<;>conv=>whnf)|(refine As (Sk g x.queue hg Ad) rfl (G3 ?_);conv=>whnf)|(refine As (Sk g x.staged hg Ad) rfl (G3 ?_);conv=>whnf)|(refine As (Sk g x.inputs hg Ad) rfl (G3 ?_);conv=>whnf)|(refine As (A9t x.cells Ad) rfl (G3 ?_);conv=>whnf)|(refine Ft ?_;conv=>whnf)|(refine Ax 7 rfl [0,1,2,3,4,5,6,7,8,9,10,11,12,13,14,15,16,17,18,19,20,21,22,23,24,25,26,27,28,29,30,31,32,33,34,35,36,37,38] A6 (A7 ?_))|(refine Ax 22 rfl [0,1,2,3,4,5,6,7,8,9,10,11,12] A6 (A7 ?_))|fail)
 all_goals try (refine Am A0 rfl rfl ⟨congrArg vb (decide_eq_false fun p=>?_),trivial⟩;obtain ⟨⟨p1,p2,p3,p4⟩,⟨p5,p6,p7⟩,_⟩:=p;first|(simp only [beq_iff_eq,beq_eq_false_iff_ne,bne_iff_ne,bne_eq_false_iff_eq,Bool.not_eq_true',Bool.not_eq_false',Go.Sx.Al,Go.Sx.B4,decide_eq_true_eq,decide_eq_false_iff_not,ne_eq,Int.not_lt,Int.not_le,ge_iff_le,gt_iff_lt,Int.toNat_zero,Int.toNat_one,Int.toNat_natCast] at *;omega)|(simp_all [Sy,S6];done))
 have hA:Nl g.nodes.length x:=by unfold Nl;refine ⟨?_,?_,?_,?_⟩<;>simp_all [Sy,S6]
 have hL:P5 x:=by clear hA;unfold P5;simp only [beq_iff_eq,beq_eq_false_iff_ne,bne_iff_ne,bne_eq_false_iff_eq,Bool.not_eq_true',Bool.not_eq_false',Go.Sx.Al,Go.Sx.B4,decide_eq_true_eq,decide_eq_false_iff_not,ne_eq,Int.not_lt,Int.not_le,ge_iff_le,gt_iff_lt,Int.toNat_zero,Int.toNat_one,Int.toNat_natCast] at *;omega
 rename_i a1 a2 a3 a4 a5 a6
 clear h a1 a2 a3 a4 a5 a6
 have hu:=Dz (Wd x.inputs)
 refine Bk A0 false [] (fun k:Nat=>[(6,.c (vi k))]) (fun k=>[⟨0,[.c (Bg g.nodes),.c (vi g.workers),.c (vi g.cap)]⟩,⟨1,[.c (Af x.queue),.c (Af x.staged),.c (Af x.inputs),.c (Ak x.cells),.c (Bh x.sums),.c (Dw x.black),.c (Dw x.caps),.c (G1 x.dones)]⟩]) (fun k=>[])
  (fun k=>k≤x.inputs.length∧Kc (Wd x.inputs) k) (fun k=>x.inputs.length-k) 0 ⟨Nat.zero_le _,by first|rfl|assumption|simp⟩ ⟨F0,trivial⟩ C2 trivial C1 A6 (fun k hk=>?_)
 obtain ⟨hk,he⟩:=hk;conv=>whnf
 refine Eo (fun h'=>?_) fun h'=>?_<;>conv=>whnf
 ·have h':k<x.inputs.length:=by omega
  have e1:((k:Int)-1).toNat=k-1:=by omega
  repeat' (first|(refine L4 ?_;conv=>whnf)|(refine L5 ?_;conv=>whnf)|(refine ⟨fun h=>?_,fun h=>?_⟩<;>conv=>whnf)|(refine Ft ?_;conv=>whnf)|(refine Ax 7 rfl [0,1,2,3,4,5,6,7,8,9,10,11,12,13,14,15,16,17,18,19,20,21,22,23,24,25,26,27,28,29,30,31,32,33,34,35,36,37,38] A6 (A7 ?_))|(refine Ax 22 rfl [0,1,2,3,4,5,6,7,8,9,10,11,12] A6 (A7 ?_))|fail)
  all_goals try (refine Am A0 rfl rfl ⟨congrArg vb (decide_eq_false fun p=>?_),trivial⟩;have p:=p.2.2.1 k h';clear he hA hL hu;simp only [Wd] at p;simp only [beq_iff_eq,beq_eq_false_iff_ne,bne_iff_ne,bne_eq_false_iff_eq,Bool.not_eq_true',Bool.not_eq_false',Go.Sx.Al,Go.Sx.B4,decide_eq_true_eq,decide_eq_false_iff_not,ne_eq,Int.not_lt,Int.not_le,ge_iff_le,gt_iff_lt,Int.toNat_zero,Int.toNat_one,Int.toNat_natCast] at *;first|omega|(simp only [e1] at *;omega))
  all_goals
   have hs:Wd x.inputs k:=by clear he hA hL hu;simp only [Wd];simp only [beq_iff_eq,beq_eq_false_iff_ne,bne_iff_ne,bne_eq_false_iff_eq,Bool.not_eq_true',Bool.not_eq_false',Go.Sx.Al,Go.Sx.B4,decide_eq_true_eq,decide_eq_false_iff_not,ne_eq,Int.not_lt,Int.not_le,ge_iff_le,gt_iff_lt,Int.toNat_zero,Int.toNat_one,Int.toNat_natCast] at *;first|omega|(simp only [e1] at *;omega)
   refine Az [] (k+1) ⟨by omega,Dy he hs⟩ Ad ⟨rfl,trivial⟩ trivial C2 A6 C1 A6
 have e:k=x.inputs.length:=by omega
 have hI:A7e x.inputs:=fun i hi=>he i Ad
 clear he hu
 have hsl:x.sums.length=4:=hL.1;have hu:=Dz (fun i=>Hf (x.sums.getD i default))
 refine Bk A0 false [] (fun k:Nat=>[(7,.c (vi k))]) (fun k=>[⟨0,[.c (Bg g.nodes),.c (vi g.workers),.c (vi g.cap)]⟩,⟨1,[.c (Af x.queue),.c (Af x.staged),.c (Af x.inputs),.c (Ak x.cells),.c (Bh x.sums),.c (Dw x.black),.c (Dw x.caps),.c (G1 x.dones)]⟩]) (fun k=>[])
  (fun k=>k≤x.sums.length∧Kc (fun i=>Hf (x.sums.getD i default)) k) (fun k=>x.sums.length-k) 0 ⟨Nat.zero_le _,by first|rfl|assumption|simp⟩ ⟨F0,trivial⟩ C2 trivial C1 A6 (fun k hk=>?_)
 obtain ⟨hk,he⟩:=hk;conv=>whnf
 refine Eo (fun h'=>?_) fun h'=>?_<;>conv=>whnf
 ·have h':k<x.sums.length:=by omega
  (repeat refine Ap ?_);refine As (G9 _ _ _) rfl (A7 ?_);refine ⟨fun h=>?_,fun h=>?_⟩<;>conv=>whnf
  ·exact Am A0 rfl rfl ⟨congrArg vb (decide_eq_false fun p=>by have:=p.2.2.2.1 _ (At (d:=default) h');clear hA hI he p;simp only [Hf] at this;simp only [beq_iff_eq,beq_eq_false_iff_ne,bne_iff_ne,bne_eq_false_iff_eq,Bool.not_eq_true',Bool.not_eq_false',Go.Sx.Al,Go.Sx.B4,decide_eq_true_eq,decide_eq_false_iff_not,ne_eq,Int.not_lt,Int.not_le,ge_iff_le,gt_iff_lt,Int.toNat_zero,Int.toNat_one,Int.toNat_natCast] at *;omega),trivial⟩
  (repeat refine Ap ?_);refine Az [] (k+1) ⟨by omega,Dy he (by clear he hA hI;simp only [Hf];simp only [beq_iff_eq,beq_eq_false_iff_ne,bne_iff_ne,bne_eq_false_iff_eq,Bool.not_eq_true',Bool.not_eq_false',Go.Sx.Al,Go.Sx.B4,decide_eq_true_eq,decide_eq_false_iff_not,ne_eq,Int.not_lt,Int.not_le,ge_iff_le,gt_iff_lt,Int.toNat_zero,Int.toNat_one,Int.toNat_natCast] at *;omega)⟩ Ad ⟨rfl,trivial⟩ trivial C2 A6 C1 A6
 have e:k=x.sums.length:=by omega
 have hS:Zf x.sums:=Hc (p:=Hf) (e▸he)
 clear he hu
 have hu:=Dz (Th x.dones)
 refine Bk A0 false [] (fun k:Nat=>[(8,.c (vi k))]) (fun k=>[⟨0,[.c (Bg g.nodes),.c (vi g.workers),.c (vi g.cap)]⟩,⟨1,[.c (Af x.queue),.c (Af x.staged),.c (Af x.inputs),.c (Ak x.cells),.c (Bh x.sums),.c (Dw x.black),.c (Dw x.caps),.c (G1 x.dones)]⟩]) (fun k=>[])
  (fun k=>k≤x.dones.length∧Kc (Th x.dones) k) (fun k=>x.dones.length-k) 0 ⟨Nat.zero_le _,by first|rfl|assumption|simp⟩ ⟨F0,trivial⟩ C2 trivial C1 A6 (fun k hk=>?_)
 obtain ⟨hk,he⟩:=hk;conv=>whnf
 refine Eo (fun h'=>?_) fun h'=>?_<;>conv=>whnf
 ·have h':k<x.dones.length:=by omega
  (repeat refine Ap ?_);refine As (G9 _ _ _) rfl (A7 ?_);refine ⟨fun h=>?_,fun h=>?_⟩<;>conv=>whnf
  ·exact Am A0 rfl rfl ⟨congrArg vb (decide_eq_false fun p=>by have:=(p.2.2.2.2 k h').1;clear hA hI he hS p;simp only [beq_iff_eq,beq_eq_false_iff_ne,bne_iff_ne,bne_eq_false_iff_eq,Bool.not_eq_true',Bool.not_eq_false',Go.Sx.Al,Go.Sx.B4,decide_eq_true_eq,decide_eq_false_iff_not,ne_eq,Int.not_lt,Int.not_le,ge_iff_le,gt_iff_lt,Int.toNat_zero,Int.toNat_one,Int.toNat_natCast] at *;omega),trivial⟩
  have hd:0≤(x.dones.getD k default).epoch∧(x.dones.getD k default).epoch≤3:=by clear hA hI he hS hu;simp only [beq_iff_eq,beq_eq_false_iff_ne,bne_iff_ne,bne_eq_false_iff_eq,Bool.not_eq_true',Bool.not_eq_false',Go.Sx.Al,Go.Sx.B4,decide_eq_true_eq,decide_eq_false_iff_not,ne_eq,Int.not_lt,Int.not_le,ge_iff_le,gt_iff_lt,Int.toNat_zero,Int.toNat_one,Int.toNat_natCast] at *;omega
  have hv:=Dz (fun i=>(x.dones.getD i default).epoch≠(x.dones.getD k default).epoch)
  refine Bk A0 false [] (fun j:Nat=>[(9,.c (vi j))]) (fun j=>[⟨0,[.c (Bg g.nodes),.c (vi g.workers),.c (vi g.cap)]⟩,⟨1,[.c (Af x.queue),.c (Af x.staged),.c (Af x.inputs),.c (Ak x.cells),.c (Bh x.sums),.c (Dw x.black),.c (Dw x.caps),.c (G1 x.dones)]⟩]) (fun j=>[])
   (fun j=>j≤k∧Kc (fun i=>(x.dones.getD i default).epoch≠(x.dones.getD k default).epoch) j) (fun j=>k-j) 0 ⟨Nat.zero_le _,by first|rfl|assumption|simp⟩ ⟨F0,trivial⟩ C2 trivial C1 A6 (fun j hj=>?_)
  obtain ⟨hj,hej⟩:=hj;conv=>whnf
  refine Eo (fun h3=>?_) fun h3=>?_<;>conv=>whnf
  ·have h3:j<k:=by omega
   first|(refine Ax 7 rfl [0,1,2,3,4,5,6,7,8,9,10,11,12,13,14,15,16,17,18,19,20,21,22,23,24,25,26,27,28,29,30,31,32,33,34,35,36,37,38] A6 (A7 ?_))|(refine Ax 22 rfl [0,1,2,3,4,5,6,7,8,9,10,11,12] A6 (A7 ?_))
   (repeat refine Ap ?_);refine ⟨fun h4=>have h4:=eq_of_beq h4;?_,fun h4=>have h4:=beq_eq_false_iff_ne.1 h4;?_⟩<;>conv=>whnf
   ·exact Am A0 rfl rfl ⟨congrArg vb (decide_eq_false fun p=>(p.2.2.2.2 k h').2 j h3 h4),trivial⟩
   (repeat refine Ap ?_);refine Az [] (j+1) ⟨by omega,Dy hej h4⟩ Ad ⟨rfl,trivial⟩ trivial C2 A6 C1 A6
  have e:j=k:=by omega
  (repeat refine Ap ?_);refine Az [] (k+1) ⟨by omega,Dy he ⟨hd,fun i hi=>hej i Ad⟩⟩ Ad ⟨rfl,trivial⟩ trivial C2 A6 C1 A6
 have e:k=x.dones.length:=by omega
 exact Am A0 rfl rfl ⟨congrArg vb (decide_eq_true ⟨hA,hL,hI,hS,fun i hi=>he i Ad⟩),trivial⟩
theorem K0 (g:Ah)(hg:g.w≤16777216):B3 Tryz.prog 105 [.agg g.c] [.one (vb (F1 g))]:=by
 have hn:=Ah.nodes_le hg;have hu:=Dz (Nj g);refine Aw A0 false Tryz.func105 rfl B5 fun W=>?_;conv=>whnf
 repeat' (first|(refine L4 ?_;conv=>whnf)|(refine L5 ?_;conv=>whnf)|(refine ⟨fun h=>?_,fun h=>?_⟩<;>conv=>whnf)|(refine As (Ik _ _ _) rfl (A7 ?_))|(refine Ft ?_;conv=>whnf)|fail)
 all_goals try (refine Am A0 rfl rfl ⟨congrArg vb (decide_eq_false fun p=>?_),trivial⟩;have p1:=p.1;have p2:=p.2.1;have p3:=p.2.2.1;clear p;simp only [beq_iff_eq,beq_eq_false_iff_ne,bne_iff_ne,bne_eq_false_iff_eq,Bool.not_eq_true',Bool.not_eq_false',Go.Sx.Al,Go.Sx.B4,decide_eq_true_eq,decide_eq_false_iff_not,ne_eq,Int.not_lt,Int.not_le,ge_iff_le,gt_iff_lt,Int.toNat_zero,Int.toNat_one,Int.toNat_natCast] at * <;>omega)
 refine Bk A0 false [] (fun k:Nat=>[(28,.c (vi k))]) (fun k=>[⟨0,[.c (Bg g.nodes),.c (vi g.workers),.c (vi g.cap)]⟩]) (fun k=>[])
  (fun k=>k≤g.nodes.length∧Kc (Nj g) k) (fun k=>g.nodes.length-k) 0 ⟨Nat.zero_le _,by first|rfl|assumption|simp⟩ ⟨F0,trivial⟩ C2 trivial C1 A6 (fun k hk=>?_)
 obtain ⟨hk,he⟩:=hk;conv=>whnf
 refine Eo (fun h'=>?_) fun h'=>?_<;>conv=>whnf
 ·have h':k<g.nodes.length:=by omega
  have hw:=Ah.node_le hg h';have hq:(g.nodes.getD k default).outs.length≤16777216:=hw;have hv:=Dz (fun j=>Qs g k (g.nodes.getD k default) ((g.nodes.getD k default).outs.getD j default))
  repeat' (first|(refine L4 ?_;conv=>whnf)|(refine L5 ?_;conv=>whnf)|(refine ⟨fun h=>?_,fun h=>?_⟩<;>conv=>whnf)|(refine As (A06 (g.nodes.getD k default) hw) rfl (G3 ?_);conv=>whnf)|(refine Ft ?_;conv=>whnf)|fail)
  ·exact Am A0 rfl rfl ⟨congrArg vb (decide_eq_false fun p=>by rw [show Ma (g.nodes.getD k default)=true from decide_eq_true (p.2.2.2 k h').1] at h;exact absurd h B5),trivial⟩
  ·exact Am A0 rfl rfl ⟨congrArg vb (decide_eq_false fun p=>B9f h (p.2.2.2 k h').2.1),trivial⟩
  rename_i hno
  have hN:Jv (g.nodes.getD k default):=of_decide_eq_true (show Ma (g.nodes.getD k default)=true by cases hq2:Ma (g.nodes.getD k default)<;>simp_all only [Bool.not_false,Bool.true_eq_false])
  have hK:(g.nodes.getD k default).kind=1↔k=0:=B9e h;have hO:=hN.2.2.2.2.2.2.2.2
  refine Bk A0 false [] (fun j:Nat=>[(47,.c (vi j))]) (fun j=>[⟨0,[.c (Bg g.nodes),.c (vi g.workers),.c (vi g.cap)]⟩,⟨1,[.c (vi (g.nodes.getD k default).kind),.c (vi (g.nodes.getD k default).a),.c (vi (g.nodes.getD k default).b),.c (Bh (g.nodes.getD k default).outs)]⟩]) (fun j=>[])
   (fun j=>j≤(g.nodes.getD k default).outs.length∧Kc (fun j=>Qs g k (g.nodes.getD k default) ((g.nodes.getD k default).outs.getD j default)) j) (fun j=>(g.nodes.getD k default).outs.length-j) 0 ⟨Nat.zero_le _,by first|rfl|assumption|simp⟩ ⟨F0,trivial⟩ C2 trivial C1 A6 (fun j hj=>?_)
  obtain ⟨hj,hej⟩:=hj;conv=>whnf
  refine Eo (fun h2=>?_) fun h2=>?_<;>conv=>whnf
  ·have h2:j<(g.nodes.getD k default).outs.length:=by first|omega|(simp only [Int.toNat_natCast] at h2;omega)
   have hb:=hO _ (At (d:=default) h2)
   repeat' (first|(refine L4 ?_;conv=>whnf)|(refine L5 ?_;conv=>whnf)|(refine ⟨fun h=>?_,fun h=>?_⟩<;>conv=>whnf)|(refine Ft ?_;conv=>whnf)|fail)
   all_goals try (refine Am A0 rfl rfl ⟨congrArg vb (decide_eq_false fun p=>?_),trivial⟩;have q:=(p.2.2.2 k h').2.2 _ (At (d:=default) h2);clear p hej he hv hu hN hK hO;simp only [Qs,Wv] at q;simp only [beq_iff_eq,beq_eq_false_iff_ne,bne_iff_ne,bne_eq_false_iff_eq,Bool.not_eq_true',Bool.not_eq_false',Go.Sx.Al,Go.Sx.B4,decide_eq_true_eq,decide_eq_false_iff_not,ne_eq,Int.not_lt,Int.not_le,ge_iff_le,gt_iff_lt,Int.toNat_zero,Int.toNat_one,Int.toNat_natCast] at * <;>omega)
   all_goals
    refine Az [] (j+1) ⟨by omega,Dy hej (by clear hej he hv hu hN hK hO;simp only [Qs,Wv];simp only [beq_iff_eq,beq_eq_false_iff_ne,bne_iff_ne,bne_eq_false_iff_eq,Bool.not_eq_true',Bool.not_eq_false',Go.Sx.Al,Go.Sx.B4,decide_eq_true_eq,decide_eq_false_iff_not,ne_eq,Int.not_lt,Int.not_le,ge_iff_le,gt_iff_lt,Int.toNat_zero,Int.toNat_one,Int.toNat_natCast] at * <;>omega)⟩ Ad ⟨rfl,trivial⟩ trivial C2 A6 C1 A6
  have e:j=(g.nodes.getD k default).outs.length:=by first|omega|(simp only [Int.toNat_natCast] at h2;omega)
  (repeat refine Ap ?_);refine Az [] (k+1) ⟨by omega,Dy he ⟨hN,hK,Hc (e▸hej)⟩⟩ Ad ⟨rfl,trivial⟩ trivial C2 A6 C1 A6
 have e:k=g.nodes.length:=by omega
 exact Am A0 rfl rfl ⟨congrArg vb (decide_eq_true ⟨by simp only [beq_iff_eq,beq_eq_false_iff_ne,bne_iff_ne,bne_eq_false_iff_eq,Bool.not_eq_true',Bool.not_eq_false',Go.Sx.Al,Go.Sx.B4,decide_eq_true_eq,decide_eq_false_iff_not,ne_eq,Int.not_lt,Int.not_le,ge_iff_le,gt_iff_lt,Int.toNat_zero,Int.toNat_one,Int.toNat_natCast] at * <;>omega,by simp only [beq_iff_eq,beq_eq_false_iff_ne,bne_iff_ne,bne_eq_false_iff_eq,Bool.not_eq_true',Bool.not_eq_false',Go.Sx.Al,Go.Sx.B4,decide_eq_true_eq,decide_eq_false_iff_not,ne_eq,Int.not_lt,Int.not_le,ge_iff_le,gt_iff_lt,Int.toNat_zero,Int.toNat_one,Int.toNat_natCast] at * <;>omega,by simp only [beq_iff_eq,beq_eq_false_iff_ne,bne_iff_ne,bne_eq_false_iff_eq,Bool.not_eq_true',Bool.not_eq_false',Go.Sx.Al,Go.Sx.B4,decide_eq_true_eq,decide_eq_false_iff_not,ne_eq,Int.not_lt,Int.not_le,ge_iff_le,gt_iff_lt,Int.toNat_zero,Int.toNat_one,Int.toNat_natCast] at * <;>omega,e▸he⟩),trivial⟩
end Go.Proofs.YtdendlkeiaccpaaGreat
