/- Part 8 of the proof that each of the laws FnColours returns true for every input. No conditions. -/
import Derived.Test.YtdendlkeiaccpaaGreatDoorP7

set_option linter.unusedSimpArgs false
set_option linter.unusedVariables false
set_option maxRecDepth 100000
namespace Go.Proofs.YtdendlkeiaccpaaGreatDoor
open Go.Sx
def Mu (l:List Bj):Prop:=∀i,i<l.length-1→Ja (l.getD i default) (l.getD (i+1) default)<0
instance (l:List Bj):Decidable (Mu l):=by unfold Mu;infer_instance
def Pl (l:List Bj):Bool:=decide (Mu l)
theorem A3k (l:List Bj)(hl:l.length≤16777216):Be Tryz.prog 166 [.one (Bm l)] [.one (vb (Pl l))]:=by
 refine B5 A0 false Tryz.func166 rfl Az fun W=>?_
 conv=>whnf
 refine C0 A0 false [] (fun j:Nat=>[(3,.c (vi ((j:Int)+1)))]) (fun j=>[]) (fun j=>[]) (fun j=>j≤l.length∧J4 (fun i=>Ja (l.getD i default) (l.getD (i+1) default)<0) j) (fun j=>l.length-j) (0) (⟨Nat.zero_le _,Da _⟩) ⟨G3,trivial⟩ trivial trivial Co A7 (fun j hj=>?_)
 conv=>whnf
 obtain ⟨hj,he⟩:=hj
 refine F4 (fun h=>?_) fun h=>?_<;>conv=>whnf
 ·have h:j+1<l.length:=by omega
  have e1:((j:Int)+1-1).toNat=j:=by omega
  have e2:((j:Int)+1).toNat=j+1:=by omega
  (repeat refine An ?_)
  first|(refine Ax 4 rfl [0,1,2,3,4,5,6,7,8,9,10] A7 (A8 ?_))
  (repeat refine An ?_)
  refine At (Y1 (l.getD ((j:Int)+1-1).toNat default) (l.getD ((j:Int)+1).toNat default)) rfl (A8 ?_)
  refine F4 (fun h2=>?_) fun h2=>?_<;>conv=>whnf
  all_goals rw [e1,e2] at h2
  ·exact Ap A0 rfl rfl ⟨congrArg vb (decide_eq_false fun p=>by have:=p j Ac;omega),trivial⟩
  (repeat refine An ?_)
  refine B8 [] (j+1) (⟨by omega,D9 he Ac⟩) Ac ⟨rfl,trivial⟩ trivial trivial A7 Co A7
 exact Ap A0 rfl rfl ⟨congrArg vb (decide_eq_true fun i hi=>he i Ac),trivial⟩
theorem A4n (l:List Bj)(hl:l.length≤16777216):Be Tryz.prog 173 [.one (Bm l)] [.one (vb (Pl l))]:=by
 refine B5 A0 false Tryz.func173 rfl Az fun W=>?_
 conv=>whnf
 refine C0 A0 false [] (fun j:Nat=>[(3,.c (vi ((j:Int)+1)))]) (fun j=>[]) (fun j=>[]) (fun j=>j≤l.length∧J4 (fun i=>Ja (l.getD i default) (l.getD (i+1) default)<0) j) (fun j=>l.length-j) (0) (⟨Nat.zero_le _,Da _⟩) ⟨G3,trivial⟩ trivial trivial Co A7 (fun j hj=>?_)
 conv=>whnf
 obtain ⟨hj,he⟩:=hj
 refine F4 (fun h=>?_) fun h=>?_<;>conv=>whnf
 ·have h:j+1<l.length:=by omega
  have e1:((j:Int)+1-1).toNat=j:=by omega
  have e2:((j:Int)+1).toNat=j+1:=by omega
  (repeat refine An ?_)
  first|(refine Ax 4 rfl [0,1,2,3,4,5,6,7,8,9,10] A7 (A8 ?_))
  (repeat refine An ?_)
  refine At (Qc (l.getD ((j:Int)+1-1).toNat default) (l.getD ((j:Int)+1).toNat default)) rfl (A8 ?_)
  refine F4 (fun h2=>?_) fun h2=>?_<;>conv=>whnf
  all_goals rw [e1,e2] at h2
  ·exact Ap A0 rfl rfl ⟨congrArg vb (decide_eq_false fun p=>by have:=p j Ac;omega),trivial⟩
  (repeat refine An ?_)
  refine B8 [] (j+1) (⟨by omega,D9 he Ac⟩) Ac ⟨rfl,trivial⟩ trivial trivial A7 Co A7
 exact Ap A0 rfl rfl ⟨congrArg vb (decide_eq_true fun i hi=>he i Ac),trivial⟩
def Sr (n:Nat) (l:List Ae):Prop:=∀r∈l,H2 r∧r.op<n
instance (n:Nat) (l:List Ae):Decidable (Sr n l):=by unfold Sr;infer_instance
def Q5 (n:Nat) (l:List Ae):Bool:=decide (Sr n l)
theorem A5z (g:Aq)(k:Int)(hg:g.w≤16777216):Be Tryz.prog 140 [.agg g.c,.one (vi k)] [.one (vb (Di k 0 (g.nodes.length-1)))]:=by
 have hn:=Aq.nodes_le hg
 refine B5 A0 false Tryz.func140 rfl Az fun W=>?_
 conv=>whnf
 (repeat refine An ?_)
 refine At (I3 k 0 (g.nodes.length-1)) rfl (A8 ?_)
 exact Ap A0 rfl rfl ⟨rfl,trivial⟩
theorem Hq {r:Ae}:Ib r=true↔H2 r:=decide_eq_true_iff
theorem Po (g:Aq)(l:List Ae)(hg:g.w≤16777216)(hl:l.length≤16777216):Be Tryz.prog 129 [.agg g.c,.one (Ag l)] [.one (vb (Q5 g.nodes.length l))]:=by
 have hu:=Da (fun i=>H2 (l.getD i default)∧(l.getD i default).op<g.nodes.length)
 have hn:=Aq.nodes_le hg
 refine B5 A0 false Tryz.func129 rfl Az fun W=>?_
 conv=>whnf
 refine C0 A0 false [] (fun k:Nat=>[(9,.c (vi k))]) (fun k=>[⟨0,[.c (Bn g.nodes),.c (vi g.workers),.c (vi g.cap)]⟩]) (fun k=>[])
  (fun k=>k≤l.length∧J4 (fun i=>H2 (l.getD i default)∧(l.getD i default).op<g.nodes.length) k) (fun k=>l.length-k) 0 ⟨Nat.zero_le _,by first|rfl|assumption|simp⟩ ⟨G3,trivial⟩ Cg trivial Co A7 (fun k hk=>?_)
 obtain ⟨hk,he⟩:=hk
 conv=>whnf
 refine F4 (fun h'=>?_) fun h'=>?_<;>conv=>whnf
 ·have h':k<l.length:=by omega
  repeat' (first|(refine J1 ?_;conv=>whnf)|(refine J2 ?_;conv=>whnf)|(refine ⟨fun h=>?_,fun h=>?_⟩<;>conv=>whnf)|(refine At (Rz (l.getD k default)) rfl (I5 ?_);conv=>whnf)|(refine At (A5z g _ hg) rfl (A8 ?_))|(refine Ep ?_;conv=>whnf)|fail)
  all_goals try (refine Ap A0 rfl rfl ⟨congrArg vb (decide_eq_false fun p=>?_),trivial⟩;obtain ⟨p1,p2⟩:=p _ (Ay (d:=default) h');first|(rw [Hq.2 p1] at h;exact absurd h Az)|(have p3:=p1.1;clear he hu;simp only [beq_iff_eq,beq_eq_false_iff_ne,bne_iff_ne,bne_eq_false_iff_eq,Bool.not_eq_true',Bool.not_eq_false',Go.Sx.Ah,Go.Sx.Aw,decide_eq_true_eq,decide_eq_false_iff_not,ne_eq,Int.not_lt,Int.not_le,ge_iff_le,gt_iff_lt,Int.toNat_zero,Int.toNat_one,Int.toNat_natCast] at * <;>omega))
  all_goals
   have hp:H2 (l.getD k default):=Hq.1 (by first|(simpa using h)|(rename_i q _;simpa using q)|(rename_i q;simpa using q))
   refine B8 [] (k+1) ⟨by omega,D9 he ⟨hp,by clear he hu hp;simp only [beq_iff_eq,beq_eq_false_iff_ne,bne_iff_ne,bne_eq_false_iff_eq,Bool.not_eq_true',Bool.not_eq_false',Go.Sx.Ah,Go.Sx.Aw,decide_eq_true_eq,decide_eq_false_iff_not,ne_eq,Int.not_lt,Int.not_le,ge_iff_le,gt_iff_lt,Int.toNat_zero,Int.toNat_one,Int.toNat_natCast] at * <;>omega⟩⟩ Ac ⟨rfl,trivial⟩ trivial Cg A7 Co A7
 have e:k=l.length:=by omega
 exact Ap A0 rfl rfl ⟨congrArg vb (decide_eq_true (Gg (p:=fun r=>H2 r∧r.op<g.nodes.length) (e▸he))),trivial⟩
theorem Pv (g:Aq)(l:List Ae)(hg:g.w≤16777216)(hl:l.length≤16777216):Be Tryz.prog 139 [.agg g.c,.one (Ag l)] [.one (vb (Q5 g.nodes.length l))]:=by
 have hu:=Da (fun i=>H2 (l.getD i default)∧(l.getD i default).op<g.nodes.length)
 have hn:=Aq.nodes_le hg
 refine B5 A0 false Tryz.func139 rfl Az fun W=>?_
 conv=>whnf
 refine C0 A0 false [] (fun k:Nat=>[(5,.c (vi k))]) (fun k=>[⟨0,[.c (Bn g.nodes),.c (vi g.workers),.c (vi g.cap)]⟩]) (fun k=>[])
  (fun k=>k≤l.length∧J4 (fun i=>H2 (l.getD i default)∧(l.getD i default).op<g.nodes.length) k) (fun k=>l.length-k) 0 ⟨Nat.zero_le _,by first|rfl|assumption|simp⟩ ⟨G3,trivial⟩ Cg trivial Co A7 (fun k hk=>?_)
 obtain ⟨hk,he⟩:=hk
 conv=>whnf
 refine F4 (fun h'=>?_) fun h'=>?_<;>conv=>whnf
 ·have h':k<l.length:=by omega
  repeat' (first|(refine J1 ?_;conv=>whnf)|(refine J2 ?_;conv=>whnf)|(refine ⟨fun h=>?_,fun h=>?_⟩<;>conv=>whnf)|(refine At (Hx (l.getD k default)) rfl (I5 ?_);conv=>whnf)|(refine At (Fc _ _ _) rfl (A8 ?_))|(refine Ep ?_;conv=>whnf)|(refine Ax 4 rfl [0,1,2,3,4,5,6,7,8,9,10,11,12,13,14,15,16] A7 (A8 ?_))|fail)
  all_goals try (refine Ap A0 rfl rfl ⟨congrArg vb (decide_eq_false fun p=>?_),trivial⟩;obtain ⟨p1,p2⟩:=p _ (Ay (d:=default) h');first|(rw [Hq.2 p1] at h;exact absurd h Az)|(have p3:=p1.1;clear he hu;simp only [beq_iff_eq,beq_eq_false_iff_ne,bne_iff_ne,bne_eq_false_iff_eq,Bool.not_eq_true',Bool.not_eq_false',Go.Sx.Ah,Go.Sx.Aw,decide_eq_true_eq,decide_eq_false_iff_not,ne_eq,Int.not_lt,Int.not_le,ge_iff_le,gt_iff_lt,Int.toNat_zero,Int.toNat_one,Int.toNat_natCast] at * <;>omega))
  all_goals
   have hp:H2 (l.getD k default):=Hq.1 (by first|(simpa using h)|(rename_i q _;simpa using q)|(rename_i q;simpa using q))
   refine B8 [] (k+1) ⟨by omega,D9 he ⟨hp,by clear he hu hp;simp only [beq_iff_eq,beq_eq_false_iff_ne,bne_iff_ne,bne_eq_false_iff_eq,Bool.not_eq_true',Bool.not_eq_false',Go.Sx.Ah,Go.Sx.Aw,decide_eq_true_eq,decide_eq_false_iff_not,ne_eq,Int.not_lt,Int.not_le,ge_iff_le,gt_iff_lt,Int.toNat_zero,Int.toNat_one,Int.toNat_natCast] at * <;>omega⟩⟩ Ac ⟨rfl,trivial⟩ trivial Cg A7 Co A7
 have e:k=l.length:=by omega
 exact Ap A0 rfl rfl ⟨congrArg vb (decide_eq_true (Gg (p:=fun r=>H2 r∧r.op<g.nodes.length) (e▸he))),trivial⟩
def B06 (l:List Ae):Prop:=∀r∈l,H2 r
instance (l:List Ae):Decidable (B06 l):=by unfold B06;infer_instance
theorem A9y (l:List Ae)(hl:l.length≤16777216):Be Tryz.prog 167 [.one (Ag l)] [.one (vb (decide (B06 l)))]:=by
 have hu:=Da (fun i=>H2 (l.getD i default))
 refine B5 A0 false Tryz.func167 rfl Az fun W=>?_
 conv=>whnf
 refine C0 A0 false [] (fun k:Nat=>[(7,.c (vi k))]) (fun k=>[]) (fun k=>[])
  (fun k=>k≤l.length∧J4 (fun i=>H2 (l.getD i default)) k) (fun k=>l.length-k) 0 ⟨Nat.zero_le _,by first|rfl|assumption|simp⟩ ⟨G3,trivial⟩ trivial trivial Co A7 (fun k hk=>?_)
 obtain ⟨hk,he⟩:=hk
 conv=>whnf
 refine F4 (fun h'=>?_) fun h'=>?_<;>conv=>whnf
 ·have h':k<l.length:=by omega
  (repeat refine An ?_)
  refine At (Rz (l.getD k default)) rfl (A8 ?_)
  refine ⟨fun h=>?_,fun h=>?_⟩<;>conv=>whnf
  ·exact Ap A0 rfl rfl ⟨congrArg vb (decide_eq_false fun p=>by rw [Hq.2 (p _ (Ay (d:=default) h'))] at h;exact absurd h Az),trivial⟩
  (repeat refine An ?_)
  refine B8 [] (k+1) ⟨by omega,D9 he (Hq.1 (by simpa using h))⟩ Ac ⟨rfl,trivial⟩ trivial trivial A7 Co A7
 have e:k=l.length:=by omega
 exact Ap A0 rfl rfl ⟨congrArg vb (decide_eq_true (Gg (p:=H2) (e▸he))),trivial⟩
def To (l:Bz):Prop:=(1≤l.cap∧l.cap≤4)∧(0≤l.credits∧l.credits≤l.cap)∧(0≤l.back∧l.back≤l.cap)∧l.credits+l.back+l.queue.length=l.cap∧(0≤l.sent∧l.sent≤1000000000)∧0≤l.got∧l.sent-l.got=l.queue.length
instance (l:Bz):Decidable (To l):=by unfold To;infer_instance
def Gm (l:Bz):Prop:=To l∧B06 l.queue
instance (l:Bz):Decidable (Gm l):=by unfold Gm;infer_instance
def Ko (l:Bz):Bool:=decide (Gm l)
theorem A51 (l:Bz)(hl:l.w≤16777216)(og2:l.got≤9223372036854775807):Be Tryz.prog 128 [.agg l.c] [.one (vb (Ko l))]:=by
 have hq:l.queue.length≤16777216:=hl
 refine B5 A0 false Tryz.func128 rfl Az fun W=>?_
 conv=>whnf
 repeat' (first|(refine J1 ?_;conv=>whnf)|(refine J2 ?_;conv=>whnf)|(refine ⟨fun h=>?_,fun h=>?_⟩<;>conv=>whnf)|(refine At (I3 _ _ _) rfl (A8 ?_))|(refine At (A9y l.queue hq) rfl (A8 ?_))|(refine Ep ?_;conv=>whnf)|fail)
 all_goals first
  |(refine Ap A0 rfl rfl ⟨congrArg vb (decide_eq_false fun p=>?_),trivial⟩;obtain ⟨⟨p1,p2,p3,p4,p5,p6,p7⟩,_⟩:=p;simp only [beq_iff_eq,beq_eq_false_iff_ne,bne_iff_ne,bne_eq_false_iff_eq,Bool.not_eq_true',Bool.not_eq_false',Go.Sx.Ah,Go.Sx.Aw,decide_eq_true_eq,decide_eq_false_iff_not,ne_eq,Int.not_lt,Int.not_le,ge_iff_le,gt_iff_lt,Int.toNat_zero,Int.toNat_one,Int.toNat_natCast] at * <;>omega)
  |(refine Ap A0 rfl rfl ⟨congrArg vb (decide_eq_decide.2 ⟨fun p=>p.2,fun p=>⟨?_,p⟩⟩),trivial⟩;refine ⟨?_,?_,?_,?_,?_,?_,?_⟩<;>(simp only [beq_iff_eq,beq_eq_false_iff_ne,bne_iff_ne,bne_eq_false_iff_eq,Bool.not_eq_true',Bool.not_eq_false',Go.Sx.Ah,Go.Sx.Aw,decide_eq_true_eq,decide_eq_false_iff_not,ne_eq,Int.not_lt,Int.not_le,ge_iff_le,gt_iff_lt,Int.toNat_zero,Int.toNat_one,Int.toNat_natCast] at * <;>omega))
theorem Nr (l:Bz)(hl:l.w≤16777216):Be Tryz.prog 138 [.agg l.c] [.one (vb (Ko l))]:=by
 have hq:l.queue.length≤16777216:=hl
 have hu:=Da (fun i=>H2 (l.queue.getD i default))
 refine B5 A0 false Tryz.func138 rfl Az fun W=>?_
 conv=>whnf
 refine C0 A0 false [] (fun k:Nat=>[(3,.c (vi k))]) (fun k=>[⟨0,[.c (vi l.cap),.c (Ag l.queue),.c (vi l.credits),.c (vi l.back),.c (vi l.sent),.c (vi l.got)]⟩]) (fun k=>[])
  (fun k=>k≤l.queue.length∧J4 (fun i=>H2 (l.queue.getD i default)) k) (fun k=>l.queue.length-k) 0 ⟨Nat.zero_le _,by first|rfl|assumption|simp⟩ ⟨G3,trivial⟩ Cg trivial Co A7 (fun k hk=>?_)
 obtain ⟨hk,he⟩:=hk
 conv=>whnf
 refine F4 (fun h'=>?_) fun h'=>?_<;>conv=>whnf
 ·have h':k<l.queue.length:=by omega
  (repeat refine An ?_)
  refine At (Hx (l.queue.getD k default)) rfl (A8 ?_)
  refine ⟨fun h=>?_,fun h=>?_⟩<;>conv=>whnf
  ·exact Ap A0 rfl rfl ⟨congrArg vb (decide_eq_false fun p=>by rw [Hq.2 (p.2 _ (Ay (d:=default) h'))] at h;exact absurd h Az),trivial⟩
  (repeat refine An ?_)
  refine B8 [] (k+1) ⟨by omega,D9 he (Hq.1 (by simpa using h))⟩ Ac ⟨rfl,trivial⟩ trivial Cg A7 Co A7
 have e:k=l.queue.length:=by omega
 have hA:B06 l.queue:=Gg (p:=H2) (e▸he)
 clear he hu
 repeat' (first|(refine J1 ?_;conv=>whnf)|(refine J2 ?_;conv=>whnf)|(refine ⟨fun h=>?_,fun h=>?_⟩<;>conv=>whnf)|(refine At (Fc _ _ _) rfl (A8 ?_))|(refine Ep ?_;conv=>whnf)|fail)
 all_goals first
  |(refine Ap A0 rfl rfl ⟨congrArg vb (decide_eq_false fun p=>?_),trivial⟩;obtain ⟨⟨p1,p2,p3,p4,p5,p6,p7⟩,_⟩:=p;clear hA;simp only [beq_iff_eq,beq_eq_false_iff_ne,bne_iff_ne,bne_eq_false_iff_eq,Bool.not_eq_true',Bool.not_eq_false',Go.Sx.Ah,Go.Sx.Aw,decide_eq_true_eq,decide_eq_false_iff_not,ne_eq,Int.not_lt,Int.not_le,ge_iff_le,gt_iff_lt,Int.toNat_zero,Int.toNat_one,Int.toNat_natCast] at * <;>omega)
  |(refine Ap A0 rfl rfl ⟨congrArg vb (decide_eq_decide.2 ⟨fun p=>p.1.2.2.2.2.2.1,fun p=>⟨?_,hA⟩⟩),trivial⟩;clear hA;refine ⟨?_,?_,?_,?_,?_,?_,?_⟩<;>(simp only [beq_iff_eq,beq_eq_false_iff_ne,bne_iff_ne,bne_eq_false_iff_eq,Bool.not_eq_true',Bool.not_eq_false',Go.Sx.Ah,Go.Sx.Aw,decide_eq_true_eq,decide_eq_false_iff_not,ne_eq,Int.not_lt,Int.not_le,ge_iff_le,gt_iff_lt,Int.toNat_zero,Int.toNat_one,Int.toNat_natCast] at * <;>omega))
end Go.Proofs.YtdendlkeiaccpaaGreatDoor
