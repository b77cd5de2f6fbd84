/- Part 12 of the proof that each of the laws FnExactRunScriptOf, FnExactSpreadResult returns true for every input. No conditions. -/
import Derived.Test.YtlbmkgkmbjadcaaGreatP9

set_option linter.unusedSimpArgs false
set_option linter.unusedVariables false
set_option maxRecDepth 100000
namespace Go.Proofs.YtlbmkgkmbjadcaaGreat
open Go.Sx
theorem Ip (g:Ar)(hg:g.w≤16777216):Aq Tryz.prog 97 [.agg g.c] [.one (vb (Fi g))]:=by
 have hn:=Ar.nodes_le hg
 have hu:=Dd (M3 g)
 refine Aj A0 false Tryz.func97 rfl Bs fun W=>?_
 conv=>whnf
 repeat' (first|(refine Ki ?_;conv=>whnf)|(refine Kj ?_;conv=>whnf)|(refine ⟨fun h=>?_,fun h=>?_⟩<;>conv=>whnf)|(refine Ai (Hj _ _ _) rfl (Ae ?_))|(refine Fe ?_;conv=>whnf)|fail)
 all_goals try (refine Ah A0 rfl rfl ⟨congrArg vb (decide_eq_false fun p=>?_),trivial⟩;have p1:=p.1;have p2:=p.2.1;have p3:=p.2.2.1;clear p;simp only [beq_iff_eq,beq_eq_false_iff_ne,bne_iff_ne,bne_eq_false_iff_eq,Bool.not_eq_true',Bool.not_eq_false',Go.Sx.Am,Go.Sx.Aw,decide_eq_true_eq,decide_eq_false_iff_not,ne_eq,Int.not_lt,Int.not_le,ge_iff_le,gt_iff_lt,Int.toNat_zero,Int.toNat_one,Int.toNat_natCast] at * <;>omega)
 refine B6 A0 false [] (fun k:Nat=>[(28,.c (vi k))]) (fun k=>[⟨0,[.c (Bb g.nodes),.c (vi g.workers),.c (vi g.cap)]⟩]) (fun k=>[])
  (fun k=>k≤g.nodes.length∧J2 (M3 g) k) (fun k=>g.nodes.length-k) 0 ⟨Nat.zero_le _,by first|rfl|assumption|simp⟩ ⟨by first|rfl|simp [Cr,ren2,ren1,ren0],trivial⟩ Cp trivial Cc A5 (fun k hk=>?_)
 obtain ⟨hk,he⟩:=hk
 conv=>whnf
 refine F2 (fun h'=>?_) fun h'=>?_<;>conv=>whnf
 ·have h':k<g.nodes.length:=by omega
  have hw:=Ar.node_le hg h'
  have hq:(g.nodes.getD k default).outs.length≤16777216:=hw
  have hv:=Dd (fun j=>Ok g k (g.nodes.getD k default) ((g.nodes.getD k default).outs.getD j default))
  repeat' (first|(refine Ki ?_;conv=>whnf)|(refine Kj ?_;conv=>whnf)|(refine ⟨fun h=>?_,fun h=>?_⟩<;>conv=>whnf)|(refine Ai (Wm (g.nodes.getD k default) hw) rfl (Iy ?_);conv=>whnf)|(refine Fe ?_;conv=>whnf)|fail)
  ·exact Ah A0 rfl rfl ⟨congrArg vb (decide_eq_false fun p=>by rw [show Ko (g.nodes.getD k default)=true from decide_eq_true (p.2.2.2 k h').1] at h;exact absurd h Bs),trivial⟩
  ·exact Ah A0 rfl rfl ⟨congrArg vb (decide_eq_false fun p=>B2v h (p.2.2.2 k h').2.1),trivial⟩
  ·rename_i hno
   have hN:Jm (g.nodes.getD k default):=of_decide_eq_true (show Ko (g.nodes.getD k default)=true by cases hq2:Ko (g.nodes.getD k default)<;>simp_all only [Bool.not_false,Bool.true_eq_false])
   have hK:(g.nodes.getD k default).kind=1↔k=0:=B2u h
   have hO:=hN.2.2.2.2.2.2.2.2
   refine B6 A0 false [] (fun j:Nat=>[(47,.c (vi j))]) (fun j=>[⟨0,[.c (Bb g.nodes),.c (vi g.workers),.c (vi g.cap)]⟩,⟨1,[.c (vi (g.nodes.getD k default).kind),.c (vi (g.nodes.getD k default).a),.c (vi (g.nodes.getD k default).b),.c (Eu (g.nodes.getD k default).outs)]⟩]) (fun j=>[])
    (fun j=>j≤(g.nodes.getD k default).outs.length∧J2 (fun j=>Ok g k (g.nodes.getD k default) ((g.nodes.getD k default).outs.getD j default)) j) (fun j=>(g.nodes.getD k default).outs.length-j) 0 ⟨Nat.zero_le _,by first|rfl|assumption|simp⟩ ⟨by first|rfl|simp [Cr,ren2,ren1,ren0],trivial⟩ Cp trivial Cc A5 (fun j hj=>?_)
   obtain ⟨hj,hej⟩:=hj
   conv=>whnf
   refine F2 (fun h2=>?_) fun h2=>?_<;>conv=>whnf
   ·have h2:j<(g.nodes.getD k default).outs.length:=by first|omega|(simp only [Int.toNat_natCast] at h2;omega)
    have hb:=hO _ (B2 (d:=default) h2)
    repeat' (first|(refine Ki ?_;conv=>whnf)|(refine Kj ?_;conv=>whnf)|(refine ⟨fun h=>?_,fun h=>?_⟩<;>conv=>whnf)|(refine Fe ?_;conv=>whnf)|fail)
    all_goals try (refine Ah A0 rfl rfl ⟨congrArg vb (decide_eq_false fun p=>?_),trivial⟩;have q:=(p.2.2.2 k h').2.2 _ (B2 (d:=default) h2);clear p hej he hv hu hN hK hO;simp only [Ok,T4] at q;simp only [beq_iff_eq,beq_eq_false_iff_ne,bne_iff_ne,bne_eq_false_iff_eq,Bool.not_eq_true',Bool.not_eq_false',Go.Sx.Am,Go.Sx.Aw,decide_eq_true_eq,decide_eq_false_iff_not,ne_eq,Int.not_lt,Int.not_le,ge_iff_le,gt_iff_lt,Int.toNat_zero,Int.toNat_one,Int.toNat_natCast] at * <;>omega)
    all_goals
     refine At [] (j+1) ⟨by omega,Dc hej (by clear hej he hv hu hN hK hO;simp only [Ok,T4];simp only [beq_iff_eq,beq_eq_false_iff_ne,bne_iff_ne,bne_eq_false_iff_eq,Bool.not_eq_true',Bool.not_eq_false',Go.Sx.Am,Go.Sx.Aw,decide_eq_true_eq,decide_eq_false_iff_not,ne_eq,Int.not_lt,Int.not_le,ge_iff_le,gt_iff_lt,Int.toNat_zero,Int.toNat_one,Int.toNat_natCast] at * <;>omega)⟩ Ad ⟨rfl,trivial⟩ trivial Cp A5 Cc A5
   ·have e:j=(g.nodes.getD k default).outs.length:=by first|omega|(simp only [Int.toNat_natCast] at h2;omega)
    (repeat refine An ?_)
    refine At [] (k+1) ⟨by omega,Dc he ⟨hN,hK,Gb (e▸hej)⟩⟩ Ad ⟨rfl,trivial⟩ trivial Cp A5 Cc A5
 ·have e:k=g.nodes.length:=by omega
  exact Ah A0 rfl rfl ⟨congrArg vb (decide_eq_true ⟨by simp only [beq_iff_eq,beq_eq_false_iff_ne,bne_iff_ne,bne_eq_false_iff_eq,Bool.not_eq_true',Bool.not_eq_false',Go.Sx.Am,Go.Sx.Aw,decide_eq_true_eq,decide_eq_false_iff_not,ne_eq,Int.not_lt,Int.not_le,ge_iff_le,gt_iff_lt,Int.toNat_zero,Int.toNat_one,Int.toNat_natCast] at * <;>omega,by simp only [beq_iff_eq,beq_eq_false_iff_ne,bne_iff_ne,bne_eq_false_iff_eq,Bool.not_eq_true',Bool.not_eq_false',Go.Sx.Am,Go.Sx.Aw,decide_eq_true_eq,decide_eq_false_iff_not,ne_eq,Int.not_lt,Int.not_le,ge_iff_le,gt_iff_lt,Int.toNat_zero,Int.toNat_one,Int.toNat_natCast] at * <;>omega,by simp only [beq_iff_eq,beq_eq_false_iff_ne,bne_iff_ne,bne_eq_false_iff_eq,Bool.not_eq_true',Bool.not_eq_false',Go.Sx.Am,Go.Sx.Aw,decide_eq_true_eq,decide_eq_false_iff_not,ne_eq,Int.not_lt,Int.not_le,ge_iff_le,gt_iff_lt,Int.toNat_zero,Int.toNat_one,Int.toNat_natCast] at * <;>omega,e▸he⟩),trivial⟩
end Go.Proofs.YtlbmkgkmbjadcaaGreat
