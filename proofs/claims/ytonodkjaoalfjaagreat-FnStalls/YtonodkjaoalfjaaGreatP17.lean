/- Part 17 of the proof that each of the laws FnStalls returns true for every input. No conditions. -/
import Derived.Test.YtonodkjaoalfjaaGreatP16
import Derived.Test.YtonodkjaoalfjaaGreatP12
import Derived.Test.YtonodkjaoalfjaaGreatP5

set_option linter.unusedSimpArgs false
set_option linter.unusedVariables false
set_option maxRecDepth 100000
namespace Go.Proofs.YtonodkjaoalfjaaGreat
open Go.Sx
theorem Q4 {α:Type} [Inhabited α] (f:α→Nat):∀(l:List α) (j:Nat) (x:α),j<l.length→((l.set j x).map f).sum+f (l.getD j default)=(l.map f).sum+f x
 | [],_,_,h=>absurd h (Nat.not_lt_zero _)
 |y::r,0,x,_=>by simp;omega
 |y::r,j+1,x,h=>by
  have:=Q4 f r j x (by simpa using h)
  simp only [List.set_cons_succ,List.map_cons,List.sum_cons,List.getD_cons_succ]
  omega
theorem J6 {c:A3}{j:Int}{w:Ab}(h:0≤j∧j<c.workers.length):(Av c j w).w+(A6 c j).w=c.w+w.w:=by
 have:=Q4 Ab.w c.workers j.toNat w Ac
 simp only [Av,A3.w,wS,List.length_set,A6]
 omega
theorem Xf {c:A3}{k:Int}{l:C2}(h:0≤k∧k<c.links.length):(B6 c k l).w+(An c k).w=c.w+l.w:=by
 have:=Q4 C2.w c.links k.toNat l Ac
 simp only [B6,A3.w,wS,List.length_set,An]
 omega
theorem Sa {c:A3}{e:Int}{t:Es}:(Cp c e t).w=c.w:=by simp only [Cp,A3.w,List.length_set]
theorem B5s {g:Ad}{w:Ab}:(Fk g w).1.w≤w.w+2:=by
 unfold Fk
 split
 ·rename_i h
  have h1:=A7k (g:=g) (cs:=w.cells) (r:=w.queue.getD 0 default)
  have h2:=A5d (g:=g) (cs:=w.cells) (r:=w.queue.getD 0 default)
  have h3:=h.2.2.2
  have h4:(if capped g (w.queue.getD 0 default)=true then w.caps.set (w.queue.getD 0 default).stamp.epoch.toNat true else w.caps).length=w.caps.length:=by split<;>simp
  simp only [Fx,Ab.w,List.length_drop,h4]
  omega
 ·simp
theorem A5i {g:Ad}{w:Ab}:(Dg g w).1.w≤w.w:=by
 unfold Dg
 split
 ·rename_i h
  have:=h.2.2.2.2
  simp only [Jz,Ab.w,List.length_append,List.length_singleton,List.length_drop]
  omega
 ·simp
theorem A7e {w:Ab}{e:Int}:(Cs w e).w=w.w:=by
 unfold Cs Ib
 split
 ·simp only [Ab.w,List.length_set]
 ·rfl
theorem A69 {w:Ab}{r:A5}:(Cj w r).w=w.w+1:=by
 unfold Cj N2 Ib kept
 split
 ·simp only [Ab.w,List.length_set,List.length_append,List.length_singleton];omega
 ·simp only [Ab.w,List.length_append,List.length_singleton];omega
theorem A7n {c:A3}{p:Bl}:(Ag c p).1.w≤c.w+4:=by
 have work:∀w,(Cr c w).1.w≤c.w+4:=fun w=>by
  unfold Cr
  split
  ·rename_i h
   have h1:=J6 (w:=(Fk c.graph (A6 c w)).1) h.2
   have h2:=B5s (g:=c.graph) (w:=A6 c w)
   simp only
   omega
  ·simp
 have input:∀w,(Cg c w).1.w≤c.w+4:=fun w=>by
  unfold Cg
  split
  ·rename_i h
   have h1:=J6 (w:=(Dg c.graph (A6 c w)).1) h.2
   have h2:=A5i (g:=c.graph) (w:=A6 c w)
   simp only
   omega
  ·simp
 have move:∀w,(C6 c w).1.w≤c.w+4:=fun w=>by
  unfold C6
  split
  ·rename_i h
   obtain ⟨hW,hs⟩:=h
   have hu:(Bt (A6 c w)).w+1=(A6 c w).w:=by simp only [Bt,Ab.w,List.length_drop];omega
   split
   ·have h1:=J6 (w:=kept (Bt (A6 c w)) (B7 c w)) hW.2
    have h2:(kept (Bt (A6 c w)) (B7 c w)).w=(Bt (A6 c w)).w+1:=by simp only [kept,Ab.w,List.length_append,List.length_singleton];omega
    simp only
    omega
   ·split
    ·have hb:0≤w∧w<c.graph.workers:=by have:=hW.1.1.2.1;exact ⟨hW.2.1,by have:=hW.2.2;omega⟩
     have h1:=Xf (l:=(Dn (An c (Ae c w (B8 c w))) (B7 c w)).1) (El hW.1 hb (Km hW hs)).1
     have h2:=J6 (c:=B6 c (Ae c w (B8 c w)) (Dn (An c (Ae c w (B8 c w))) (B7 c w)).1) (w:=Cs (Bt (A6 c w)) (B7 c w).stamp.epoch) hW.2
     have h3:(Dn (An c (Ae c w (B8 c w))) (B7 c w)).1.w≤(An c (Ae c w (B8 c w))).w+1:=by
      unfold Dn
      split
      ·simp [C2.w]
      ·simp
     have h4:(A6 (B6 c (Ae c w (B8 c w)) (Dn (An c (Ae c w (B8 c w))) (B7 c w)).1) w).w=(A6 c w).w:=rfl
     rw [A7e] at h2
     simp only
     omega
    ·simp
  ·simp
 have take:∀f t,(Cd c f t).1.w≤c.w+4:=fun f t=>by
  unfold Cd
  split
  ·rename_i h
   obtain ⟨hL,hk⟩:=h
   have ht:0≤t∧t<c.workers.length:=by have:=hL.1.1.2.1;have:=hL.2.2.2;omega
   have h1:=Xf (l:=(At (An c (Ae c f t))).1) (El hL.1 hL.2.2.1 hL.2.2.2).1
   have h2:=J6 (c:=B6 c (Ae c f t) (At (An c (Ae c f t))).1) (w:=Cj (A6 c t) (At (An c (Ae c f t))).2.1) ht
   have h3:(At (An c (Ae c f t))).1.w≤(An c (Ae c f t)).w:=by
    unfold At
    split
    ·simp [C2.w]
    ·simp
   have h4:(A6 (B6 c (Ae c f t) (At (An c (Ae c f t))).1) t).w=(A6 c t).w:=rfl
   rw [A69] at h2
   simp only
   omega
  ·simp
 have credit:∀f t,(Br c f t).1.w≤c.w+4:=fun f t=>by
  unfold Br
  split
  ·rename_i hL
   have h1:=Xf (l:=(Bn (An c (Ae c f t))).1) (El hL.1 hL.2.2.1 hL.2.2.2).1
   have h3:(Bn (An c (Ae c f t))).1.w=(An c (Ae c f t)).w:=by
    unfold Bn
    split<;>simp [C2.w]
   simp only
   omega
  ·simp
 have tok:∀e,(Bo c e).1.w≤c.w+4:=fun e=>by
  unfold Bo
  split
  ·rename_i hT
   obtain ⟨hC,he,hD,hP⟩:=hT
   have hTP:O7 c.graph.workers (A4 c e):=hC.2.2.2.1 _ (Aq (d:=default) (show e.toNat<c.tokens.length by have:=hC.1.2.2.2;omega))
   have hn1:=hC.1.1.2.1
   have hwl:=hC.1.2.1
   have hat:0≤(A4 c e).at_∧(A4 c e).at_<c.workers.length:=by have:=hTP.1;omega
   have hwh:(G8 (A6 c (A4 c e).at_) e).w=(A6 c (A4 c e).at_).w:=by simp only [G8,Ab.w,List.length_set]
   simp only
   split
   ·have h1:=J6 (c:=Cp c e ⟨true,(c.workers.length:Int)-1,0,false,(A6 c (A4 c e).at_).caps.getD e.toNat default⟩) (w:=G8 (A6 c (A4 c e).at_) e) hat
    rw [Sa,hwh] at h1
    have h2:(A6 (Cp c e ⟨true,(c.workers.length:Int)-1,0,false,(A6 c (A4 c e).at_).caps.getD e.toNat default⟩) (A4 c e).at_).w=(A6 c (A4 c e).at_).w:=rfl
    simp only
    omega
   ·split
    ·split
     ·have h1:=J6 (c:=Cp c e ⟨(A4 c e).going,(A4 c e).at_-1,(A4 c e).sum+(A6 c (A4 c e).at_).sums.getD e.toNat default,(A4 c e).black||(A6 c (A4 c e).at_).black.getD e.toNat default,(A4 c e).capped||(A6 c (A4 c e).at_).caps.getD e.toNat default⟩) (w:=G8 (A6 c (A4 c e).at_) e) hat
      rw [Sa,hwh] at h1
      have h2:(A6 (Cp c e ⟨(A4 c e).going,(A4 c e).at_-1,(A4 c e).sum+(A6 c (A4 c e).at_).sums.getD e.toNat default,(A4 c e).black||(A6 c (A4 c e).at_).black.getD e.toNat default,(A4 c e).capped||(A6 c (A4 c e).at_).caps.getD e.toNat default⟩) (A4 c e).at_).w=(A6 c (A4 c e).at_).w:=rfl
      simp only
      omega
     ·simp
    ·rename_i hg ha
     have hA:(A4 c e).at_=0:=by have:=hTP.1;omega
     unfold Gn
     split
     ·have h1:=J6 (c:=Cp c e ⟨false,(A4 c e).at_,(A4 c e).sum,(A4 c e).black,(A4 c e).capped⟩) (j:=0) (w:=Cx (A6 c (A4 c e).at_) ⟨e,(A4 c e).capped||(A6 c (A4 c e).at_).caps.getD e.toNat default⟩) (by have:(Cp c e ⟨false,(A4 c e).at_,(A4 c e).sum,(A4 c e).black,(A4 c e).capped⟩).workers.length=c.workers.length:=rfl;omega)
      rw [Sa] at h1
      have h2:(A6 (Cp c e ⟨false,(A4 c e).at_,(A4 c e).sum,(A4 c e).black,(A4 c e).capped⟩) 0).w=(A6 c (A4 c e).at_).w:=by rw [hA];rfl
      have h3:(Cx (A6 c (A4 c e).at_) ⟨e,(A4 c e).capped||(A6 c (A4 c e).at_).caps.getD e.toNat default⟩).w=(A6 c (A4 c e).at_).w+1:=by simp only [Cx,Ab.w,List.length_append,List.length_singleton];omega
      have h4:∀(x:A3) l,(I0 x l).w=x.w+l.length:=fun x l=>by simp only [I0,A3.w,List.length_append];omega
      rw [h4]
      have h5:(H1 e ((A4 c e).capped||(A6 c (A4 c e).at_).caps.getD e.toNat default) ((Cp c e ⟨false,(A4 c e).at_,(A4 c e).sum,(A4 c e).black,(A4 c e).capped⟩).workers.length-1)).length≤3:=by
       have:(Cp c e ⟨false,(A4 c e).at_,(A4 c e).sum,(A4 c e).black,(A4 c e).capped⟩).workers.length=c.workers.length:=rfl
       rw [this]
       simp only [H1,List.length_map,List.length_range]
       omega
      omega
     ·rw [Sa];omega
  ·simp
 have hear:∀w,(D4 c w).1.w≤c.w+4:=fun w=>by
  unfold D4
  split
  ·rename_i hn
   obtain ⟨m1,m2⟩:=Jk hn.1 hn.2
   have hN:=hn.1.2.2.2.2 _ m1
   have hw:0≤w∧w<c.workers.length:=by have:=hn.1.1.2.1;have:=hN.1;omega
   have h0:(Ih c w).w≤c.w:=by
    have:=List.length_eraseIdx_le c.news (Ej c w)
    simp only [Ih,A3.w]
    omega
   split
   ·simp only;omega
   ·have h1:=J6 (c:=Ih c w) (w:=Cx (A6 c w) ⟨(Dd c w).epoch,(Dd c w).capped⟩) hw
    have h2:(A6 (Ih c w) w).w=(A6 c w).w:=rfl
    have h3:(Cx (A6 c w) ⟨(Dd c w).epoch,(Dd c w).capped⟩).w=(A6 c w).w+1:=by simp only [Cx,Ab.w,List.length_append,List.length_singleton];omega
    simp only
    omega
  ·simp
 unfold Ag
 split
 ·exact work _
 split
 ·exact input _
 split
 ·exact move _
 split
 ·exact take _ _
 split
 ·exact credit _ _
 split
 ·exact tok _
 split
 ·exact hear _
 ·simp
def Ij (w f t:Int):Int:=if 0≤min f t∧max f t<w then IntKind.wrap .i64 (IntKind.wrap .i64 (f * w)+t) else-1
theorem B6u (g:Ad)(f t:Int)(hg:K9 .i64 g.workers):B0 Tryz.prog 73 [.agg g.c,.one (vi f),.one (vi t)] [.one (vi (Ij g.workers f t))]:=by
 have hw:g.workers≤9223372036854775807:=hg.2
 have hw1:1≤g.workers→IntKind.wrap .i64 (g.workers-1)=g.workers-1:=fun h=>Hz (by show _∧_;omega)
 refine Ay A0 true Tryz.func73 rfl Bu fun W=>?_
 conv=>whnf
 repeat' (first|(refine Ms ?_;conv=>whnf)|(refine Mt ?_;conv=>whnf)|(refine ⟨fun h=>?_,fun h=>?_⟩<;>conv=>whnf)|(refine Aw (Jo _ _ _) rfl (go A0 true ?_);conv=>whnf)|(refine Kf ?_;conv=>whnf)|fail)
 all_goals (refine Ao A0 rfl rfl ⟨congrArg vi ?_,trivial⟩;simp only [Bool.not_eq_true',Bool.not_eq_false',Go.Sx.Am,Go.Sx.Az,decide_eq_true_eq,decide_eq_false_iff_not] at *;unfold Ij)
 ·by_cases h1:1≤g.workers
  ·have h2:=hw1 h1;rw [if_neg Ac]
  ·rw [if_neg Ac]
 ·by_cases h1:1≤g.workers
  ·have h2:=hw1 h1;rw [if_neg Ac]
  ·rw [if_neg Ac]
 ·rw [if_neg Ac]
 ·have h2:=hw1 Ac;rw [if_pos Ac]
theorem Qb (g:Ad)(f t:Int):B0 Tryz.prog 71 [.agg g.c,.one (vi f),.one (vi t)] [.one (vi (Ij g.workers f t))]:=by
 refine Ay A0 true Tryz.func71 rfl Bu fun W=>?_
 conv=>whnf
 repeat' (first|(refine Ms ?_;conv=>whnf)|(refine Mt ?_;conv=>whnf)|(refine ⟨fun h=>?_,fun h=>?_⟩<;>conv=>whnf)|(refine Kf ?_;conv=>whnf)|fail)
 all_goals (refine Ao A0 rfl rfl ⟨congrArg vi ?_,trivial⟩;simp only [decide_eq_true_eq,decide_eq_false_iff_not] at *;unfold Ij)
 ·rw [if_neg Ac]
 ·rw [if_neg Ac]
 ·rw [if_pos Ac]
theorem C08 (key n:Int)(hn:n≤9223372036854775807):B0 Tryz.prog 72 [.one (vi key),.one (vi n)] [.one (vi (Cf key n))]:=by
 refine Ay A0 false Tryz.func72 rfl Bu fun W=>?_
 conv=>whnf
 refine G5 (fun h=>?_) fun h=>?_<;>conv=>whnf
 ·exact Ao A0 rfl rfl ⟨congrArg vi (by rw [Cf,if_pos h]),trivial⟩
 have h1:=Int.tmod_lt_of_pos key (show 0<n by omega)
 have h2:=Int.lt_tmod_of_pos key (show 0<n by omega)
 (repeat refine Ar ?_)
 refine G5 (fun h'=>?_) fun h'=>?_<;>conv=>whnf
 ·(repeat refine Ar ?_)
  exact Ao A0 rfl rfl ⟨congrArg vi (by rw [Cf,if_neg h,if_pos h']),trivial⟩
 ·exact Ao A0 rfl rfl ⟨congrArg vi (by rw [Cf,if_neg h,if_neg h']),trivial⟩
theorem Tw (key n:Int)(hn:n≤9223372036854775807):B0 Tryz.prog 58 [.one (vi key),.one (vi n)] [.one (vi (Cf key n))]:=by
 refine Ay A0 false Tryz.func58 rfl Bu fun W=>?_
 conv=>whnf
 refine G5 (fun h=>?_) fun h=>?_<;>conv=>whnf
 ·exact Ao A0 rfl rfl ⟨congrArg vi (by rw [Cf,if_pos h]),trivial⟩
 have h1:=Int.tmod_lt_of_pos key (show 0<n by omega)
 have h2:=Int.lt_tmod_of_pos key (show 0<n by omega)
 (repeat refine Ar ?_)
 refine G5 (fun h'=>?_) fun h'=>?_<;>conv=>whnf
 ·(repeat refine Ar ?_)
  exact Ao A0 rfl rfl ⟨congrArg vi (by rw [Cf,if_neg h,if_pos h']),trivial⟩
 ·exact Ao A0 rfl rfl ⟨congrArg vi (by rw [Cf,if_neg h,if_neg h']),trivial⟩
end Go.Proofs.YtonodkjaoalfjaaGreat
