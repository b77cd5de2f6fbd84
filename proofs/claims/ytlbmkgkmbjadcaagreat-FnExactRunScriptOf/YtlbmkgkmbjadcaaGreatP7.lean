/- Part 7 of the proof that each of the laws FnExactRunScriptOf, FnExactSpreadResult returns true for every input. No conditions. -/
import Derived.Test.YtlbmkgkmbjadcaaGreatP6

set_option linter.unusedSimpArgs false
set_option linter.unusedVariables false
set_option maxRecDepth 100000
namespace Go.Proofs.YtlbmkgkmbjadcaaGreat
open Go.Sx
theorem A3m (xs:List Int)(k:Int)(h0:0≤k)(h1:k+((xs.map E6).sum:Nat)≤4611686018427387904):
  I3 Tryz.prog 113 (.one (Eu xs)) (.one (Eu (B0 I2 E6 xs k))) [.one (vi k)] [.int .i64 (k+((xs.map E6).sum:Nat))]:=by
 have hl:xs.length≤4611686018427387904:=by have:=Dr E6 xs (fun x=>Nat.le_refl 1);omega
 refine J7 A0 false Tryz.func113 rfl Bs fun W may l=>?_
 conv=>whnf
 refine B6 A0 false [] (fun j:Nat=>[(1,.c (vi (k+(((xs.take j).map E6).sum:Nat)))),(5,.c (vi j))]) (fun _=>[]) (fun j=>[⟨0,Eu (Cq I2 E6 xs k j)⟩])
  (fun j=>j≤xs.length) (fun j=>xs.length-j) 0 (Nat.zero_le _) ⟨by simp [Cr,ren2,ren1,ren0],rfl,trivial⟩ trivial ⟨rfl,trivial⟩ ⟨rfl,trivial⟩ A5 (fun j hj=>?_)
 have hL:=Eb I2 E6 xs k j
 conv=>whnf
 refine ⟨fun h=>?_,fun h=>?_⟩<;>simp only [decide_eq_true_eq,decide_eq_false_iff_not] at h<;>conv=>whnf
 ·have h:j<xs.length:=by omega
  have g:=Gs I2 E6 xs k j default h
  have hle:=Bz E6 xs j h
  have hst:=F0 E6 xs j h
  generalize hy:xs.getD j default=y at g hle hst
  have hc:E6 y=1:=rfl
  (repeat refine Kc ?_)
  refine Bj (j:=(j:Int)) A0 rfl rfl rfl rfl rfl rfl rfl rfl _ (I9 (j:=j) (xs:=(Cq I2 E6 xs k j)) (e:=(fun n=>[vi n])) (x:=k+(((xs.take j).map E6).sum:Nat)) Ad g Gg) (Ae ?_)
  (repeat refine Kc ?_)
  refine At [] (j+1) Ad Ad ⟨?_,rfl,trivial⟩ ⟨?_,trivial⟩ trivial A5 ⟨rfl,trivial⟩ A5
  ·exact congrArg (fun n=>AV.c (vi n)) Ad
  ·have e:=Gt I2 E6 xs k j h
   rw [hy] at e
   exact congrArg (fun z=>Cb 1 (fun n=>[vi n]) z) e
 ·refine Sf A0 rfl ⟨?_,trivial⟩ rfl rfl ?_ ⟨rfl,trivial⟩
  ·exact congrArg (fun n=>AV.c (vi n)) (by rw [List.take_of_length_le Ad])
  ·exact congrArg (fun z=>Cb 1 (fun n=>[vi n]) z) (Gr _ _ _ _ _ Ad)
theorem A9n (xs:List Au)(k:Int)(h0:0≤k)(h1:k+((xs.map Au.cnt).sum:Nat)≤4611686018427387904):
  I3 Tryz.prog 70 (.one (Bb xs)) (.one (Bb (B0 Au.mark Au.cnt xs k))) [.one (vi k)] [.int .i64 (k+((xs.map Au.cnt).sum:Nat))]:=by
 have hl:xs.length≤4611686018427387904:=by have:=Dr Au.cnt xs (fun x=>by simp only [Au.cnt];omega);omega
 refine J7 A0 false Tryz.func70 rfl Bs fun W may l=>?_
 conv=>whnf
 refine B6 A0 false [] (fun j:Nat=>[(1,.c (vi (k+(((xs.take j).map Au.cnt).sum:Nat)))),(5,.c (vi j))]) (fun _=>[]) (fun j=>[⟨0,Bb (Cq Au.mark Au.cnt xs k j)⟩])
  (fun j=>j≤xs.length) (fun j=>xs.length-j) 0 (Nat.zero_le _) ⟨by simp [Cr,ren2,ren1,ren0],rfl,trivial⟩ trivial ⟨rfl,trivial⟩ ⟨rfl,trivial⟩ A5 (fun j hj=>?_)
 have hL:=Eb Au.mark Au.cnt xs k j
 conv=>whnf
 refine ⟨fun h=>?_,fun h=>?_⟩<;>simp only [decide_eq_true_eq,decide_eq_false_iff_not] at h<;>conv=>whnf
 ·have h:j<xs.length:=by omega
  have g:=Gs Au.mark Au.cnt xs k j default h
  have hle:=Bz Au.cnt xs j h
  have hst:=F0 Au.cnt xs j h
  generalize hy:xs.getD j default=y at g hle hst
  have hc:Au.cnt y=1+1+1+(y.outs.map E6).sum:=rfl
  (repeat refine Kc ?_)
  refine Bj (j:=(j:Int)) A0 rfl rfl rfl rfl rfl rfl rfl rfl _ (I9 (j:=j) (xs:=(Cq Au.mark Au.cnt xs k j)) (e:=Au.c) (x:=⟨k+(((xs.take j).map Au.cnt).sum:Nat),y.a,y.b,y.outs⟩) Ad g Gg) (Ae ?_)
  (repeat refine Kc ?_)
  refine Bj (j:=(j:Int)) A0 rfl rfl rfl rfl rfl rfl rfl rfl _ (D4 (j:=j) (xs:=(Cq Au.mark Au.cnt xs k j)) (e:=Au.c) (x2:=⟨k+(((xs.take j).map Au.cnt).sum:Nat),k+(((xs.take j).map Au.cnt).sum:Nat)+1,y.b,y.outs⟩) Ad Gg) (Ae ?_)
  (repeat refine Kc ?_)
  refine Bj (j:=(j:Int)) A0 rfl rfl rfl rfl rfl rfl rfl rfl _ (D4 (j:=j) (xs:=(Cq Au.mark Au.cnt xs k j)) (e:=Au.c) (x2:=⟨k+(((xs.take j).map Au.cnt).sum:Nat),k+(((xs.take j).map Au.cnt).sum:Nat)+1,k+(((xs.take j).map Au.cnt).sum:Nat)+1+1,y.outs⟩) Ad Gg) (Ae ?_)
  (repeat refine Kc ?_)
  refine Mj (j:=j) (off:=3) (r:=Au.c (⟨k+(((xs.take j).map Au.cnt).sum:Nat),k+(((xs.take j).map Au.cnt).sum:Nat)+1,k+(((xs.take j).map Au.cnt).sum:Nat)+1+1,y.outs⟩)) (c:=Eu y.outs) A0 rfl rfl rfl rfl rfl rfl ?_ rfl (fun v=>go A0 false ?_)
  ·exact congrArg Au.c (getD_set_self _ _ _ _ Ad)
  conv=>whnf
  refine H7 (A3m y.outs (k+(((xs.take j).map Au.cnt).sum:Nat)+1+1+1) Ad Ad) rfl trivial rfl rfl rfl ?_
  refine Ia (j:=j) 0 1 3 rfl Y6 rfl rfl rfl rfl (Hx (j:=j) (xs:=(Cq Au.mark Au.cnt xs k j)) (e:=Au.c) (x2:=⟨k+(((xs.take j).map Au.cnt).sum:Nat),k+(((xs.take j).map Au.cnt).sum:Nat)+1,k+(((xs.take j).map Au.cnt).sum:Nat)+1+1,B0 I2 E6 y.outs (k+(((xs.take j).map Au.cnt).sum:Nat)+1+1+1)⟩) Ad Gg) (Ae ?_)
  (repeat refine Kc ?_)
  refine At [] (j+1) Ad Ad ⟨?_,rfl,trivial⟩ ⟨?_,trivial⟩ trivial A5 ⟨rfl,trivial⟩ A5
  ·exact congrArg (fun n=>AV.c (vi n)) Ad
  ·have e:=Gt Au.mark Au.cnt xs k j h
   rw [hy] at e
   exact congrArg (fun z=>Cb 4 Au.c z) e
 ·refine Sf A0 rfl ⟨?_,trivial⟩ rfl rfl ?_ ⟨rfl,trivial⟩
  ·exact congrArg (fun n=>AV.c (vi n)) (by rw [List.take_of_length_le Ad])
  ·exact congrArg (fun z=>Cb 4 Au.c z) (Gr _ _ _ _ _ Ad)
theorem T9 (x:Ar)(k:Int)(h0:0≤k)(h1:k+(x.cntV:Nat)≤4611686018427387904):
  I3 Tryz.prog 27 (.agg x.c) (.agg (x.markV k).c) [.one (vi k)] [.int .i64 (k+(x.cntV:Nat))]:=by
 have hc:x.cntV=(x.nodes.map Au.cnt).sum:=rfl
 refine J7 A0 false Tryz.func27 rfl Bs fun W may l=>?_
 conv=>whnf
 refine H7 (A9n x.nodes (k) Ad Ad) rfl trivial rfl rfl rfl (Ae ?_)
 refine Sf A0 rfl ⟨?_,trivial⟩ rfl rfl A2f A2f
 exact congrArg (fun n=>AV.c (vi n)) Ad
theorem Iq (xs:List A3)(k:Int)(h0:0≤k)(h1:k+((xs.map A3.cnt).sum:Nat)≤4611686018427387904):
  I3 Tryz.prog 28 (.one (A9 xs)) (.one (A9 (B0 A3.mark A3.cnt xs k))) [.one (vi k)] [.int .i64 (k+((xs.map A3.cnt).sum:Nat))]:=by
 have hl:xs.length≤4611686018427387904:=by have:=Dr A3.cnt xs (fun x=>by simp only [A3.cnt];omega);omega
 refine J7 A0 false Tryz.func28 rfl Bs fun W may l=>?_
 conv=>whnf
 refine B6 A0 false [] (fun j:Nat=>[(1,.c (vi (k+(((xs.take j).map A3.cnt).sum:Nat)))),(5,.c (vi j))]) (fun _=>[]) (fun j=>[⟨0,A9 (Cq A3.mark A3.cnt xs k j)⟩])
  (fun j=>j≤xs.length) (fun j=>xs.length-j) 0 (Nat.zero_le _) ⟨by simp [Cr,ren2,ren1,ren0],rfl,trivial⟩ trivial ⟨rfl,trivial⟩ ⟨rfl,trivial⟩ A5 (fun j hj=>?_)
 have hL:=Eb A3.mark A3.cnt xs k j
 conv=>whnf
 refine ⟨fun h=>?_,fun h=>?_⟩<;>simp only [decide_eq_true_eq,decide_eq_false_iff_not] at h<;>conv=>whnf
 ·have h:j<xs.length:=by omega
  have g:=Gs A3.mark A3.cnt xs k j default h
  have hle:=Bz A3.cnt xs j h
  have hst:=F0 A3.cnt xs j h
  generalize hy:xs.getD j default=y at g hle hst
  have hc:A3.cnt y=1+1+1+1+1:=rfl
  (repeat refine Kc ?_)
  refine Bj (j:=(j:Int)) A0 rfl rfl rfl rfl rfl rfl rfl rfl _ (I9 (j:=j) (xs:=(Cq A3.mark A3.cnt xs k j)) (e:=A3.c) (x:=⟨k+(((xs.take j).map A3.cnt).sum:Nat),⟨y.stamp.epoch,y.stamp.turn⟩,y.key,y.val⟩) Ad g Gg) (Ae ?_)
  (repeat refine Kc ?_)
  refine Bj (j:=(j:Int)) A0 rfl rfl rfl rfl rfl rfl rfl rfl _ (D4 (j:=j) (xs:=(Cq A3.mark A3.cnt xs k j)) (e:=A3.c) (x2:=⟨k+(((xs.take j).map A3.cnt).sum:Nat),⟨k+(((xs.take j).map A3.cnt).sum:Nat)+1,y.stamp.turn⟩,y.key,y.val⟩) Ad Gg) (Ae ?_)
  (repeat refine Kc ?_)
  refine Bj (j:=(j:Int)) A0 rfl rfl rfl rfl rfl rfl rfl rfl _ (D4 (j:=j) (xs:=(Cq A3.mark A3.cnt xs k j)) (e:=A3.c) (x2:=⟨k+(((xs.take j).map A3.cnt).sum:Nat),⟨k+(((xs.take j).map A3.cnt).sum:Nat)+1,k+(((xs.take j).map A3.cnt).sum:Nat)+1+1⟩,y.key,y.val⟩) Ad Gg) (Ae ?_)
  (repeat refine Kc ?_)
  refine Bj (j:=(j:Int)) A0 rfl rfl rfl rfl rfl rfl rfl rfl _ (D4 (j:=j) (xs:=(Cq A3.mark A3.cnt xs k j)) (e:=A3.c) (x2:=⟨k+(((xs.take j).map A3.cnt).sum:Nat),⟨k+(((xs.take j).map A3.cnt).sum:Nat)+1,k+(((xs.take j).map A3.cnt).sum:Nat)+1+1⟩,k+(((xs.take j).map A3.cnt).sum:Nat)+1+1+1,y.val⟩) Ad Gg) (Ae ?_)
  (repeat refine Kc ?_)
  refine Bj (j:=(j:Int)) A0 rfl rfl rfl rfl rfl rfl rfl rfl _ (D4 (j:=j) (xs:=(Cq A3.mark A3.cnt xs k j)) (e:=A3.c) (x2:=⟨k+(((xs.take j).map A3.cnt).sum:Nat),⟨k+(((xs.take j).map A3.cnt).sum:Nat)+1,k+(((xs.take j).map A3.cnt).sum:Nat)+1+1⟩,k+(((xs.take j).map A3.cnt).sum:Nat)+1+1+1,k+(((xs.take j).map A3.cnt).sum:Nat)+1+1+1+1⟩) Ad Gg) (Ae ?_)
  (repeat refine Kc ?_)
  refine At [] (j+1) Ad Ad ⟨?_,rfl,trivial⟩ ⟨?_,trivial⟩ trivial A5 ⟨rfl,trivial⟩ A5
  ·exact congrArg (fun n=>AV.c (vi n)) Ad
  ·have e:=Gt A3.mark A3.cnt xs k j h
   rw [hy] at e
   exact congrArg (fun z=>Cb 5 A3.c z) e
 ·refine Sf A0 rfl ⟨?_,trivial⟩ rfl rfl ?_ ⟨rfl,trivial⟩
  ·exact congrArg (fun n=>AV.c (vi n)) (by rw [List.take_of_length_le Ad])
  ·exact congrArg (fun z=>Cb 5 A3.c z) (Gr _ _ _ _ _ Ad)
theorem A9o (xs:List Bo)(k:Int)(h0:0≤k)(h1:k+((xs.map Bo.cnt).sum:Nat)≤4611686018427387904):
  I3 Tryz.prog 48 (.one (D5 xs)) (.one (D5 (B0 Bo.mark Bo.cnt xs k))) [.one (vi k)] [.int .i64 (k+((xs.map Bo.cnt).sum:Nat))]:=by
 have hl:xs.length≤4611686018427387904:=by have:=Dr Bo.cnt xs (fun x=>by simp only [Bo.cnt];omega);omega
 refine J7 A0 false Tryz.func48 rfl Bs fun W may l=>?_
 conv=>whnf
 refine B6 A0 false [] (fun j:Nat=>[(1,.c (vi (k+(((xs.take j).map Bo.cnt).sum:Nat)))),(5,.c (vi j))]) (fun _=>[]) (fun j=>[⟨0,D5 (Cq Bo.mark Bo.cnt xs k j)⟩])
  (fun j=>j≤xs.length) (fun j=>xs.length-j) 0 (Nat.zero_le _) ⟨by simp [Cr,ren2,ren1,ren0],rfl,trivial⟩ trivial ⟨rfl,trivial⟩ ⟨rfl,trivial⟩ A5 (fun j hj=>?_)
 have hL:=Eb Bo.mark Bo.cnt xs k j
 conv=>whnf
 refine ⟨fun h=>?_,fun h=>?_⟩<;>simp only [decide_eq_true_eq,decide_eq_false_iff_not] at h<;>conv=>whnf
 ·have h:j<xs.length:=by omega
  have g:=Gs Bo.mark Bo.cnt xs k j default h
  have hle:=Bz Bo.cnt xs j h
  have hst:=F0 Bo.cnt xs j h
  generalize hy:xs.getD j default=y at g hle hst
  have hc:Bo.cnt y=1+1+1:=rfl
  (repeat refine Kc ?_)
  refine Bj (j:=(j:Int)) A0 rfl rfl rfl rfl rfl rfl rfl rfl _ (I9 (j:=j) (xs:=(Cq Bo.mark Bo.cnt xs k j)) (e:=Bo.c) (x:=⟨k+(((xs.take j).map Bo.cnt).sum:Nat),y.a,y.b⟩) Ad g Gg) (Ae ?_)
  (repeat refine Kc ?_)
  refine Bj (j:=(j:Int)) A0 rfl rfl rfl rfl rfl rfl rfl rfl _ (D4 (j:=j) (xs:=(Cq Bo.mark Bo.cnt xs k j)) (e:=Bo.c) (x2:=⟨k+(((xs.take j).map Bo.cnt).sum:Nat),k+(((xs.take j).map Bo.cnt).sum:Nat)+1,y.b⟩) Ad Gg) (Ae ?_)
  (repeat refine Kc ?_)
  refine Bj (j:=(j:Int)) A0 rfl rfl rfl rfl rfl rfl rfl rfl _ (D4 (j:=j) (xs:=(Cq Bo.mark Bo.cnt xs k j)) (e:=Bo.c) (x2:=⟨k+(((xs.take j).map Bo.cnt).sum:Nat),k+(((xs.take j).map Bo.cnt).sum:Nat)+1,k+(((xs.take j).map Bo.cnt).sum:Nat)+1+1⟩) Ad Gg) (Ae ?_)
  (repeat refine Kc ?_)
  refine At [] (j+1) Ad Ad ⟨?_,rfl,trivial⟩ ⟨?_,trivial⟩ trivial A5 ⟨rfl,trivial⟩ A5
  ·exact congrArg (fun n=>AV.c (vi n)) Ad
  ·have e:=Gt Bo.mark Bo.cnt xs k j h
   rw [hy] at e
   exact congrArg (fun z=>Cb 3 Bo.c z) e
 ·refine Sf A0 rfl ⟨?_,trivial⟩ rfl rfl ?_ ⟨rfl,trivial⟩
  ·exact congrArg (fun n=>AV.c (vi n)) (by rw [List.take_of_length_le Ad])
  ·exact congrArg (fun z=>Cb 3 Bo.c z) (Gr _ _ _ _ _ Ad)
theorem A5t (x:D9)(k:Int)(h0:0≤k)(h1:k+(x.cntV:Nat)≤4611686018427387904):
  I3 Tryz.prog 13 (.agg x.c) (.agg (x.markV k).c) [.one (vi k)] [.int .i64 (k+(x.cntV:Nat))]:=by
 have hc:x.cntV=x.graph.cntV+(x.inputs.map A3.cnt).sum+(x.picks.map Bo.cnt).sum:=rfl
 refine J7 A0 false Tryz.func13 rfl Bs fun W may l=>?_
 conv=>whnf
 refine H7 (x:= .agg (Ar.c x.graph)) (y:= .agg (Ar.c (x.graph.markV (k)))) (T9 x.graph (k) Ad Ad) A2f (by repeat (first|exact trivial|refine ⟨trivial,?_⟩)) rfl rfl rfl (Iy ?_)
 conv=>whnf
 refine H7 (Iq x.inputs (k+(x.graph.cntV:Nat)) Ad Ad) rfl trivial rfl rfl rfl (Ae ?_)
 refine H7 (A9o x.picks (k+(x.graph.cntV:Nat)+((x.inputs.map A3.cnt).sum:Nat)) Ad Ad) rfl trivial rfl rfl rfl (Ae ?_)
 refine Sf A0 rfl ⟨?_,trivial⟩ rfl rfl A2f A2f
 exact congrArg (fun n=>AV.c (vi n)) Ad
theorem Zj (xs:List Aa)(k:Int)(h0:0≤k)(h1:k+((xs.map Aa.cnt).sum:Nat)≤4611686018427387904):
  I3 Tryz.prog 29 (.one (Ao xs)) (.one (Ao (B0 Aa.mark Aa.cnt xs k))) [.one (vi k)] [.int .i64 (k+((xs.map Aa.cnt).sum:Nat))]:=by
 have hl:xs.length≤4611686018427387904:=by have:=Dr Aa.cnt xs (fun x=>by simp only [Aa.cnt];omega);omega
 refine J7 A0 false Tryz.func29 rfl Bs fun W may l=>?_
 conv=>whnf
 refine B6 A0 false [] (fun j:Nat=>[(1,.c (vi (k+(((xs.take j).map Aa.cnt).sum:Nat)))),(5,.c (vi j))]) (fun _=>[]) (fun j=>[⟨0,Ao (Cq Aa.mark Aa.cnt xs k j)⟩])
  (fun j=>j≤xs.length) (fun j=>xs.length-j) 0 (Nat.zero_le _) ⟨by simp [Cr,ren2,ren1,ren0],rfl,trivial⟩ trivial ⟨rfl,trivial⟩ ⟨rfl,trivial⟩ A5 (fun j hj=>?_)
 have hL:=Eb Aa.mark Aa.cnt xs k j
 conv=>whnf
 refine ⟨fun h=>?_,fun h=>?_⟩<;>simp only [decide_eq_true_eq,decide_eq_false_iff_not] at h<;>conv=>whnf
 ·have h:j<xs.length:=by omega
  have g:=Gs Aa.mark Aa.cnt xs k j default h
  have hle:=Bz Aa.cnt xs j h
  have hst:=F0 Aa.cnt xs j h
  generalize hy:xs.getD j default=y at g hle hst
  have hc:Aa.cnt y=1+1+1+1:=rfl
  (repeat refine Kc ?_)
  refine Bj (j:=(j:Int)) A0 rfl rfl rfl rfl rfl rfl rfl rfl _ (I9 (j:=j) (xs:=(Cq Aa.mark Aa.cnt xs k j)) (e:=Aa.c) (x:=⟨k+(((xs.take j).map Aa.cnt).sum:Nat),y.epoch,y.key,y.val⟩) Ad g Gg) (Ae ?_)
  (repeat refine Kc ?_)
  refine Bj (j:=(j:Int)) A0 rfl rfl rfl rfl rfl rfl rfl rfl _ (D4 (j:=j) (xs:=(Cq Aa.mark Aa.cnt xs k j)) (e:=Aa.c) (x2:=⟨k+(((xs.take j).map Aa.cnt).sum:Nat),k+(((xs.take j).map Aa.cnt).sum:Nat)+1,y.key,y.val⟩) Ad Gg) (Ae ?_)
  (repeat refine Kc ?_)
  refine Bj (j:=(j:Int)) A0 rfl rfl rfl rfl rfl rfl rfl rfl _ (D4 (j:=j) (xs:=(Cq Aa.mark Aa.cnt xs k j)) (e:=Aa.c) (x2:=⟨k+(((xs.take j).map Aa.cnt).sum:Nat),k+(((xs.take j).map Aa.cnt).sum:Nat)+1,k+(((xs.take j).map Aa.cnt).sum:Nat)+1+1,y.val⟩) Ad Gg) (Ae ?_)
  (repeat refine Kc ?_)
  refine Bj (j:=(j:Int)) A0 rfl rfl rfl rfl rfl rfl rfl rfl _ (D4 (j:=j) (xs:=(Cq Aa.mark Aa.cnt xs k j)) (e:=Aa.c) (x2:=⟨k+(((xs.take j).map Aa.cnt).sum:Nat),k+(((xs.take j).map Aa.cnt).sum:Nat)+1,k+(((xs.take j).map Aa.cnt).sum:Nat)+1+1,k+(((xs.take j).map Aa.cnt).sum:Nat)+1+1+1⟩) Ad Gg) (Ae ?_)
  (repeat refine Kc ?_)
  refine At [] (j+1) Ad Ad ⟨?_,rfl,trivial⟩ ⟨?_,trivial⟩ trivial A5 ⟨rfl,trivial⟩ A5
  ·exact congrArg (fun n=>AV.c (vi n)) Ad
  ·have e:=Gt Aa.mark Aa.cnt xs k j h
   rw [hy] at e
   exact congrArg (fun z=>Cb 4 Aa.c z) e
 ·refine Sf A0 rfl ⟨?_,trivial⟩ rfl rfl ?_ ⟨rfl,trivial⟩
  ·exact congrArg (fun n=>AV.c (vi n)) (by rw [List.take_of_length_le Ad])
  ·exact congrArg (fun z=>Cb 4 Aa.c z) (Gr _ _ _ _ _ Ad)
theorem T8 (xs:List Bool)(k:Int)(h0:0≤k)(h1:k+((xs.map Ed).sum:Nat)≤4611686018427387904):
  I3 Tryz.prog 15 (.one (Cx xs)) (.one (Cx (B0 Hz Ed xs k))) [.one (vi k)] [.int .i64 (k+((xs.map Ed).sum:Nat))]:=by
 have hl:xs.length≤4611686018427387904:=by have:=Dr Ed xs (fun x=>Nat.le_refl 1);omega
 refine J7 A0 false Tryz.func15 rfl Bs fun W may l=>?_
 conv=>whnf
 refine B6 A0 false [] (fun j:Nat=>[(1,.c (vi (k+(((xs.take j).map Ed).sum:Nat)))),(5,.c (vi j))]) (fun _=>[]) (fun j=>[⟨0,Cx (Cq Hz Ed xs k j)⟩])
  (fun j=>j≤xs.length) (fun j=>xs.length-j) 0 (Nat.zero_le _) ⟨by simp [Cr,ren2,ren1,ren0],rfl,trivial⟩ trivial ⟨rfl,trivial⟩ ⟨rfl,trivial⟩ A5 (fun j hj=>?_)
 have hL:=Eb Hz Ed xs k j
 conv=>whnf
 refine ⟨fun h=>?_,fun h=>?_⟩<;>simp only [decide_eq_true_eq,decide_eq_false_iff_not] at h<;>conv=>whnf
 ·have h:j<xs.length:=by omega
  have g:=Gs Hz Ed xs k j default h
  have hle:=Bz Ed xs j h
  have hst:=F0 Ed xs j h
  generalize hy:xs.getD j default=y at g hle hst
  have hc:Ed y=1:=rfl
  (repeat refine Kc ?_)
  refine Bj (j:=(j:Int)) A0 rfl rfl rfl rfl rfl rfl rfl rfl _ (I9 (j:=j) (xs:=(Cq Hz Ed xs k j)) (e:=(fun b=>[vb b])) (x:=(k+(((xs.take j).map Ed).sum:Nat)).tmod 3==0) Ad g Gg) (Ae ?_)
  (repeat refine Kc ?_)
  refine At [] (j+1) Ad Ad ⟨?_,rfl,trivial⟩ ⟨?_,trivial⟩ trivial A5 ⟨rfl,trivial⟩ A5
  ·exact congrArg (fun n=>AV.c (vi n)) Ad
  ·have e:=Gt Hz Ed xs k j h
   rw [hy] at e
   exact congrArg (fun z=>Cb 1 (fun b=>[vb b]) z) e
 ·refine Sf A0 rfl ⟨?_,trivial⟩ rfl rfl ?_ ⟨rfl,trivial⟩
  ·exact congrArg (fun n=>AV.c (vi n)) (by rw [List.take_of_length_le Ad])
  ·exact congrArg (fun z=>Cb 1 (fun b=>[vb b]) z) (Gr _ _ _ _ _ Ad)
theorem A9k (xs:List Bp)(k:Int)(h0:0≤k)(h1:k+((xs.map Bp.cnt).sum:Nat)≤4611686018427387904):
  I3 Tryz.prog 114 (.one (Er xs)) (.one (Er (B0 Bp.mark Bp.cnt xs k))) [.one (vi k)] [.int .i64 (k+((xs.map Bp.cnt).sum:Nat))]:=by
 have hl:xs.length≤4611686018427387904:=by have:=Dr Bp.cnt xs (fun x=>by simp only [Bp.cnt];omega);omega
 refine J7 A0 false Tryz.func114 rfl Bs fun W may l=>?_
 conv=>whnf
 refine B6 A0 false [] (fun j:Nat=>[(1,.c (vi (k+(((xs.take j).map Bp.cnt).sum:Nat)))),(5,.c (vi j))]) (fun _=>[]) (fun j=>[⟨0,Er (Cq Bp.mark Bp.cnt xs k j)⟩])
  (fun j=>j≤xs.length) (fun j=>xs.length-j) 0 (Nat.zero_le _) ⟨by simp [Cr,ren2,ren1,ren0],rfl,trivial⟩ trivial ⟨rfl,trivial⟩ ⟨rfl,trivial⟩ A5 (fun j hj=>?_)
 have hL:=Eb Bp.mark Bp.cnt xs k j
 conv=>whnf
 refine ⟨fun h=>?_,fun h=>?_⟩<;>simp only [decide_eq_true_eq,decide_eq_false_iff_not] at h<;>conv=>whnf
 ·have h:j<xs.length:=by omega
  have g:=Gs Bp.mark Bp.cnt xs k j default h
  have hle:=Bz Bp.cnt xs j h
  have hst:=F0 Bp.cnt xs j h
  generalize hy:xs.getD j default=y at g hle hst
  have hc:Bp.cnt y=1+1:=rfl
  (repeat refine Kc ?_)
  refine Bj (j:=(j:Int)) A0 rfl rfl rfl rfl rfl rfl rfl rfl _ (I9 (j:=j) (xs:=(Cq Bp.mark Bp.cnt xs k j)) (e:=Bp.c) (x:=⟨k+(((xs.take j).map Bp.cnt).sum:Nat),y.capped⟩) Ad g Gg) (Ae ?_)
  (repeat refine Kc ?_)
  refine Bj (j:=(j:Int)) A0 rfl rfl rfl rfl rfl rfl rfl rfl _ (D4 (j:=j) (xs:=(Cq Bp.mark Bp.cnt xs k j)) (e:=Bp.c) (x2:=⟨k+(((xs.take j).map Bp.cnt).sum:Nat),(k+(((xs.take j).map Bp.cnt).sum:Nat)+1).tmod 3==0⟩) Ad Gg) (Ae ?_)
  (repeat refine Kc ?_)
  refine At [] (j+1) Ad Ad ⟨?_,rfl,trivial⟩ ⟨?_,trivial⟩ trivial A5 ⟨rfl,trivial⟩ A5
  ·exact congrArg (fun n=>AV.c (vi n)) Ad
  ·have e:=Gt Bp.mark Bp.cnt xs k j h
   rw [hy] at e
   exact congrArg (fun z=>Cb 2 Bp.c z) e
 ·refine Sf A0 rfl ⟨?_,trivial⟩ rfl rfl ?_ ⟨rfl,trivial⟩
  ·exact congrArg (fun n=>AV.c (vi n)) (by rw [List.take_of_length_le Ad])
  ·exact congrArg (fun z=>Cb 2 Bp.c z) (Gr _ _ _ _ _ Ad)
theorem A3o (xs:List A6)(k:Int)(hl:xs.length≤4611686018427387904)(h0:0≤k)(h1:k+((xs.map A6.cnt).sum:Nat)≤4611686018427387904):
  I3 Tryz.prog 49 (.one (Ap xs)) (.one (Ap (B0 A6.mark A6.cnt xs k))) [.one (vi k)] [.int .i64 (k+((xs.map A6.cnt).sum:Nat))]:=by
 refine J7 A0 false Tryz.func49 rfl Bs fun W may l=>?_
 conv=>whnf
 refine B6 A0 false [] (fun j:Nat=>[(1,.c (vi (k+(((xs.take j).map A6.cnt).sum:Nat)))),(5,.c (vi j))]) (fun _=>[]) (fun j=>[⟨0,Ap (Cq A6.mark A6.cnt xs k j)⟩])
  (fun j=>j≤xs.length) (fun j=>xs.length-j) 0 (Nat.zero_le _) ⟨by simp [Cr,ren2,ren1,ren0],rfl,trivial⟩ trivial ⟨rfl,trivial⟩ ⟨rfl,trivial⟩ A5 (fun j hj=>?_)
 have hL:=Eb A6.mark A6.cnt xs k j
 conv=>whnf
 refine ⟨fun h=>?_,fun h=>?_⟩<;>simp only [decide_eq_true_eq,decide_eq_false_iff_not] at h<;>conv=>whnf
 ·have h:j<xs.length:=by omega
  have g:=Gs A6.mark A6.cnt xs k j default h
  have hle:=Bz A6.cnt xs j h
  have hst:=F0 A6.cnt xs j h
  generalize hy:xs.getD j default=y at g hle hst
  have hc:A6.cnt y=(y.queue.map A3.cnt).sum+(y.staged.map A3.cnt).sum+(y.inputs.map A3.cnt).sum+(y.cells.map Aa.cnt).sum+(y.sums.map E6).sum+(y.black.map Ed).sum+(y.caps.map Ed).sum+(y.dones.map Bp.cnt).sum:=rfl
  (repeat refine Kc ?_)
  refine Mj (j:=j) (off:=0) (r:=A6.c (⟨y.queue,y.staged,y.inputs,y.cells,y.sums,y.black,y.caps,y.dones⟩)) (c:=A9 y.queue) A0 rfl rfl rfl rfl rfl rfl ?_ rfl (fun v=>go A0 false ?_)
  ·exact congrArg A6.c g
  conv=>whnf
  refine H7 (Iq y.queue (k+(((xs.take j).map A6.cnt).sum:Nat)) Ad Ad) rfl trivial rfl rfl rfl ?_
  refine Ia (j:=j) 0 1 0 rfl Y6 rfl rfl rfl rfl (Fj (j:=j) (xs:=(Cq A6.mark A6.cnt xs k j)) (e:=A6.c) (x2:=⟨B0 A3.mark A3.cnt y.queue (k+(((xs.take j).map A6.cnt).sum:Nat)),y.staged,y.inputs,y.cells,y.sums,y.black,y.caps,y.dones⟩) Ad Gg) (Ae ?_)
  (repeat refine Kc ?_)
  refine Mj (j:=j) (off:=1) (r:=A6.c (⟨B0 A3.mark A3.cnt y.queue (k+(((xs.take j).map A6.cnt).sum:Nat)),y.staged,y.inputs,y.cells,y.sums,y.black,y.caps,y.dones⟩)) (c:=A9 y.staged) A0 rfl rfl rfl rfl rfl rfl ?_ rfl (fun v=>go A0 false ?_)
  ·exact congrArg A6.c (getD_set_self _ _ _ _ Ad)
  conv=>whnf
  refine H7 (Iq y.staged (k+(((xs.take j).map A6.cnt).sum:Nat)+((y.queue.map A3.cnt).sum:Nat)) Ad Ad) rfl trivial rfl rfl rfl ?_
  refine Ia (j:=j) 0 2 1 rfl Y6 rfl rfl rfl rfl (Hx (j:=j) (xs:=(Cq A6.mark A6.cnt xs k j)) (e:=A6.c) (x2:=⟨B0 A3.mark A3.cnt y.queue (k+(((xs.take j).map A6.cnt).sum:Nat)),B0 A3.mark A3.cnt y.staged (k+(((xs.take j).map A6.cnt).sum:Nat)+((y.queue.map A3.cnt).sum:Nat)),y.inputs,y.cells,y.sums,y.black,y.caps,y.dones⟩) Ad Gg) (Ae ?_)
  (repeat refine Kc ?_)
  refine Mj (j:=j) (off:=2) (r:=A6.c (⟨B0 A3.mark A3.cnt y.queue (k+(((xs.take j).map A6.cnt).sum:Nat)),B0 A3.mark A3.cnt y.staged (k+(((xs.take j).map A6.cnt).sum:Nat)+((y.queue.map A3.cnt).sum:Nat)),y.inputs,y.cells,y.sums,y.black,y.caps,y.dones⟩)) (c:=A9 y.inputs) A0 rfl rfl rfl rfl rfl rfl ?_ rfl (fun v=>go A0 false ?_)
  ·exact congrArg A6.c (getD_set_self _ _ _ _ Ad)
  conv=>whnf
  refine H7 (Iq y.inputs (k+(((xs.take j).map A6.cnt).sum:Nat)+((y.queue.map A3.cnt).sum:Nat)+((y.staged.map A3.cnt).sum:Nat)) Ad Ad) rfl trivial rfl rfl rfl ?_
  refine Ia (j:=j) 0 3 2 rfl Y6 rfl rfl rfl rfl (Hx (j:=j) (xs:=(Cq A6.mark A6.cnt xs k j)) (e:=A6.c) (x2:=⟨B0 A3.mark A3.cnt y.queue (k+(((xs.take j).map A6.cnt).sum:Nat)),B0 A3.mark A3.cnt y.staged (k+(((xs.take j).map A6.cnt).sum:Nat)+((y.queue.map A3.cnt).sum:Nat)),B0 A3.mark A3.cnt y.inputs (k+(((xs.take j).map A6.cnt).sum:Nat)+((y.queue.map A3.cnt).sum:Nat)+((y.staged.map A3.cnt).sum:Nat)),y.cells,y.sums,y.black,y.caps,y.dones⟩) Ad Gg) (Ae ?_)
  (repeat refine Kc ?_)
  refine Mj (j:=j) (off:=3) (r:=A6.c (⟨B0 A3.mark A3.cnt y.queue (k+(((xs.take j).map A6.cnt).sum:Nat)),B0 A3.mark A3.cnt y.staged (k+(((xs.take j).map A6.cnt).sum:Nat)+((y.queue.map A3.cnt).sum:Nat)),B0 A3.mark A3.cnt y.inputs (k+(((xs.take j).map A6.cnt).sum:Nat)+((y.queue.map A3.cnt).sum:Nat)+((y.staged.map A3.cnt).sum:Nat)),y.cells,y.sums,y.black,y.caps,y.dones⟩)) (c:=Ao y.cells) A0 rfl rfl rfl rfl rfl rfl ?_ rfl (fun v=>go A0 false ?_)
  ·exact congrArg A6.c (getD_set_self _ _ _ _ Ad)
  conv=>whnf
  refine H7 (Zj y.cells (k+(((xs.take j).map A6.cnt).sum:Nat)+((y.queue.map A3.cnt).sum:Nat)+((y.staged.map A3.cnt).sum:Nat)+((y.inputs.map A3.cnt).sum:Nat)) Ad Ad) rfl trivial rfl rfl rfl ?_
  refine Ia (j:=j) 0 4 3 rfl Y6 rfl rfl rfl rfl (Hx (j:=j) (xs:=(Cq A6.mark A6.cnt xs k j)) (e:=A6.c) (x2:=⟨B0 A3.mark A3.cnt y.queue (k+(((xs.take j).map A6.cnt).sum:Nat)),B0 A3.mark A3.cnt y.staged (k+(((xs.take j).map A6.cnt).sum:Nat)+((y.queue.map A3.cnt).sum:Nat)),B0 A3.mark A3.cnt y.inputs (k+(((xs.take j).map A6.cnt).sum:Nat)+((y.queue.map A3.cnt).sum:Nat)+((y.staged.map A3.cnt).sum:Nat)),B0 Aa.mark Aa.cnt y.cells (k+(((xs.take j).map A6.cnt).sum:Nat)+((y.queue.map A3.cnt).sum:Nat)+((y.staged.map A3.cnt).sum:Nat)+((y.inputs.map A3.cnt).sum:Nat)),y.sums,y.black,y.caps,y.dones⟩) Ad Gg) (Ae ?_)
  (repeat refine Kc ?_)
  refine Mj (j:=j) (off:=4) (r:=A6.c (⟨B0 A3.mark A3.cnt y.queue (k+(((xs.take j).map A6.cnt).sum:Nat)),B0 A3.mark A3.cnt y.staged (k+(((xs.take j).map A6.cnt).sum:Nat)+((y.queue.map A3.cnt).sum:Nat)),B0 A3.mark A3.cnt y.inputs (k+(((xs.take j).map A6.cnt).sum:Nat)+((y.queue.map A3.cnt).sum:Nat)+((y.staged.map A3.cnt).sum:Nat)),B0 Aa.mark Aa.cnt y.cells (k+(((xs.take j).map A6.cnt).sum:Nat)+((y.queue.map A3.cnt).sum:Nat)+((y.staged.map A3.cnt).sum:Nat)+((y.inputs.map A3.cnt).sum:Nat)),y.sums,y.black,y.caps,y.dones⟩)) (c:=Eu y.sums) A0 rfl rfl rfl rfl rfl rfl ?_ rfl (fun v=>go A0 false ?_)
  ·exact congrArg A6.c (getD_set_self _ _ _ _ Ad)
  conv=>whnf
  refine H7 (A3m y.sums (k+(((xs.take j).map A6.cnt).sum:Nat)+((y.queue.map A3.cnt).sum:Nat)+((y.staged.map A3.cnt).sum:Nat)+((y.inputs.map A3.cnt).sum:Nat)+((y.cells.map Aa.cnt).sum:Nat)) Ad Ad) rfl trivial rfl rfl rfl ?_
  refine Ia (j:=j) 0 5 4 rfl Y6 rfl rfl rfl rfl (Hx (j:=j) (xs:=(Cq A6.mark A6.cnt xs k j)) (e:=A6.c) (x2:=⟨B0 A3.mark A3.cnt y.queue (k+(((xs.take j).map A6.cnt).sum:Nat)),B0 A3.mark A3.cnt y.staged (k+(((xs.take j).map A6.cnt).sum:Nat)+((y.queue.map A3.cnt).sum:Nat)),B0 A3.mark A3.cnt y.inputs (k+(((xs.take j).map A6.cnt).sum:Nat)+((y.queue.map A3.cnt).sum:Nat)+((y.staged.map A3.cnt).sum:Nat)),B0 Aa.mark Aa.cnt y.cells (k+(((xs.take j).map A6.cnt).sum:Nat)+((y.queue.map A3.cnt).sum:Nat)+((y.staged.map A3.cnt).sum:Nat)+((y.inputs.map A3.cnt).sum:Nat)),B0 I2 E6 y.sums (k+(((xs.take j).map A6.cnt).sum:Nat)+((y.queue.map A3.cnt).sum:Nat)+((y.staged.map A3.cnt).sum:Nat)+((y.inputs.map A3.cnt).sum:Nat)+((y.cells.map Aa.cnt).sum:Nat)),y.black,y.caps,y.dones⟩) Ad Gg) (Ae ?_)
  (repeat refine Kc ?_)
  refine Mj (j:=j) (off:=5) (r:=A6.c (⟨B0 A3.mark A3.cnt y.queue (k+(((xs.take j).map A6.cnt).sum:Nat)),B0 A3.mark A3.cnt y.staged (k+(((xs.take j).map A6.cnt).sum:Nat)+((y.queue.map A3.cnt).sum:Nat)),B0 A3.mark A3.cnt y.inputs (k+(((xs.take j).map A6.cnt).sum:Nat)+((y.queue.map A3.cnt).sum:Nat)+((y.staged.map A3.cnt).sum:Nat)),B0 Aa.mark Aa.cnt y.cells (k+(((xs.take j).map A6.cnt).sum:Nat)+((y.queue.map A3.cnt).sum:Nat)+((y.staged.map A3.cnt).sum:Nat)+((y.inputs.map A3.cnt).sum:Nat)),B0 I2 E6 y.sums (k+(((xs.take j).map A6.cnt).sum:Nat)+((y.queue.map A3.cnt).sum:Nat)+((y.staged.map A3.cnt).sum:Nat)+((y.inputs.map A3.cnt).sum:Nat)+((y.cells.map Aa.cnt).sum:Nat)),y.black,y.caps,y.dones⟩)) (c:=Cx y.black) A0 rfl rfl rfl rfl rfl rfl ?_ rfl (fun v=>go A0 false ?_)
  ·exact congrArg A6.c (getD_set_self _ _ _ _ Ad)
  conv=>whnf
  refine H7 (T8 y.black (k+(((xs.take j).map A6.cnt).sum:Nat)+((y.queue.map A3.cnt).sum:Nat)+((y.staged.map A3.cnt).sum:Nat)+((y.inputs.map A3.cnt).sum:Nat)+((y.cells.map Aa.cnt).sum:Nat)+((y.sums.map E6).sum:Nat)) Ad Ad) rfl trivial rfl rfl rfl ?_
  refine Ia (j:=j) 0 6 5 rfl Y6 rfl rfl rfl rfl (Hx (j:=j) (xs:=(Cq A6.mark A6.cnt xs k j)) (e:=A6.c) (x2:=⟨B0 A3.mark A3.cnt y.queue (k+(((xs.take j).map A6.cnt).sum:Nat)),B0 A3.mark A3.cnt y.staged (k+(((xs.take j).map A6.cnt).sum:Nat)+((y.queue.map A3.cnt).sum:Nat)),B0 A3.mark A3.cnt y.inputs (k+(((xs.take j).map A6.cnt).sum:Nat)+((y.queue.map A3.cnt).sum:Nat)+((y.staged.map A3.cnt).sum:Nat)),B0 Aa.mark Aa.cnt y.cells (k+(((xs.take j).map A6.cnt).sum:Nat)+((y.queue.map A3.cnt).sum:Nat)+((y.staged.map A3.cnt).sum:Nat)+((y.inputs.map A3.cnt).sum:Nat)),B0 I2 E6 y.sums (k+(((xs.take j).map A6.cnt).sum:Nat)+((y.queue.map A3.cnt).sum:Nat)+((y.staged.map A3.cnt).sum:Nat)+((y.inputs.map A3.cnt).sum:Nat)+((y.cells.map Aa.cnt).sum:Nat)),B0 Hz Ed y.black (k+(((xs.take j).map A6.cnt).sum:Nat)+((y.queue.map A3.cnt).sum:Nat)+((y.staged.map A3.cnt).sum:Nat)+((y.inputs.map A3.cnt).sum:Nat)+((y.cells.map Aa.cnt).sum:Nat)+((y.sums.map E6).sum:Nat)),y.caps,y.dones⟩) Ad Gg) (Ae ?_)
  (repeat refine Kc ?_)
  refine Mj (j:=j) (off:=6) (r:=A6.c (⟨B0 A3.mark A3.cnt y.queue (k+(((xs.take j).map A6.cnt).sum:Nat)),B0 A3.mark A3.cnt y.staged (k+(((xs.take j).map A6.cnt).sum:Nat)+((y.queue.map A3.cnt).sum:Nat)),B0 A3.mark A3.cnt y.inputs (k+(((xs.take j).map A6.cnt).sum:Nat)+((y.queue.map A3.cnt).sum:Nat)+((y.staged.map A3.cnt).sum:Nat)),B0 Aa.mark Aa.cnt y.cells (k+(((xs.take j).map A6.cnt).sum:Nat)+((y.queue.map A3.cnt).sum:Nat)+((y.staged.map A3.cnt).sum:Nat)+((y.inputs.map A3.cnt).sum:Nat)),B0 I2 E6 y.sums (k+(((xs.take j).map A6.cnt).sum:Nat)+((y.queue.map A3.cnt).sum:Nat)+((y.staged.map A3.cnt).sum:Nat)+((y.inputs.map A3.cnt).sum:Nat)+((y.cells.map Aa.cnt).sum:Nat)),B0 Hz Ed y.black (k+(((xs.take j).map A6.cnt).sum:Nat)+((y.queue.map A3.cnt).sum:Nat)+((y.staged.map A3.cnt).sum:Nat)+((y.inputs.map A3.cnt).sum:Nat)+((y.cells.map Aa.cnt).sum:Nat)+((y.sums.map E6).sum:Nat)),y.caps,y.dones⟩)) (c:=Cx y.caps) A0 rfl rfl rfl rfl rfl rfl ?_ rfl (fun v=>go A0 false ?_)
  ·exact congrArg A6.c (getD_set_self _ _ _ _ Ad)
  conv=>whnf
  refine H7 (T8 y.caps (k+(((xs.take j).map A6.cnt).sum:Nat)+((y.queue.map A3.cnt).sum:Nat)+((y.staged.map A3.cnt).sum:Nat)+((y.inputs.map A3.cnt).sum:Nat)+((y.cells.map Aa.cnt).sum:Nat)+((y.sums.map E6).sum:Nat)+((y.black.map Ed).sum:Nat)) Ad Ad) rfl trivial rfl rfl rfl ?_
  refine Ia (j:=j) 0 7 6 rfl Y6 rfl rfl rfl rfl (Hx (j:=j) (xs:=(Cq A6.mark A6.cnt xs k j)) (e:=A6.c) (x2:=⟨B0 A3.mark A3.cnt y.queue (k+(((xs.take j).map A6.cnt).sum:Nat)),B0 A3.mark A3.cnt y.staged (k+(((xs.take j).map A6.cnt).sum:Nat)+((y.queue.map A3.cnt).sum:Nat)),B0 A3.mark A3.cnt y.inputs (k+(((xs.take j).map A6.cnt).sum:Nat)+((y.queue.map A3.cnt).sum:Nat)+((y.staged.map A3.cnt).sum:Nat)),B0 Aa.mark Aa.cnt y.cells (k+(((xs.take j).map A6.cnt).sum:Nat)+((y.queue.map A3.cnt).sum:Nat)+((y.staged.map A3.cnt).sum:Nat)+((y.inputs.map A3.cnt).sum:Nat)),B0 I2 E6 y.sums (k+(((xs.take j).map A6.cnt).sum:Nat)+((y.queue.map A3.cnt).sum:Nat)+((y.staged.map A3.cnt).sum:Nat)+((y.inputs.map A3.cnt).sum:Nat)+((y.cells.map Aa.cnt).sum:Nat)),B0 Hz Ed y.black (k+(((xs.take j).map A6.cnt).sum:Nat)+((y.queue.map A3.cnt).sum:Nat)+((y.staged.map A3.cnt).sum:Nat)+((y.inputs.map A3.cnt).sum:Nat)+((y.cells.map Aa.cnt).sum:Nat)+((y.sums.map E6).sum:Nat)),B0 Hz Ed y.caps (k+(((xs.take j).map A6.cnt).sum:Nat)+((y.queue.map A3.cnt).sum:Nat)+((y.staged.map A3.cnt).sum:Nat)+((y.inputs.map A3.cnt).sum:Nat)+((y.cells.map Aa.cnt).sum:Nat)+((y.sums.map E6).sum:Nat)+((y.black.map Ed).sum:Nat)),y.dones⟩) Ad Gg) (Ae ?_)
  (repeat refine Kc ?_)
  refine Mj (j:=j) (off:=7) (r:=A6.c (⟨B0 A3.mark A3.cnt y.queue (k+(((xs.take j).map A6.cnt).sum:Nat)),B0 A3.mark A3.cnt y.staged (k+(((xs.take j).map A6.cnt).sum:Nat)+((y.queue.map A3.cnt).sum:Nat)),B0 A3.mark A3.cnt y.inputs (k+(((xs.take j).map A6.cnt).sum:Nat)+((y.queue.map A3.cnt).sum:Nat)+((y.staged.map A3.cnt).sum:Nat)),B0 Aa.mark Aa.cnt y.cells (k+(((xs.take j).map A6.cnt).sum:Nat)+((y.queue.map A3.cnt).sum:Nat)+((y.staged.map A3.cnt).sum:Nat)+((y.inputs.map A3.cnt).sum:Nat)),B0 I2 E6 y.sums (k+(((xs.take j).map A6.cnt).sum:Nat)+((y.queue.map A3.cnt).sum:Nat)+((y.staged.map A3.cnt).sum:Nat)+((y.inputs.map A3.cnt).sum:Nat)+((y.cells.map Aa.cnt).sum:Nat)),B0 Hz Ed y.black (k+(((xs.take j).map A6.cnt).sum:Nat)+((y.queue.map A3.cnt).sum:Nat)+((y.staged.map A3.cnt).sum:Nat)+((y.inputs.map A3.cnt).sum:Nat)+((y.cells.map Aa.cnt).sum:Nat)+((y.sums.map E6).sum:Nat)),B0 Hz Ed y.caps (k+(((xs.take j).map A6.cnt).sum:Nat)+((y.queue.map A3.cnt).sum:Nat)+((y.staged.map A3.cnt).sum:Nat)+((y.inputs.map A3.cnt).sum:Nat)+((y.cells.map Aa.cnt).sum:Nat)+((y.sums.map E6).sum:Nat)+((y.black.map Ed).sum:Nat)),y.dones⟩)) (c:=Er y.dones) A0 rfl rfl rfl rfl rfl rfl ?_ rfl (fun v=>go A0 false ?_)
  ·exact congrArg A6.c (getD_set_self _ _ _ _ Ad)
  conv=>whnf
  refine H7 (A9k y.dones (k+(((xs.take j).map A6.cnt).sum:Nat)+((y.queue.map A3.cnt).sum:Nat)+((y.staged.map A3.cnt).sum:Nat)+((y.inputs.map A3.cnt).sum:Nat)+((y.cells.map Aa.cnt).sum:Nat)+((y.sums.map E6).sum:Nat)+((y.black.map Ed).sum:Nat)+((y.caps.map Ed).sum:Nat)) Ad Ad) rfl trivial rfl rfl rfl ?_
  refine Ia (j:=j) 0 8 7 rfl Y6 rfl rfl rfl rfl (Hx (j:=j) (xs:=(Cq A6.mark A6.cnt xs k j)) (e:=A6.c) (x2:=⟨B0 A3.mark A3.cnt y.queue (k+(((xs.take j).map A6.cnt).sum:Nat)),B0 A3.mark A3.cnt y.staged (k+(((xs.take j).map A6.cnt).sum:Nat)+((y.queue.map A3.cnt).sum:Nat)),B0 A3.mark A3.cnt y.inputs (k+(((xs.take j).map A6.cnt).sum:Nat)+((y.queue.map A3.cnt).sum:Nat)+((y.staged.map A3.cnt).sum:Nat)),B0 Aa.mark Aa.cnt y.cells (k+(((xs.take j).map A6.cnt).sum:Nat)+((y.queue.map A3.cnt).sum:Nat)+((y.staged.map A3.cnt).sum:Nat)+((y.inputs.map A3.cnt).sum:Nat)),B0 I2 E6 y.sums (k+(((xs.take j).map A6.cnt).sum:Nat)+((y.queue.map A3.cnt).sum:Nat)+((y.staged.map A3.cnt).sum:Nat)+((y.inputs.map A3.cnt).sum:Nat)+((y.cells.map Aa.cnt).sum:Nat)),B0 Hz Ed y.black (k+(((xs.take j).map A6.cnt).sum:Nat)+((y.queue.map A3.cnt).sum:Nat)+((y.staged.map A3.cnt).sum:Nat)+((y.inputs.map A3.cnt).sum:Nat)+((y.cells.map Aa.cnt).sum:Nat)+((y.sums.map E6).sum:Nat)),B0 Hz Ed y.caps (k+(((xs.take j).map A6.cnt).sum:Nat)+((y.queue.map A3.cnt).sum:Nat)+((y.staged.map A3.cnt).sum:Nat)+((y.inputs.map A3.cnt).sum:Nat)+((y.cells.map Aa.cnt).sum:Nat)+((y.sums.map E6).sum:Nat)+((y.black.map Ed).sum:Nat)),B0 Bp.mark Bp.cnt y.dones (k+(((xs.take j).map A6.cnt).sum:Nat)+((y.queue.map A3.cnt).sum:Nat)+((y.staged.map A3.cnt).sum:Nat)+((y.inputs.map A3.cnt).sum:Nat)+((y.cells.map Aa.cnt).sum:Nat)+((y.sums.map E6).sum:Nat)+((y.black.map Ed).sum:Nat)+((y.caps.map Ed).sum:Nat))⟩) Ad Gg) (Ae ?_)
  (repeat refine Kc ?_)
  refine At [] (j+1) Ad Ad ⟨?_,rfl,trivial⟩ ⟨?_,trivial⟩ trivial A5 ⟨rfl,trivial⟩ A5
  ·exact congrArg (fun n=>AV.c (vi n)) Ad
  ·have e:=Gt A6.mark A6.cnt xs k j h
   rw [hy] at e
   exact congrArg (fun z=>Cb 8 A6.c z) e
 ·refine Sf A0 rfl ⟨?_,trivial⟩ rfl rfl ?_ ⟨rfl,trivial⟩
  ·exact congrArg (fun n=>AV.c (vi n)) (by rw [List.take_of_length_le Ad])
  ·exact congrArg (fun z=>Cb 8 A6.c z) (Gr _ _ _ _ _ Ad)
theorem A9l (xs:List As)(k:Int)(h0:0≤k)(h1:k+((xs.map As.cnt).sum:Nat)≤4611686018427387904):
  I3 Tryz.prog 50 (.one (Bu xs)) (.one (Bu (B0 As.mark As.cnt xs k))) [.one (vi k)] [.int .i64 (k+((xs.map As.cnt).sum:Nat))]:=by
 have hl:xs.length≤4611686018427387904:=by have:=Dr As.cnt xs (fun x=>by simp only [As.cnt];omega);omega
 refine J7 A0 false Tryz.func50 rfl Bs fun W may l=>?_
 conv=>whnf
 refine B6 A0 false [] (fun j:Nat=>[(1,.c (vi (k+(((xs.take j).map As.cnt).sum:Nat)))),(5,.c (vi j))]) (fun _=>[]) (fun j=>[⟨0,Bu (Cq As.mark As.cnt xs k j)⟩])
  (fun j=>j≤xs.length) (fun j=>xs.length-j) 0 (Nat.zero_le _) ⟨by simp [Cr,ren2,ren1,ren0],rfl,trivial⟩ trivial ⟨rfl,trivial⟩ ⟨rfl,trivial⟩ A5 (fun j hj=>?_)
 have hL:=Eb As.mark As.cnt xs k j
 conv=>whnf
 refine ⟨fun h=>?_,fun h=>?_⟩<;>simp only [decide_eq_true_eq,decide_eq_false_iff_not] at h<;>conv=>whnf
 ·have h:j<xs.length:=by omega
  have g:=Gs As.mark As.cnt xs k j default h
  have hle:=Bz As.cnt xs j h
  have hst:=F0 As.cnt xs j h
  generalize hy:xs.getD j default=y at g hle hst
  have hc:As.cnt y=1+(y.queue.map A3.cnt).sum+1+1+1+1:=rfl
  (repeat refine Kc ?_)
  refine Bj (j:=(j:Int)) A0 rfl rfl rfl rfl rfl rfl rfl rfl _ (I9 (j:=j) (xs:=(Cq As.mark As.cnt xs k j)) (e:=As.c) (x:=⟨k+(((xs.take j).map As.cnt).sum:Nat),y.queue,y.credits,y.back,y.sent,y.got⟩) Ad g Gg) (Ae ?_)
  (repeat refine Kc ?_)
  refine Mj (j:=j) (off:=1) (r:=As.c (⟨k+(((xs.take j).map As.cnt).sum:Nat),y.queue,y.credits,y.back,y.sent,y.got⟩)) (c:=A9 y.queue) A0 rfl rfl rfl rfl rfl rfl ?_ rfl (fun v=>go A0 false ?_)
  ·exact congrArg As.c (getD_set_self _ _ _ _ Ad)
  conv=>whnf
  refine H7 (Iq y.queue (k+(((xs.take j).map As.cnt).sum:Nat)+1) Ad Ad) rfl trivial rfl rfl rfl ?_
  refine Ia (j:=j) 0 1 1 rfl Y6 rfl rfl rfl rfl (Hx (j:=j) (xs:=(Cq As.mark As.cnt xs k j)) (e:=As.c) (x2:=⟨k+(((xs.take j).map As.cnt).sum:Nat),B0 A3.mark A3.cnt y.queue (k+(((xs.take j).map As.cnt).sum:Nat)+1),y.credits,y.back,y.sent,y.got⟩) Ad Gg) (Ae ?_)
  (repeat refine Kc ?_)
  refine Bj (j:=(j:Int)) A0 rfl rfl rfl rfl rfl rfl rfl rfl _ (D4 (j:=j) (xs:=(Cq As.mark As.cnt xs k j)) (e:=As.c) (x2:=⟨k+(((xs.take j).map As.cnt).sum:Nat),B0 A3.mark A3.cnt y.queue (k+(((xs.take j).map As.cnt).sum:Nat)+1),k+(((xs.take j).map As.cnt).sum:Nat)+1+((y.queue.map A3.cnt).sum:Nat),y.back,y.sent,y.got⟩) Ad Gg) (Ae ?_)
  (repeat refine Kc ?_)
  refine Bj (j:=(j:Int)) A0 rfl rfl rfl rfl rfl rfl rfl rfl _ (D4 (j:=j) (xs:=(Cq As.mark As.cnt xs k j)) (e:=As.c) (x2:=⟨k+(((xs.take j).map As.cnt).sum:Nat),B0 A3.mark A3.cnt y.queue (k+(((xs.take j).map As.cnt).sum:Nat)+1),k+(((xs.take j).map As.cnt).sum:Nat)+1+((y.queue.map A3.cnt).sum:Nat),k+(((xs.take j).map As.cnt).sum:Nat)+1+((y.queue.map A3.cnt).sum:Nat)+1,y.sent,y.got⟩) Ad Gg) (Ae ?_)
  (repeat refine Kc ?_)
  refine Bj (j:=(j:Int)) A0 rfl rfl rfl rfl rfl rfl rfl rfl _ (D4 (j:=j) (xs:=(Cq As.mark As.cnt xs k j)) (e:=As.c) (x2:=⟨k+(((xs.take j).map As.cnt).sum:Nat),B0 A3.mark A3.cnt y.queue (k+(((xs.take j).map As.cnt).sum:Nat)+1),k+(((xs.take j).map As.cnt).sum:Nat)+1+((y.queue.map A3.cnt).sum:Nat),k+(((xs.take j).map As.cnt).sum:Nat)+1+((y.queue.map A3.cnt).sum:Nat)+1,k+(((xs.take j).map As.cnt).sum:Nat)+1+((y.queue.map A3.cnt).sum:Nat)+1+1,y.got⟩) Ad Gg) (Ae ?_)
  (repeat refine Kc ?_)
  refine Bj (j:=(j:Int)) A0 rfl rfl rfl rfl rfl rfl rfl rfl _ (D4 (j:=j) (xs:=(Cq As.mark As.cnt xs k j)) (e:=As.c) (x2:=⟨k+(((xs.take j).map As.cnt).sum:Nat),B0 A3.mark A3.cnt y.queue (k+(((xs.take j).map As.cnt).sum:Nat)+1),k+(((xs.take j).map As.cnt).sum:Nat)+1+((y.queue.map A3.cnt).sum:Nat),k+(((xs.take j).map As.cnt).sum:Nat)+1+((y.queue.map A3.cnt).sum:Nat)+1,k+(((xs.take j).map As.cnt).sum:Nat)+1+((y.queue.map A3.cnt).sum:Nat)+1+1,k+(((xs.take j).map As.cnt).sum:Nat)+1+((y.queue.map A3.cnt).sum:Nat)+1+1+1⟩) Ad Gg) (Ae ?_)
  (repeat refine Kc ?_)
  refine At [] (j+1) Ad Ad ⟨?_,rfl,trivial⟩ ⟨?_,trivial⟩ trivial A5 ⟨rfl,trivial⟩ A5
  ·exact congrArg (fun n=>AV.c (vi n)) Ad
  ·have e:=Gt As.mark As.cnt xs k j h
   rw [hy] at e
   exact congrArg (fun z=>Cb 6 As.c z) e
 ·refine Sf A0 rfl ⟨?_,trivial⟩ rfl rfl ?_ ⟨rfl,trivial⟩
  ·exact congrArg (fun n=>AV.c (vi n)) (by rw [List.take_of_length_le Ad])
  ·exact congrArg (fun z=>Cb 6 As.c z) (Gr _ _ _ _ _ Ad)
theorem A5u (xs:List Ay)(k:Int)(h0:0≤k)(h1:k+((xs.map Ay.cnt).sum:Nat)≤4611686018427387904):
  I3 Tryz.prog 51 (.one (Be xs)) (.one (Be (B0 Ay.mark Ay.cnt xs k))) [.one (vi k)] [.int .i64 (k+((xs.map Ay.cnt).sum:Nat))]:=by
 have hl:xs.length≤4611686018427387904:=by have:=Dr Ay.cnt xs (fun x=>by simp only [Ay.cnt];omega);omega
 refine J7 A0 false Tryz.func51 rfl Bs fun W may l=>?_
 conv=>whnf
 refine B6 A0 false [] (fun j:Nat=>[(1,.c (vi (k+(((xs.take j).map Ay.cnt).sum:Nat)))),(5,.c (vi j))]) (fun _=>[]) (fun j=>[⟨0,Be (Cq Ay.mark Ay.cnt xs k j)⟩])
  (fun j=>j≤xs.length) (fun j=>xs.length-j) 0 (Nat.zero_le _) ⟨by simp [Cr,ren2,ren1,ren0],rfl,trivial⟩ trivial ⟨rfl,trivial⟩ ⟨rfl,trivial⟩ A5 (fun j hj=>?_)
 have hL:=Eb Ay.mark Ay.cnt xs k j
 conv=>whnf
 refine ⟨fun h=>?_,fun h=>?_⟩<;>simp only [decide_eq_true_eq,decide_eq_false_iff_not] at h<;>conv=>whnf
 ·have h:j<xs.length:=by omega
  have g:=Gs Ay.mark Ay.cnt xs k j default h
  have hle:=Bz Ay.cnt xs j h
  have hst:=F0 Ay.cnt xs j h
  generalize hy:xs.getD j default=y at g hle hst
  have hc:Ay.cnt y=1+1+1+1+1:=rfl
  (repeat refine Kc ?_)
  refine Bj (j:=(j:Int)) A0 rfl rfl rfl rfl rfl rfl rfl rfl _ (I9 (j:=j) (xs:=(Cq Ay.mark Ay.cnt xs k j)) (e:=Ay.c) (x:=⟨(k+(((xs.take j).map Ay.cnt).sum:Nat)).tmod 3==0,y.at_,y.sum,y.black,y.capped⟩) Ad g Gg) (Ae ?_)
  (repeat refine Kc ?_)
  refine Bj (j:=(j:Int)) A0 rfl rfl rfl rfl rfl rfl rfl rfl _ (D4 (j:=j) (xs:=(Cq Ay.mark Ay.cnt xs k j)) (e:=Ay.c) (x2:=⟨(k+(((xs.take j).map Ay.cnt).sum:Nat)).tmod 3==0,k+(((xs.take j).map Ay.cnt).sum:Nat)+1,y.sum,y.black,y.capped⟩) Ad Gg) (Ae ?_)
  (repeat refine Kc ?_)
  refine Bj (j:=(j:Int)) A0 rfl rfl rfl rfl rfl rfl rfl rfl _ (D4 (j:=j) (xs:=(Cq Ay.mark Ay.cnt xs k j)) (e:=Ay.c) (x2:=⟨(k+(((xs.take j).map Ay.cnt).sum:Nat)).tmod 3==0,k+(((xs.take j).map Ay.cnt).sum:Nat)+1,k+(((xs.take j).map Ay.cnt).sum:Nat)+1+1,y.black,y.capped⟩) Ad Gg) (Ae ?_)
  (repeat refine Kc ?_)
  refine Bj (j:=(j:Int)) A0 rfl rfl rfl rfl rfl rfl rfl rfl _ (D4 (j:=j) (xs:=(Cq Ay.mark Ay.cnt xs k j)) (e:=Ay.c) (x2:=⟨(k+(((xs.take j).map Ay.cnt).sum:Nat)).tmod 3==0,k+(((xs.take j).map Ay.cnt).sum:Nat)+1,k+(((xs.take j).map Ay.cnt).sum:Nat)+1+1,(k+(((xs.take j).map Ay.cnt).sum:Nat)+1+1+1).tmod 3==0,y.capped⟩) Ad Gg) (Ae ?_)
  (repeat refine Kc ?_)
  refine Bj (j:=(j:Int)) A0 rfl rfl rfl rfl rfl rfl rfl rfl _ (D4 (j:=j) (xs:=(Cq Ay.mark Ay.cnt xs k j)) (e:=Ay.c) (x2:=⟨(k+(((xs.take j).map Ay.cnt).sum:Nat)).tmod 3==0,k+(((xs.take j).map Ay.cnt).sum:Nat)+1,k+(((xs.take j).map Ay.cnt).sum:Nat)+1+1,(k+(((xs.take j).map Ay.cnt).sum:Nat)+1+1+1).tmod 3==0,(k+(((xs.take j).map Ay.cnt).sum:Nat)+1+1+1+1).tmod 3==0⟩) Ad Gg) (Ae ?_)
  (repeat refine Kc ?_)
  refine At [] (j+1) Ad Ad ⟨?_,rfl,trivial⟩ ⟨?_,trivial⟩ trivial A5 ⟨rfl,trivial⟩ A5
  ·exact congrArg (fun n=>AV.c (vi n)) Ad
  ·have e:=Gt Ay.mark Ay.cnt xs k j h
   rw [hy] at e
   exact congrArg (fun z=>Cb 5 Ay.c z) e
 ·refine Sf A0 rfl ⟨?_,trivial⟩ rfl rfl ?_ ⟨rfl,trivial⟩
  ·exact congrArg (fun n=>AV.c (vi n)) (by rw [List.take_of_length_le Ad])
  ·exact congrArg (fun z=>Cb 5 Ay.c z) (Gr _ _ _ _ _ Ad)
theorem A9m (xs:List B7)(k:Int)(h0:0≤k)(h1:k+((xs.map B7.cnt).sum:Nat)≤4611686018427387904):
  I3 Tryz.prog 52 (.one (C3 xs)) (.one (C3 (B0 B7.mark B7.cnt xs k))) [.one (vi k)] [.int .i64 (k+((xs.map B7.cnt).sum:Nat))]:=by
 have hl:xs.length≤4611686018427387904:=by have:=Dr B7.cnt xs (fun x=>by simp only [B7.cnt];omega);omega
 refine J7 A0 false Tryz.func52 rfl Bs fun W may l=>?_
 conv=>whnf
 refine B6 A0 false [] (fun j:Nat=>[(1,.c (vi (k+(((xs.take j).map B7.cnt).sum:Nat)))),(5,.c (vi j))]) (fun _=>[]) (fun j=>[⟨0,C3 (Cq B7.mark B7.cnt xs k j)⟩])
  (fun j=>j≤xs.length) (fun j=>xs.length-j) 0 (Nat.zero_le _) ⟨by simp [Cr,ren2,ren1,ren0],rfl,trivial⟩ trivial ⟨rfl,trivial⟩ ⟨rfl,trivial⟩ A5 (fun j hj=>?_)
 have hL:=Eb B7.mark B7.cnt xs k j
 conv=>whnf
 refine ⟨fun h=>?_,fun h=>?_⟩<;>simp only [decide_eq_true_eq,decide_eq_false_iff_not] at h<;>conv=>whnf
 ·have h:j<xs.length:=by omega
  have g:=Gs B7.mark B7.cnt xs k j default h
  have hle:=Bz B7.cnt xs j h
  have hst:=F0 B7.cnt xs j h
  generalize hy:xs.getD j default=y at g hle hst
  have hc:B7.cnt y=1+1+1:=rfl
  (repeat refine Kc ?_)
  refine Bj (j:=(j:Int)) A0 rfl rfl rfl rfl rfl rfl rfl rfl _ (I9 (j:=j) (xs:=(Cq B7.mark B7.cnt xs k j)) (e:=B7.c) (x:=⟨k+(((xs.take j).map B7.cnt).sum:Nat),y.epoch,y.capped⟩) Ad g Gg) (Ae ?_)
  (repeat refine Kc ?_)
  refine Bj (j:=(j:Int)) A0 rfl rfl rfl rfl rfl rfl rfl rfl _ (D4 (j:=j) (xs:=(Cq B7.mark B7.cnt xs k j)) (e:=B7.c) (x2:=⟨k+(((xs.take j).map B7.cnt).sum:Nat),k+(((xs.take j).map B7.cnt).sum:Nat)+1,y.capped⟩) Ad Gg) (Ae ?_)
  (repeat refine Kc ?_)
  refine Bj (j:=(j:Int)) A0 rfl rfl rfl rfl rfl rfl rfl rfl _ (D4 (j:=j) (xs:=(Cq B7.mark B7.cnt xs k j)) (e:=B7.c) (x2:=⟨k+(((xs.take j).map B7.cnt).sum:Nat),k+(((xs.take j).map B7.cnt).sum:Nat)+1,(k+(((xs.take j).map B7.cnt).sum:Nat)+1+1).tmod 3==0⟩) Ad Gg) (Ae ?_)
  (repeat refine Kc ?_)
  refine At [] (j+1) Ad Ad ⟨?_,rfl,trivial⟩ ⟨?_,trivial⟩ trivial A5 ⟨rfl,trivial⟩ A5
  ·exact congrArg (fun n=>AV.c (vi n)) Ad
  ·have e:=Gt B7.mark B7.cnt xs k j h
   rw [hy] at e
   exact congrArg (fun z=>Cb 3 B7.c z) e
 ·refine Sf A0 rfl ⟨?_,trivial⟩ rfl rfl ?_ ⟨rfl,trivial⟩
  ·exact congrArg (fun n=>AV.c (vi n)) (by rw [List.take_of_length_le Ad])
  ·exact congrArg (fun z=>Cb 3 B7.c z) (Gr _ _ _ _ _ Ad)
theorem A3l (x:A4)(k:Int)(hl1:x.workers.length≤4611686018427387904)(h0:0≤k)(h1:k+(x.cntV:Nat)≤4611686018427387904):
  I3 Tryz.prog 14 (.agg x.c) (.agg (x.markV k).c) [.one (vi k)] [.int .i64 (k+(x.cntV:Nat))]:=by
 have hc:x.cntV=x.graph.cntV+(x.workers.map A6.cnt).sum+(x.links.map As.cnt).sum+(x.tokens.map Ay.cnt).sum+(x.news.map B7.cnt).sum:=rfl
 refine J7 A0 false Tryz.func14 rfl Bs fun W may l=>?_
 conv=>whnf
 refine H7 (x:= .agg (Ar.c x.graph)) (y:= .agg (Ar.c (x.graph.markV (k)))) (T9 x.graph (k) Ad Ad) A2f (by repeat (first|exact trivial|refine ⟨trivial,?_⟩)) rfl rfl rfl (Iy ?_)
 conv=>whnf
 refine H7 (A3o x.workers (k+(x.graph.cntV:Nat)) hl1 Ad Ad) rfl trivial rfl rfl rfl (Ae ?_)
 refine H7 (A9l x.links (k+(x.graph.cntV:Nat)+((x.workers.map A6.cnt).sum:Nat)) Ad Ad) rfl trivial rfl rfl rfl (Ae ?_)
 refine H7 (A5u x.tokens (k+(x.graph.cntV:Nat)+((x.workers.map A6.cnt).sum:Nat)+((x.links.map As.cnt).sum:Nat)) Ad Ad) rfl trivial rfl rfl rfl (Ae ?_)
 refine H7 (A9m x.news (k+(x.graph.cntV:Nat)+((x.workers.map A6.cnt).sum:Nat)+((x.links.map As.cnt).sum:Nat)+((x.tokens.map Ay.cnt).sum:Nat)) Ad Ad) rfl trivial rfl rfl rfl (Ae ?_)
 refine Sf A0 rfl ⟨?_,trivial⟩ rfl rfl A2f A2f
 exact congrArg (fun n=>AV.c (vi n)) Ad
theorem A22 (xs:List Int)(k:Int)(h0:0≤k)(h1:k+((xs.map E6).sum:Nat)≤4611686018427387904):
  Aq Tryz.prog 117 [.one (Eu (B0 I2 E6 xs k)),.one (vi k)] [.one (vi (k+((xs.map E6).sum:Nat)))]:=by
 have hl:xs.length≤4611686018427387904:=by have:=Dr E6 xs (fun x=>Nat.le_refl 1);omega
 have hL:=Dy I2 E6 xs k
 refine Aj A0 false Tryz.func117 rfl Bs fun W=>?_
 conv=>whnf
 refine B6 A0 false [] (fun j:Nat=>[(1,.c (vi (k+(((xs.take j).map E6).sum:Nat)))),(5,.c (vi j))]) (fun _=>[]) (fun _=>[])
  (fun j=>j≤xs.length) (fun j=>xs.length-j) 0 (Nat.zero_le _) ⟨by simp [Cr,ren2,ren1,ren0],rfl,trivial⟩ trivial trivial trivial A5 (fun j hj=>?_)
 conv=>whnf
 refine ⟨fun h=>?_,fun h=>?_⟩<;>simp only [decide_eq_true_eq,decide_eq_false_iff_not] at h<;>conv=>whnf
 ·have h:j<xs.length:=by omega
  have g:=Gc I2 E6 xs k j default h
  have hle:=Bz E6 xs j h
  have hst:=F0 E6 xs j h
  generalize xs.getD j default=y at g hle hst
  have hc:E6 y=1:=rfl
  (repeat refine L0 ?_)
  refine ⟨fun h'=>?_,fun _=>?_⟩<;>conv=>whnf
  ·have e:((B0 I2 E6 xs k).getD j default)=(k+(((xs.take j).map E6).sum:Nat)):=congrArg (fun z:Int=>z) g
   simp only [Int.toNat_natCast,e,bne_self_eq_false,beq_self_eq_true,Bool.not_true,Bool.false_eq_true] at h'
  (repeat refine L0 ?_)
  refine At [] (j+1) Ad Ad ⟨?_,rfl,trivial⟩ trivial trivial A5 trivial A5
  exact congrArg (fun n=>AV.c (vi n)) Ad
 ·refine Ah A0 rfl rfl ⟨?_,trivial⟩
  exact congrArg vi (by rw [List.take_of_length_le Ad])
theorem A9d (xs:List Au)(k:Int)(h0:0≤k)(h1:k+((xs.map Au.cnt).sum:Nat)≤4611686018427387904):
  Aq Tryz.prog 115 [.one (Bb (B0 Au.mark Au.cnt xs k)),.one (vi k)] [.one (vi (k+((xs.map Au.cnt).sum:Nat)))]:=by
 have hl:xs.length≤4611686018427387904:=by have:=Dr Au.cnt xs (fun x=>by simp only [Au.cnt];omega);omega
 have hL:=Dy Au.mark Au.cnt xs k
 refine Aj A0 false Tryz.func115 rfl Bs fun W=>?_
 conv=>whnf
 refine B6 A0 false [] (fun j:Nat=>[(1,.c (vi (k+(((xs.take j).map Au.cnt).sum:Nat)))),(5,.c (vi j))]) (fun _=>[]) (fun _=>[])
  (fun j=>j≤xs.length) (fun j=>xs.length-j) 0 (Nat.zero_le _) ⟨by simp [Cr,ren2,ren1,ren0],rfl,trivial⟩ trivial trivial trivial A5 (fun j hj=>?_)
 conv=>whnf
 refine ⟨fun h=>?_,fun h=>?_⟩<;>simp only [decide_eq_true_eq,decide_eq_false_iff_not] at h<;>conv=>whnf
 ·have h:j<xs.length:=by omega
  have g:=Gc Au.mark Au.cnt xs k j default h
  have hle:=Bz Au.cnt xs j h
  have hst:=F0 Au.cnt xs j h
  generalize xs.getD j default=y at g hle hst
  have hc:Au.cnt y=1+1+1+(y.outs.map E6).sum:=rfl
  (repeat refine L0 ?_)
  refine ⟨fun h'=>?_,fun _=>?_⟩<;>conv=>whnf
  ·have e:((B0 Au.mark Au.cnt xs k).getD j default).kind=(k+(((xs.take j).map Au.cnt).sum:Nat)):=congrArg (fun z:Au=>z.kind) g
   simp only [Int.toNat_natCast,e,bne_self_eq_false,beq_self_eq_true,Bool.not_true,Bool.false_eq_true] at h'
  (repeat refine L0 ?_)
  refine ⟨fun h'=>?_,fun _=>?_⟩<;>conv=>whnf
  ·have e:((B0 Au.mark Au.cnt xs k).getD j default).a=(k+(((xs.take j).map Au.cnt).sum:Nat)+1):=congrArg (fun z:Au=>z.a) g
   simp only [Int.toNat_natCast,e,bne_self_eq_false,beq_self_eq_true,Bool.not_true,Bool.false_eq_true] at h'
  (repeat refine L0 ?_)
  refine ⟨fun h'=>?_,fun _=>?_⟩<;>conv=>whnf
  ·have e:((B0 Au.mark Au.cnt xs k).getD j default).b=(k+(((xs.take j).map Au.cnt).sum:Nat)+1+1):=congrArg (fun z:Au=>z.b) g
   simp only [Int.toNat_natCast,e,bne_self_eq_false,beq_self_eq_true,Bool.not_true,Bool.false_eq_true] at h'
  (repeat refine L0 ?_)
  refine Ai (A22 y.outs (k+(((xs.take j).map Au.cnt).sum:Nat)+1+1+1) Ad Ad) (congrArg (fun z:Au=>some [F9.one (Eu z.outs),.one (vi (k+(((xs.take j).map Au.cnt).sum:Nat)+1+1+1))]) g) (Ae ?_)
  refine ⟨fun h'=>?_,fun _=>?_⟩<;>conv=>whnf
  ·simp only [decide_eq_true_eq] at h';omega
  (repeat refine L0 ?_)
  refine At [] (j+1) Ad Ad ⟨?_,rfl,trivial⟩ trivial trivial A5 trivial A5
  exact congrArg (fun n=>AV.c (vi n)) Ad
 ·refine Ah A0 rfl rfl ⟨?_,trivial⟩
  exact congrArg vi (by rw [List.take_of_length_le Ad])
theorem A9a (x:Ar)(k:Int)(h0:0≤k)(h1:k+(x.cntV:Nat)≤4611686018427387904):
  Aq Tryz.prog 53 [.agg (x.markV k).c,.one (vi k)] [.one (vi (k+(x.cntV:Nat)))]:=by
 have hc:x.cntV=(x.nodes.map Au.cnt).sum:=rfl
 refine Aj A0 false Tryz.func53 rfl Bs fun W=>?_
 conv=>whnf
 refine Ai (A9d x.nodes (k) Ad Ad) rfl (Ae ?_)
 refine ⟨fun h'=>?_,fun _=>?_⟩<;>conv=>whnf
 ·simp only [decide_eq_true_eq] at h';omega
 refine Ah A0 rfl rfl ⟨?_,trivial⟩
 exact congrArg vi Ad
theorem Mc (xs:List A3)(k:Int)(h0:0≤k)(h1:k+((xs.map A3.cnt).sum:Nat)≤4611686018427387904):
  Aq Tryz.prog 116 [.one (A9 (B0 A3.mark A3.cnt xs k)),.one (vi k)] [.one (vi (k+((xs.map A3.cnt).sum:Nat)))]:=by
 have hl:xs.length≤4611686018427387904:=by have:=Dr A3.cnt xs (fun x=>by simp only [A3.cnt];omega);omega
 have hL:=Dy A3.mark A3.cnt xs k
 refine Aj A0 false Tryz.func116 rfl Bs fun W=>?_
 conv=>whnf
 refine B6 A0 false [] (fun j:Nat=>[(1,.c (vi (k+(((xs.take j).map A3.cnt).sum:Nat)))),(5,.c (vi j))]) (fun _=>[]) (fun _=>[])
  (fun j=>j≤xs.length) (fun j=>xs.length-j) 0 (Nat.zero_le _) ⟨by simp [Cr,ren2,ren1,ren0],rfl,trivial⟩ trivial trivial trivial A5 (fun j hj=>?_)
 conv=>whnf
 refine ⟨fun h=>?_,fun h=>?_⟩<;>simp only [decide_eq_true_eq,decide_eq_false_iff_not] at h<;>conv=>whnf
 ·have h:j<xs.length:=by omega
  have g:=Gc A3.mark A3.cnt xs k j default h
  have hle:=Bz A3.cnt xs j h
  have hst:=F0 A3.cnt xs j h
  generalize xs.getD j default=y at g hle hst
  have hc:A3.cnt y=1+1+1+1+1:=rfl
  (repeat refine L0 ?_)
  refine ⟨fun h'=>?_,fun _=>?_⟩<;>conv=>whnf
  ·have e:((B0 A3.mark A3.cnt xs k).getD j default).op=(k+(((xs.take j).map A3.cnt).sum:Nat)):=congrArg (fun z:A3=>z.op) g
   simp only [Int.toNat_natCast,e,bne_self_eq_false,beq_self_eq_true,Bool.not_true,Bool.false_eq_true] at h'
  (repeat refine L0 ?_)
  refine ⟨fun h'=>?_,fun _=>?_⟩<;>conv=>whnf
  ·have e:((B0 A3.mark A3.cnt xs k).getD j default).stamp.epoch=(k+(((xs.take j).map A3.cnt).sum:Nat)+1):=congrArg (fun z:A3=>z.stamp.epoch) g
   simp only [Int.toNat_natCast,e,bne_self_eq_false,beq_self_eq_true,Bool.not_true,Bool.false_eq_true] at h'
  (repeat refine L0 ?_)
  refine ⟨fun h'=>?_,fun _=>?_⟩<;>conv=>whnf
  ·have e:((B0 A3.mark A3.cnt xs k).getD j default).stamp.turn=(k+(((xs.take j).map A3.cnt).sum:Nat)+1+1):=congrArg (fun z:A3=>z.stamp.turn) g
   simp only [Int.toNat_natCast,e,bne_self_eq_false,beq_self_eq_true,Bool.not_true,Bool.false_eq_true] at h'
  (repeat refine L0 ?_)
  refine ⟨fun h'=>?_,fun _=>?_⟩<;>conv=>whnf
  ·have e:((B0 A3.mark A3.cnt xs k).getD j default).key=(k+(((xs.take j).map A3.cnt).sum:Nat)+1+1+1):=congrArg (fun z:A3=>z.key) g
   simp only [Int.toNat_natCast,e,bne_self_eq_false,beq_self_eq_true,Bool.not_true,Bool.false_eq_true] at h'
  (repeat refine L0 ?_)
  refine ⟨fun h'=>?_,fun _=>?_⟩<;>conv=>whnf
  ·have e:((B0 A3.mark A3.cnt xs k).getD j default).val=(k+(((xs.take j).map A3.cnt).sum:Nat)+1+1+1+1):=congrArg (fun z:A3=>z.val) g
   simp only [Int.toNat_natCast,e,bne_self_eq_false,beq_self_eq_true,Bool.not_true,Bool.false_eq_true] at h'
  (repeat refine L0 ?_)
  refine At [] (j+1) Ad Ad ⟨?_,rfl,trivial⟩ trivial trivial A5 trivial A5
  exact congrArg (fun n=>AV.c (vi n)) Ad
 ·refine Ah A0 rfl rfl ⟨?_,trivial⟩
  exact congrArg vi (by rw [List.take_of_length_le Ad])
theorem T2 (xs:List Aa)(k:Int)(h0:0≤k)(h1:k+((xs.map Aa.cnt).sum:Nat)≤4611686018427387904):
  Aq Tryz.prog 30 [.one (Ao (B0 Aa.mark Aa.cnt xs k)),.one (vi k)] [.one (vi (k+((xs.map Aa.cnt).sum:Nat)))]:=by
 have hl:xs.length≤4611686018427387904:=by have:=Dr Aa.cnt xs (fun x=>by simp only [Aa.cnt];omega);omega
 have hL:=Dy Aa.mark Aa.cnt xs k
 refine Aj A0 false Tryz.func30 rfl Bs fun W=>?_
 conv=>whnf
 refine B6 A0 false [] (fun j:Nat=>[(1,.c (vi (k+(((xs.take j).map Aa.cnt).sum:Nat)))),(5,.c (vi j))]) (fun _=>[]) (fun _=>[])
  (fun j=>j≤xs.length) (fun j=>xs.length-j) 0 (Nat.zero_le _) ⟨by simp [Cr,ren2,ren1,ren0],rfl,trivial⟩ trivial trivial trivial A5 (fun j hj=>?_)
 conv=>whnf
 refine ⟨fun h=>?_,fun h=>?_⟩<;>simp only [decide_eq_true_eq,decide_eq_false_iff_not] at h<;>conv=>whnf
 ·have h:j<xs.length:=by omega
  have g:=Gc Aa.mark Aa.cnt xs k j default h
  have hle:=Bz Aa.cnt xs j h
  have hst:=F0 Aa.cnt xs j h
  generalize xs.getD j default=y at g hle hst
  have hc:Aa.cnt y=1+1+1+1:=rfl
  (repeat refine L0 ?_)
  refine ⟨fun h'=>?_,fun _=>?_⟩<;>conv=>whnf
  ·have e:((B0 Aa.mark Aa.cnt xs k).getD j default).op=(k+(((xs.take j).map Aa.cnt).sum:Nat)):=congrArg (fun z:Aa=>z.op) g
   simp only [Int.toNat_natCast,e,bne_self_eq_false,beq_self_eq_true,Bool.not_true,Bool.false_eq_true] at h'
  (repeat refine L0 ?_)
  refine ⟨fun h'=>?_,fun _=>?_⟩<;>conv=>whnf
  ·have e:((B0 Aa.mark Aa.cnt xs k).getD j default).epoch=(k+(((xs.take j).map Aa.cnt).sum:Nat)+1):=congrArg (fun z:Aa=>z.epoch) g
   simp only [Int.toNat_natCast,e,bne_self_eq_false,beq_self_eq_true,Bool.not_true,Bool.false_eq_true] at h'
  (repeat refine L0 ?_)
  refine ⟨fun h'=>?_,fun _=>?_⟩<;>conv=>whnf
  ·have e:((B0 Aa.mark Aa.cnt xs k).getD j default).key=(k+(((xs.take j).map Aa.cnt).sum:Nat)+1+1):=congrArg (fun z:Aa=>z.key) g
   simp only [Int.toNat_natCast,e,bne_self_eq_false,beq_self_eq_true,Bool.not_true,Bool.false_eq_true] at h'
  (repeat refine L0 ?_)
  refine ⟨fun h'=>?_,fun _=>?_⟩<;>conv=>whnf
  ·have e:((B0 Aa.mark Aa.cnt xs k).getD j default).val=(k+(((xs.take j).map Aa.cnt).sum:Nat)+1+1+1):=congrArg (fun z:Aa=>z.val) g
   simp only [Int.toNat_natCast,e,bne_self_eq_false,beq_self_eq_true,Bool.not_true,Bool.false_eq_true] at h'
  (repeat refine L0 ?_)
  refine At [] (j+1) Ad Ad ⟨?_,rfl,trivial⟩ trivial trivial A5 trivial A5
  exact congrArg (fun n=>AV.c (vi n)) Ad
 ·refine Ah A0 rfl rfl ⟨?_,trivial⟩
  exact congrArg vi (by rw [List.take_of_length_le Ad])
theorem Px (xs:List Bool)(k:Int)(h0:0≤k)(h1:k+((xs.map Ed).sum:Nat)≤4611686018427387904):
  Aq Tryz.prog 17 [.one (Cx (B0 Hz Ed xs k)),.one (vi k)] [.one (vi (k+((xs.map Ed).sum:Nat)))]:=by
 have hl:xs.length≤4611686018427387904:=by have:=Dr Ed xs (fun x=>Nat.le_refl 1);omega
 have hL:=Dy Hz Ed xs k
 refine Aj A0 false Tryz.func17 rfl Bs fun W=>?_
 conv=>whnf
 refine B6 A0 false [] (fun j:Nat=>[(1,.c (vi (k+(((xs.take j).map Ed).sum:Nat)))),(5,.c (vi j))]) (fun _=>[]) (fun _=>[])
  (fun j=>j≤xs.length) (fun j=>xs.length-j) 0 (Nat.zero_le _) ⟨by simp [Cr,ren2,ren1,ren0],rfl,trivial⟩ trivial trivial trivial A5 (fun j hj=>?_)
 conv=>whnf
 refine ⟨fun h=>?_,fun h=>?_⟩<;>simp only [decide_eq_true_eq,decide_eq_false_iff_not] at h<;>conv=>whnf
 ·have h:j<xs.length:=by omega
  have g:=Gc Hz Ed xs k j default h
  have hle:=Bz Ed xs j h
  have hst:=F0 Ed xs j h
  generalize xs.getD j default=y at g hle hst
  have hc:Ed y=1:=rfl
  (repeat refine L0 ?_)
  refine ⟨fun h'=>?_,fun _=>?_⟩<;>conv=>whnf
  ·have e:((B0 Hz Ed xs k).getD j default)=((k+(((xs.take j).map Ed).sum:Nat)).tmod 3==0):=congrArg (fun z:Bool=>z) g
   simp only [Int.toNat_natCast,e,bne_self_eq_false,beq_self_eq_true,Bool.not_true,Bool.false_eq_true] at h'
  (repeat refine L0 ?_)
  refine At [] (j+1) Ad Ad ⟨?_,rfl,trivial⟩ trivial trivial A5 trivial A5
  exact congrArg (fun n=>AV.c (vi n)) Ad
 ·refine Ah A0 rfl rfl ⟨?_,trivial⟩
  exact congrArg vi (by rw [List.take_of_length_le Ad])
theorem A89 (xs:List Bp)(k:Int)(h0:0≤k)(h1:k+((xs.map Bp.cnt).sum:Nat)≤4611686018427387904):
  Aq Tryz.prog 118 [.one (Er (B0 Bp.mark Bp.cnt xs k)),.one (vi k)] [.one (vi (k+((xs.map Bp.cnt).sum:Nat)))]:=by
 have hl:xs.length≤4611686018427387904:=by have:=Dr Bp.cnt xs (fun x=>by simp only [Bp.cnt];omega);omega
 have hL:=Dy Bp.mark Bp.cnt xs k
 refine Aj A0 false Tryz.func118 rfl Bs fun W=>?_
 conv=>whnf
 refine B6 A0 false [] (fun j:Nat=>[(1,.c (vi (k+(((xs.take j).map Bp.cnt).sum:Nat)))),(5,.c (vi j))]) (fun _=>[]) (fun _=>[])
  (fun j=>j≤xs.length) (fun j=>xs.length-j) 0 (Nat.zero_le _) ⟨by simp [Cr,ren2,ren1,ren0],rfl,trivial⟩ trivial trivial trivial A5 (fun j hj=>?_)
 conv=>whnf
 refine ⟨fun h=>?_,fun h=>?_⟩<;>simp only [decide_eq_true_eq,decide_eq_false_iff_not] at h<;>conv=>whnf
 ·have h:j<xs.length:=by omega
  have g:=Gc Bp.mark Bp.cnt xs k j default h
  have hle:=Bz Bp.cnt xs j h
  have hst:=F0 Bp.cnt xs j h
  generalize xs.getD j default=y at g hle hst
  have hc:Bp.cnt y=1+1:=rfl
  (repeat refine L0 ?_)
  refine ⟨fun h'=>?_,fun _=>?_⟩<;>conv=>whnf
  ·have e:((B0 Bp.mark Bp.cnt xs k).getD j default).epoch=(k+(((xs.take j).map Bp.cnt).sum:Nat)):=congrArg (fun z:Bp=>z.epoch) g
   simp only [Int.toNat_natCast,e,bne_self_eq_false,beq_self_eq_true,Bool.not_true,Bool.false_eq_true] at h'
  (repeat refine L0 ?_)
  refine ⟨fun h'=>?_,fun _=>?_⟩<;>conv=>whnf
  ·have e:((B0 Bp.mark Bp.cnt xs k).getD j default).capped=((k+(((xs.take j).map Bp.cnt).sum:Nat)+1).tmod 3==0):=congrArg (fun z:Bp=>z.capped) g
   simp only [Int.toNat_natCast,e,bne_self_eq_false,beq_self_eq_true,Bool.not_true,Bool.false_eq_true] at h'
  (repeat refine L0 ?_)
  refine At [] (j+1) Ad Ad ⟨?_,rfl,trivial⟩ trivial trivial A5 trivial A5
  exact congrArg (fun n=>AV.c (vi n)) Ad
 ·refine Ah A0 rfl rfl ⟨?_,trivial⟩
  exact congrArg vi (by rw [List.take_of_length_le Ad])
theorem A23 (xs:List A6)(k:Int)(hl:xs.length≤4611686018427387904)(h0:0≤k)(h1:k+((xs.map A6.cnt).sum:Nat)≤4611686018427387904):
  Aq Tryz.prog 54 [.one (Ap (B0 A6.mark A6.cnt xs k)),.one (vi k)] [.one (vi (k+((xs.map A6.cnt).sum:Nat)))]:=by
 have hL:=Dy A6.mark A6.cnt xs k
 refine Aj A0 false Tryz.func54 rfl Bs fun W=>?_
 conv=>whnf
 refine B6 A0 false [] (fun j:Nat=>[(1,.c (vi (k+(((xs.take j).map A6.cnt).sum:Nat)))),(5,.c (vi j))]) (fun _=>[]) (fun _=>[])
  (fun j=>j≤xs.length) (fun j=>xs.length-j) 0 (Nat.zero_le _) ⟨by simp [Cr,ren2,ren1,ren0],rfl,trivial⟩ trivial trivial trivial A5 (fun j hj=>?_)
 conv=>whnf
 refine ⟨fun h=>?_,fun h=>?_⟩<;>simp only [decide_eq_true_eq,decide_eq_false_iff_not] at h<;>conv=>whnf
 ·have h:j<xs.length:=by omega
  have g:=Gc A6.mark A6.cnt xs k j default h
  have hle:=Bz A6.cnt xs j h
  have hst:=F0 A6.cnt xs j h
  generalize xs.getD j default=y at g hle hst
  have hc:A6.cnt y=(y.queue.map A3.cnt).sum+(y.staged.map A3.cnt).sum+(y.inputs.map A3.cnt).sum+(y.cells.map Aa.cnt).sum+(y.sums.map E6).sum+(y.black.map Ed).sum+(y.caps.map Ed).sum+(y.dones.map Bp.cnt).sum:=rfl
  (repeat refine L0 ?_)
  refine Ai (Mc y.queue (k+(((xs.take j).map A6.cnt).sum:Nat)) Ad Ad) (congrArg (fun z:A6=>some [F9.one (A9 z.queue),.one (vi (k+(((xs.take j).map A6.cnt).sum:Nat)))]) g) (Ae ?_)
  refine ⟨fun h'=>?_,fun _=>?_⟩<;>conv=>whnf
  ·simp only [decide_eq_true_eq] at h';omega
  (repeat refine L0 ?_)
  refine Ai (Mc y.staged (k+(((xs.take j).map A6.cnt).sum:Nat)+((y.queue.map A3.cnt).sum:Nat)) Ad Ad) (congrArg (fun z:A6=>some [F9.one (A9 z.staged),.one (vi (k+(((xs.take j).map A6.cnt).sum:Nat)+((y.queue.map A3.cnt).sum:Nat)))]) g) (Ae ?_)
  refine ⟨fun h'=>?_,fun _=>?_⟩<;>conv=>whnf
  ·simp only [decide_eq_true_eq] at h';omega
  (repeat refine L0 ?_)
  refine Ai (Mc y.inputs (k+(((xs.take j).map A6.cnt).sum:Nat)+((y.queue.map A3.cnt).sum:Nat)+((y.staged.map A3.cnt).sum:Nat)) Ad Ad) (congrArg (fun z:A6=>some [F9.one (A9 z.inputs),.one (vi (k+(((xs.take j).map A6.cnt).sum:Nat)+((y.queue.map A3.cnt).sum:Nat)+((y.staged.map A3.cnt).sum:Nat)))]) g) (Ae ?_)
  refine ⟨fun h'=>?_,fun _=>?_⟩<;>conv=>whnf
  ·simp only [decide_eq_true_eq] at h';omega
  (repeat refine L0 ?_)
  refine Ai (T2 y.cells (k+(((xs.take j).map A6.cnt).sum:Nat)+((y.queue.map A3.cnt).sum:Nat)+((y.staged.map A3.cnt).sum:Nat)+((y.inputs.map A3.cnt).sum:Nat)) Ad Ad) (congrArg (fun z:A6=>some [F9.one (Ao z.cells),.one (vi (k+(((xs.take j).map A6.cnt).sum:Nat)+((y.queue.map A3.cnt).sum:Nat)+((y.staged.map A3.cnt).sum:Nat)+((y.inputs.map A3.cnt).sum:Nat)))]) g) (Ae ?_)
  refine ⟨fun h'=>?_,fun _=>?_⟩<;>conv=>whnf
  ·simp only [decide_eq_true_eq] at h';omega
  (repeat refine L0 ?_)
  refine Ai (A22 y.sums (k+(((xs.take j).map A6.cnt).sum:Nat)+((y.queue.map A3.cnt).sum:Nat)+((y.staged.map A3.cnt).sum:Nat)+((y.inputs.map A3.cnt).sum:Nat)+((y.cells.map Aa.cnt).sum:Nat)) Ad Ad) (congrArg (fun z:A6=>some [F9.one (Eu z.sums),.one (vi (k+(((xs.take j).map A6.cnt).sum:Nat)+((y.queue.map A3.cnt).sum:Nat)+((y.staged.map A3.cnt).sum:Nat)+((y.inputs.map A3.cnt).sum:Nat)+((y.cells.map Aa.cnt).sum:Nat)))]) g) (Ae ?_)
  refine ⟨fun h'=>?_,fun _=>?_⟩<;>conv=>whnf
  ·simp only [decide_eq_true_eq] at h';omega
  (repeat refine L0 ?_)
  refine Ai (Px y.black (k+(((xs.take j).map A6.cnt).sum:Nat)+((y.queue.map A3.cnt).sum:Nat)+((y.staged.map A3.cnt).sum:Nat)+((y.inputs.map A3.cnt).sum:Nat)+((y.cells.map Aa.cnt).sum:Nat)+((y.sums.map E6).sum:Nat)) Ad Ad) (congrArg (fun z:A6=>some [F9.one (Cx z.black),.one (vi (k+(((xs.take j).map A6.cnt).sum:Nat)+((y.queue.map A3.cnt).sum:Nat)+((y.staged.map A3.cnt).sum:Nat)+((y.inputs.map A3.cnt).sum:Nat)+((y.cells.map Aa.cnt).sum:Nat)+((y.sums.map E6).sum:Nat)))]) g) (Ae ?_)
  refine ⟨fun h'=>?_,fun _=>?_⟩<;>conv=>whnf
  ·simp only [decide_eq_true_eq] at h';omega
  (repeat refine L0 ?_)
  refine Ai (Px y.caps (k+(((xs.take j).map A6.cnt).sum:Nat)+((y.queue.map A3.cnt).sum:Nat)+((y.staged.map A3.cnt).sum:Nat)+((y.inputs.map A3.cnt).sum:Nat)+((y.cells.map Aa.cnt).sum:Nat)+((y.sums.map E6).sum:Nat)+((y.black.map Ed).sum:Nat)) Ad Ad) (congrArg (fun z:A6=>some [F9.one (Cx z.caps),.one (vi (k+(((xs.take j).map A6.cnt).sum:Nat)+((y.queue.map A3.cnt).sum:Nat)+((y.staged.map A3.cnt).sum:Nat)+((y.inputs.map A3.cnt).sum:Nat)+((y.cells.map Aa.cnt).sum:Nat)+((y.sums.map E6).sum:Nat)+((y.black.map Ed).sum:Nat)))]) g) (Ae ?_)
  refine ⟨fun h'=>?_,fun _=>?_⟩<;>conv=>whnf
  ·simp only [decide_eq_true_eq] at h';omega
  (repeat refine L0 ?_)
  refine Ai (A89 y.dones (k+(((xs.take j).map A6.cnt).sum:Nat)+((y.queue.map A3.cnt).sum:Nat)+((y.staged.map A3.cnt).sum:Nat)+((y.inputs.map A3.cnt).sum:Nat)+((y.cells.map Aa.cnt).sum:Nat)+((y.sums.map E6).sum:Nat)+((y.black.map Ed).sum:Nat)+((y.caps.map Ed).sum:Nat)) Ad Ad) (congrArg (fun z:A6=>some [F9.one (Er z.dones),.one (vi (k+(((xs.take j).map A6.cnt).sum:Nat)+((y.queue.map A3.cnt).sum:Nat)+((y.staged.map A3.cnt).sum:Nat)+((y.inputs.map A3.cnt).sum:Nat)+((y.cells.map Aa.cnt).sum:Nat)+((y.sums.map E6).sum:Nat)+((y.black.map Ed).sum:Nat)+((y.caps.map Ed).sum:Nat)))]) g) (Ae ?_)
  refine ⟨fun h'=>?_,fun _=>?_⟩<;>conv=>whnf
  ·simp only [decide_eq_true_eq] at h';omega
  (repeat refine L0 ?_)
  refine At [] (j+1) Ad Ad ⟨?_,rfl,trivial⟩ trivial trivial A5 trivial A5
  exact congrArg (fun n=>AV.c (vi n)) Ad
 ·refine Ah A0 rfl rfl ⟨?_,trivial⟩
  exact congrArg vi (by rw [List.take_of_length_le Ad])
theorem A9b (xs:List As)(k:Int)(h0:0≤k)(h1:k+((xs.map As.cnt).sum:Nat)≤4611686018427387904):
  Aq Tryz.prog 55 [.one (Bu (B0 As.mark As.cnt xs k)),.one (vi k)] [.one (vi (k+((xs.map As.cnt).sum:Nat)))]:=by
 have hl:xs.length≤4611686018427387904:=by have:=Dr As.cnt xs (fun x=>by simp only [As.cnt];omega);omega
 have hL:=Dy As.mark As.cnt xs k
 refine Aj A0 false Tryz.func55 rfl Bs fun W=>?_
 conv=>whnf
 refine B6 A0 false [] (fun j:Nat=>[(1,.c (vi (k+(((xs.take j).map As.cnt).sum:Nat)))),(5,.c (vi j))]) (fun _=>[]) (fun _=>[])
  (fun j=>j≤xs.length) (fun j=>xs.length-j) 0 (Nat.zero_le _) ⟨by simp [Cr,ren2,ren1,ren0],rfl,trivial⟩ trivial trivial trivial A5 (fun j hj=>?_)
 conv=>whnf
 refine ⟨fun h=>?_,fun h=>?_⟩<;>simp only [decide_eq_true_eq,decide_eq_false_iff_not] at h<;>conv=>whnf
 ·have h:j<xs.length:=by omega
  have g:=Gc As.mark As.cnt xs k j default h
  have hle:=Bz As.cnt xs j h
  have hst:=F0 As.cnt xs j h
  generalize xs.getD j default=y at g hle hst
  have hc:As.cnt y=1+(y.queue.map A3.cnt).sum+1+1+1+1:=rfl
  (repeat refine L0 ?_)
  refine ⟨fun h'=>?_,fun _=>?_⟩<;>conv=>whnf
  ·have e:((B0 As.mark As.cnt xs k).getD j default).cap=(k+(((xs.take j).map As.cnt).sum:Nat)):=congrArg (fun z:As=>z.cap) g
   simp only [Int.toNat_natCast,e,bne_self_eq_false,beq_self_eq_true,Bool.not_true,Bool.false_eq_true] at h'
  (repeat refine L0 ?_)
  refine Ai (Mc y.queue (k+(((xs.take j).map As.cnt).sum:Nat)+1) Ad Ad) (congrArg (fun z:As=>some [F9.one (A9 z.queue),.one (vi (k+(((xs.take j).map As.cnt).sum:Nat)+1))]) g) (Ae ?_)
  refine ⟨fun h'=>?_,fun _=>?_⟩<;>conv=>whnf
  ·simp only [decide_eq_true_eq] at h';omega
  (repeat refine L0 ?_)
  refine ⟨fun h'=>?_,fun _=>?_⟩<;>conv=>whnf
  ·have e:((B0 As.mark As.cnt xs k).getD j default).credits=(k+(((xs.take j).map As.cnt).sum:Nat)+1+((y.queue.map A3.cnt).sum:Nat)):=congrArg (fun z:As=>z.credits) g
   simp only [Int.toNat_natCast,e,bne_self_eq_false,beq_self_eq_true,Bool.not_true,Bool.false_eq_true] at h'
  (repeat refine L0 ?_)
  refine ⟨fun h'=>?_,fun _=>?_⟩<;>conv=>whnf
  ·have e:((B0 As.mark As.cnt xs k).getD j default).back=(k+(((xs.take j).map As.cnt).sum:Nat)+1+((y.queue.map A3.cnt).sum:Nat)+1):=congrArg (fun z:As=>z.back) g
   simp only [Int.toNat_natCast,e,bne_self_eq_false,beq_self_eq_true,Bool.not_true,Bool.false_eq_true] at h'
  (repeat refine L0 ?_)
  refine ⟨fun h'=>?_,fun _=>?_⟩<;>conv=>whnf
  ·have e:((B0 As.mark As.cnt xs k).getD j default).sent=(k+(((xs.take j).map As.cnt).sum:Nat)+1+((y.queue.map A3.cnt).sum:Nat)+1+1):=congrArg (fun z:As=>z.sent) g
   simp only [Int.toNat_natCast,e,bne_self_eq_false,beq_self_eq_true,Bool.not_true,Bool.false_eq_true] at h'
  (repeat refine L0 ?_)
  refine ⟨fun h'=>?_,fun _=>?_⟩<;>conv=>whnf
  ·have e:((B0 As.mark As.cnt xs k).getD j default).got=(k+(((xs.take j).map As.cnt).sum:Nat)+1+((y.queue.map A3.cnt).sum:Nat)+1+1+1):=congrArg (fun z:As=>z.got) g
   simp only [Int.toNat_natCast,e,bne_self_eq_false,beq_self_eq_true,Bool.not_true,Bool.false_eq_true] at h'
  (repeat refine L0 ?_)
  refine At [] (j+1) Ad Ad ⟨?_,rfl,trivial⟩ trivial trivial A5 trivial A5
  exact congrArg (fun n=>AV.c (vi n)) Ad
 ·refine Ah A0 rfl rfl ⟨?_,trivial⟩
  exact congrArg vi (by rw [List.take_of_length_le Ad])
theorem A5h (xs:List Ay)(k:Int)(h0:0≤k)(h1:k+((xs.map Ay.cnt).sum:Nat)≤4611686018427387904):
  Aq Tryz.prog 56 [.one (Be (B0 Ay.mark Ay.cnt xs k)),.one (vi k)] [.one (vi (k+((xs.map Ay.cnt).sum:Nat)))]:=by
 have hl:xs.length≤4611686018427387904:=by have:=Dr Ay.cnt xs (fun x=>by simp only [Ay.cnt];omega);omega
 have hL:=Dy Ay.mark Ay.cnt xs k
 refine Aj A0 false Tryz.func56 rfl Bs fun W=>?_
 conv=>whnf
 refine B6 A0 false [] (fun j:Nat=>[(1,.c (vi (k+(((xs.take j).map Ay.cnt).sum:Nat)))),(5,.c (vi j))]) (fun _=>[]) (fun _=>[])
  (fun j=>j≤xs.length) (fun j=>xs.length-j) 0 (Nat.zero_le _) ⟨by simp [Cr,ren2,ren1,ren0],rfl,trivial⟩ trivial trivial trivial A5 (fun j hj=>?_)
 conv=>whnf
 refine ⟨fun h=>?_,fun h=>?_⟩<;>simp only [decide_eq_true_eq,decide_eq_false_iff_not] at h<;>conv=>whnf
 ·have h:j<xs.length:=by omega
  have g:=Gc Ay.mark Ay.cnt xs k j default h
  have hle:=Bz Ay.cnt xs j h
  have hst:=F0 Ay.cnt xs j h
  generalize xs.getD j default=y at g hle hst
  have hc:Ay.cnt y=1+1+1+1+1:=rfl
  (repeat refine L0 ?_)
  refine ⟨fun h'=>?_,fun _=>?_⟩<;>conv=>whnf
  ·have e:((B0 Ay.mark Ay.cnt xs k).getD j default).going=((k+(((xs.take j).map Ay.cnt).sum:Nat)).tmod 3==0):=congrArg (fun z:Ay=>z.going) g
   simp only [Int.toNat_natCast,e,bne_self_eq_false,beq_self_eq_true,Bool.not_true,Bool.false_eq_true] at h'
  (repeat refine L0 ?_)
  refine ⟨fun h'=>?_,fun _=>?_⟩<;>conv=>whnf
  ·have e:((B0 Ay.mark Ay.cnt xs k).getD j default).at_=(k+(((xs.take j).map Ay.cnt).sum:Nat)+1):=congrArg (fun z:Ay=>z.at_) g
   simp only [Int.toNat_natCast,e,bne_self_eq_false,beq_self_eq_true,Bool.not_true,Bool.false_eq_true] at h'
  (repeat refine L0 ?_)
  refine ⟨fun h'=>?_,fun _=>?_⟩<;>conv=>whnf
  ·have e:((B0 Ay.mark Ay.cnt xs k).getD j default).sum=(k+(((xs.take j).map Ay.cnt).sum:Nat)+1+1):=congrArg (fun z:Ay=>z.sum) g
   simp only [Int.toNat_natCast,e,bne_self_eq_false,beq_self_eq_true,Bool.not_true,Bool.false_eq_true] at h'
  (repeat refine L0 ?_)
  refine ⟨fun h'=>?_,fun _=>?_⟩<;>conv=>whnf
  ·have e:((B0 Ay.mark Ay.cnt xs k).getD j default).black=((k+(((xs.take j).map Ay.cnt).sum:Nat)+1+1+1).tmod 3==0):=congrArg (fun z:Ay=>z.black) g
   simp only [Int.toNat_natCast,e,bne_self_eq_false,beq_self_eq_true,Bool.not_true,Bool.false_eq_true] at h'
  (repeat refine L0 ?_)
  refine ⟨fun h'=>?_,fun _=>?_⟩<;>conv=>whnf
  ·have e:((B0 Ay.mark Ay.cnt xs k).getD j default).capped=((k+(((xs.take j).map Ay.cnt).sum:Nat)+1+1+1+1).tmod 3==0):=congrArg (fun z:Ay=>z.capped) g
   simp only [Int.toNat_natCast,e,bne_self_eq_false,beq_self_eq_true,Bool.not_true,Bool.false_eq_true] at h'
  (repeat refine L0 ?_)
  refine At [] (j+1) Ad Ad ⟨?_,rfl,trivial⟩ trivial trivial A5 trivial A5
  exact congrArg (fun n=>AV.c (vi n)) Ad
 ·refine Ah A0 rfl rfl ⟨?_,trivial⟩
  exact congrArg vi (by rw [List.take_of_length_le Ad])
theorem A9c (xs:List B7)(k:Int)(h0:0≤k)(h1:k+((xs.map B7.cnt).sum:Nat)≤4611686018427387904):
  Aq Tryz.prog 57 [.one (C3 (B0 B7.mark B7.cnt xs k)),.one (vi k)] [.one (vi (k+((xs.map B7.cnt).sum:Nat)))]:=by
 have hl:xs.length≤4611686018427387904:=by have:=Dr B7.cnt xs (fun x=>by simp only [B7.cnt];omega);omega
 have hL:=Dy B7.mark B7.cnt xs k
 refine Aj A0 false Tryz.func57 rfl Bs fun W=>?_
 conv=>whnf
 refine B6 A0 false [] (fun j:Nat=>[(1,.c (vi (k+(((xs.take j).map B7.cnt).sum:Nat)))),(5,.c (vi j))]) (fun _=>[]) (fun _=>[])
  (fun j=>j≤xs.length) (fun j=>xs.length-j) 0 (Nat.zero_le _) ⟨by simp [Cr,ren2,ren1,ren0],rfl,trivial⟩ trivial trivial trivial A5 (fun j hj=>?_)
 conv=>whnf
 refine ⟨fun h=>?_,fun h=>?_⟩<;>simp only [decide_eq_true_eq,decide_eq_false_iff_not] at h<;>conv=>whnf
 ·have h:j<xs.length:=by omega
  have g:=Gc B7.mark B7.cnt xs k j default h
  have hle:=Bz B7.cnt xs j h
  have hst:=F0 B7.cnt xs j h
  generalize xs.getD j default=y at g hle hst
  have hc:B7.cnt y=1+1+1:=rfl
  (repeat refine L0 ?_)
  refine ⟨fun h'=>?_,fun _=>?_⟩<;>conv=>whnf
  ·have e:((B0 B7.mark B7.cnt xs k).getD j default).to_=(k+(((xs.take j).map B7.cnt).sum:Nat)):=congrArg (fun z:B7=>z.to_) g
   simp only [Int.toNat_natCast,e,bne_self_eq_false,beq_self_eq_true,Bool.not_true,Bool.false_eq_true] at h'
  (repeat refine L0 ?_)
  refine ⟨fun h'=>?_,fun _=>?_⟩<;>conv=>whnf
  ·have e:((B0 B7.mark B7.cnt xs k).getD j default).epoch=(k+(((xs.take j).map B7.cnt).sum:Nat)+1):=congrArg (fun z:B7=>z.epoch) g
   simp only [Int.toNat_natCast,e,bne_self_eq_false,beq_self_eq_true,Bool.not_true,Bool.false_eq_true] at h'
  (repeat refine L0 ?_)
  refine ⟨fun h'=>?_,fun _=>?_⟩<;>conv=>whnf
  ·have e:((B0 B7.mark B7.cnt xs k).getD j default).capped=((k+(((xs.take j).map B7.cnt).sum:Nat)+1+1).tmod 3==0):=congrArg (fun z:B7=>z.capped) g
   simp only [Int.toNat_natCast,e,bne_self_eq_false,beq_self_eq_true,Bool.not_true,Bool.false_eq_true] at h'
  (repeat refine L0 ?_)
  refine At [] (j+1) Ad Ad ⟨?_,rfl,trivial⟩ trivial trivial A5 trivial A5
  exact congrArg (fun n=>AV.c (vi n)) Ad
 ·refine Ah A0 rfl rfl ⟨?_,trivial⟩
  exact congrArg vi (by rw [List.take_of_length_le Ad])
theorem U1 (x:A4)(k:Int)(hl1:x.workers.length≤4611686018427387904)(h0:0≤k)(h1:k+(x.cntV:Nat)≤4611686018427387904):
  Aq Tryz.prog 16 [.agg (x.markV k).c,.one (vi k)] [.one (vi (k+(x.cntV:Nat)))]:=by
 have hc:x.cntV=x.graph.cntV+(x.workers.map A6.cnt).sum+(x.links.map As.cnt).sum+(x.tokens.map Ay.cnt).sum+(x.news.map B7.cnt).sum:=rfl
 refine Aj A0 false Tryz.func16 rfl Bs fun W=>?_
 conv=>whnf
 refine Ai (A9a x.graph (k) Ad Ad) rfl (Ae ?_)
 refine ⟨fun h'=>?_,fun _=>?_⟩<;>conv=>whnf
 ·simp only [decide_eq_true_eq] at h';omega
 refine Ai (A23 x.workers (k+(x.graph.cntV:Nat)) hl1 Ad Ad) rfl (Ae ?_)
 refine ⟨fun h'=>?_,fun _=>?_⟩<;>conv=>whnf
 ·simp only [decide_eq_true_eq] at h';omega
 refine Ai (A9b x.links (k+(x.graph.cntV:Nat)+((x.workers.map A6.cnt).sum:Nat)) Ad Ad) rfl (Ae ?_)
 refine ⟨fun h'=>?_,fun _=>?_⟩<;>conv=>whnf
 ·simp only [decide_eq_true_eq] at h';omega
 refine Ai (A5h x.tokens (k+(x.graph.cntV:Nat)+((x.workers.map A6.cnt).sum:Nat)+((x.links.map As.cnt).sum:Nat)) Ad Ad) rfl (Ae ?_)
 refine ⟨fun h'=>?_,fun _=>?_⟩<;>conv=>whnf
 ·simp only [decide_eq_true_eq] at h';omega
 refine Ai (A9c x.news (k+(x.graph.cntV:Nat)+((x.workers.map A6.cnt).sum:Nat)+((x.links.map As.cnt).sum:Nat)+((x.tokens.map Ay.cnt).sum:Nat)) Ad Ad) rfl (Ae ?_)
 refine ⟨fun h'=>?_,fun _=>?_⟩<;>conv=>whnf
 ·simp only [decide_eq_true_eq] at h';omega
 refine Ah A0 rfl rfl ⟨?_,trivial⟩
 exact congrArg vi Ad
end Go.Proofs.YtlbmkgkmbjadcaaGreat
