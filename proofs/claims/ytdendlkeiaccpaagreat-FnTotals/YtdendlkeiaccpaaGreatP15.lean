/- Part 15 of the proof that each of the laws FnTotals returns true for every input. No conditions. -/
import Derived.Test.YtdendlkeiaccpaaGreatP14

set_option linter.unusedSimpArgs false
set_option linter.unusedVariables false
set_option maxRecDepth 100000
namespace Go.Proofs.YtdendlkeiaccpaaGreat
open Go.Sx
theorem Z3 (x:A6):Bi Tryz.prog 118 [.agg x.c] [.one (F7 (Qv (Ed x.graph.workers 0 4).toNat))]:=by
 have hb:=G8 x.graph.workers 0 4 Aw
 obtain ⟨n,hn⟩:∃n:Nat,Ed x.graph.workers 0 4=n:=⟨(Ed x.graph.workers 0 4).toNat,by omega⟩
 have h4:n≤4:=by omega
 refine Bd A0 false Tryz.func118 rfl Aw fun W=>?_
 conv=>whnf
 refine Az (Ku x.graph.workers 0 4) rfl (A8 ?_)
 rw [hn]
 refine Dv 1 (F7 []) rfl Ds ?_
 refine Bv A0 false [9] (fun k:Nat=>[(5,.c (vi k))]) (fun k=>[]) (fun k=>[⟨1,F7 (pA k)⟩])
  (fun k=>k≤n) (fun k=>n-k) 0 (Nat.zero_le _) ⟨F3,trivial⟩ trivial ⟨F2,trivial⟩ Cj A7 (fun k hk=>?_)
 conv=>whnf
 refine Es (fun h=>?_) fun h=>?_<;>conv=>whnf
 ·have h:k<n:=by omega
  have hl:=A27 k
  refine Av A0 rfl rfl rfl rfl rfl rfl rfl rfl rfl rfl rfl (F7 (pA k++pW k)) (B00 rfl rfl rfl rfl) Bj Ab (A8 ?_)
  (repeat refine Am ?_)
  refine B6 [(1,3)] (k+1) Ab Ab ⟨rfl,trivial⟩ ⟨congrArg F7 (A44 k).symm,trivial⟩ trivial A7 Cj A7
 have e:n=k:=by omega
 subst e
 have hl:=A27 n
 refine Bv A0 false [] (fun k:Nat=>[(6,.c (vi k))]) (fun k=>[]) (fun k=>[⟨1,F7 (pA n++pC n k)⟩])
  (fun k=>k≤n) (fun k=>n-k) 0 (Nat.zero_le _) ⟨F3,trivial⟩ trivial ⟨F2,trivial⟩ Cj A7 (fun k hk=>?_)
 conv=>whnf
 refine Es (fun h=>?_) fun h=>?_<;>conv=>whnf
 ·have h:k<n:=by omega
  have hc:=A28 n k h4
  refine Bv A0 false [] (fun j:Nat=>[(7,.c (vi j))]) (fun _=>[]) (fun j=>[⟨1,F7 (pA n++(pC n k++pB k j))⟩])
   (fun j=>j≤n) (fun j=>n-j) 0 (Nat.zero_le _) ⟨rfl,trivial⟩ trivial ⟨(congrArg (fun l=>Kt _ _ (pA n++l)) (List.append_nil _)).symm,trivial⟩ trivial A7 (fun j hj=>?_)
  conv=>whnf
  refine Es (fun h'=>?_) fun h'=>?_<;>conv=>whnf
  ·have h':j<n:=by omega
   have hd:=B0i k j
   have hs:=A45 k j
   refine ⟨fun hq=>have hq:=bne_iff_ne.1 hq;?_,fun hq=>have hq:=bne_eq_false_iff_eq.1 hq;?_⟩<;>conv=>whnf
   ·(repeat refine Am ?_)
    refine Av A0 rfl rfl rfl rfl rfl rfl rfl rfl rfl rfl rfl (F7 (pA n++(pC n k++pB k j)++[⟨4,k,j⟩,⟨5,k,j⟩])) (B3m rfl rfl) Bj (by simp only [List.length_append];omega) (A8 ?_)
    (repeat refine Am ?_)
    refine B6 [(1,3)] (j+1) Ab Ab ⟨rfl,trivial⟩ ⟨?_,trivial⟩ trivial A7 trivial A7
    exact congrArg F7 (by rw [hs,pK,if_neg hq];simp only [List.append_assoc])
   (repeat refine Am ?_)
   refine B6 [] (j+1) Ab Ab ⟨rfl,trivial⟩ ⟨?_,trivial⟩ trivial A7 trivial A7
   exact congrArg F7 (by rw [hs,pK,if_pos hq,List.append_nil])
  have e:n=j:=by omega
  (repeat refine Am ?_)
  refine B6 [] (k+1) Ab Ab ⟨rfl,trivial⟩ ⟨congrArg F7 (by rw [←e,A46]),trivial⟩ trivial A7 Cj A7
 have e:k=n:=by omega
 subst e
 have hc:=A28 k k h4
 refine Bv A0 false [] (fun j:Nat=>[(8,.c (vi j))]) (fun _=>[]) (fun j=>[⟨1,F7 (pA k++pC k k++pE j)⟩])
  (fun j=>j≤4) (fun j=>4-j) 0 (Nat.zero_le _) ⟨rfl,trivial⟩ trivial ⟨(congrArg (fun l=>Kt _ _ l) (List.append_nil _)).symm,trivial⟩ trivial A7 (fun j hj=>?_)
 conv=>whnf
 refine Es (fun h'=>?_) fun h'=>?_<;>conv=>whnf
 ·have h':j<4:=by omega
  have hd:=B0j j
  (repeat refine Am ?_)
  refine Av A0 rfl rfl rfl rfl rfl rfl rfl rfl rfl rfl rfl (F7 (pA k++pC k k++pE j++[⟨6,j,0⟩])) (Ad rfl) Bj (by simp only [List.length_append];omega) (A8 ?_)
  (repeat refine Am ?_)
  refine B6 [(1,3)] (j+1) Ab Ab ⟨rfl,trivial⟩ ⟨?_,trivial⟩ trivial A7 trivial A7
  exact congrArg F7 (by rw [B3a];simp only [List.append_assoc])
 refine B2 A0 rfl rfl ⟨?_,trivial⟩
 have e:j=4:=by omega
 subst e
 exact congrArg F7 (by rw [Qv,Int.toNat_natCast])
end Go.Proofs.YtdendlkeiaccpaaGreat
