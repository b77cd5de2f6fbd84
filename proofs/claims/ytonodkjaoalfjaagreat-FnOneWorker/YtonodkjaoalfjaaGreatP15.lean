/- Part 15 of the proof that each of the laws FnOneWorker returns true for every input. No conditions. -/
import Derived.Test.YtonodkjaoalfjaaGreatP14

set_option linter.unusedSimpArgs false
set_option linter.unusedVariables false
set_option maxRecDepth 100000
namespace Go.Proofs.YtonodkjaoalfjaaGreat
open Go.Sx
theorem Rw (x:A3):B0 Tryz.prog 113 [.agg x.c] [.one (Fu (Gz (En x.graph.workers 0 4).toNat))]:=by
 have hb:=Jq x.graph.workers 0 4 Bu
 obtain ⟨n,hn⟩:∃n:Nat,En x.graph.workers 0 4=n:=⟨(En x.graph.workers 0 4).toNat,by omega⟩
 have h4:n≤4:=by omega
 refine Ay A0 false Tryz.func113 rfl Bu fun W=>?_
 conv=>whnf
 refine Aw (Oo x.graph.workers 0 4) rfl (Al ?_)
 rw [hn]
 refine A36 4 3 (fun i=>Bl.c (([]:List Bl).getD i default)) rfl ?_
 refine Bw A0 false [9] (fun k:Nat=>[(5,.c (vi k))]) (fun k=>[]) (fun k=>[⟨1,Fu (pA k)⟩])
  (fun k=>k≤n) (fun k=>n-k) 0 (Nat.zero_le _) ⟨by first|rfl|simp [Dl,ren2,ren1,ren0],trivial⟩ trivial ⟨by first|rfl|exact (congrArg (fun l=>Du _ _ l) (List.append_nil _)).symm|(show (_:A8)=_;simp)|simp,trivial⟩ D0 Aa (fun k hk=>?_)
 conv=>whnf
 refine G5 (fun h=>?_) fun h=>?_<;>conv=>whnf
 ·have h:k<n:=by omega
  have hl:=A64 k
  refine G4 2 (F1 [1,3,2,7]) rfl (A9u rfl rfl rfl rfl) ?_
  refine Bw A0 false [7] (fun j:Nat=>[(22,.c (vi j))]) (fun _=>[]) (fun j=>[⟨2,F1 [1,3,2,7]⟩,⟨1,Fu (pA k++(pW k).take j)⟩])
   (fun j=>j≤4) (fun j=>4-j) 0 (Nat.zero_le _) ⟨rfl,trivial⟩ trivial ⟨rfl,(congrArg (fun l=>Du _ _ l) (List.append_nil _)).symm,trivial⟩ trivial Aa (fun j hj=>?_)
  conv=>whnf
  refine G5 (fun h'=>?_) fun h'=>?_<;>conv=>whnf
  ·have h':j<4:=by omega
   have hd:((pW k).take j).length≤j:=List.length_take_le _ _
   refine ⟨by exact ⟨by omega,by show (j:Int)<4;omega⟩,?_⟩
   conv=>whnf
   (repeat refine Ar ?_)
   refine Dp A0 rfl rfl rfl rfl rfl rfl rfl rfl rfl rfl rfl (Fu (pA k++(pW k).take j++[⟨([1,3,2,7]:List Int).getD j default,k,0⟩])) (Bf rfl) Kc (by simp only [List.length_append];omega) (Al ?_)
   (repeat refine Ar ?_)
   refine B5 [(1,4)] (j+1) Ac Ac ⟨rfl,trivial⟩ ⟨rfl,?_,trivial⟩ trivial Aa trivial Aa
   exact congrArg Fu (by rw [B69 k j h',List.append_assoc])
  have e:j=4:=by omega
  subst e
  (repeat refine Ar ?_)
  refine B5 [] (k+1) Ac Ac ⟨rfl,trivial⟩ ⟨congrArg Fu (A8y k).symm,trivial⟩ trivial Aa D0 Aa
 have e:n=k:=by omega
 subst e
 have hl:=A64 n
 refine Bw A0 false [] (fun k:Nat=>[(8,.c (vi k))]) (fun k=>[]) (fun k=>[⟨1,Fu (pA n++pC n k)⟩])
  (fun k=>k≤n) (fun k=>n-k) 0 (Nat.zero_le _) ⟨by first|rfl|simp [Dl,ren2,ren1,ren0],trivial⟩ trivial ⟨by first|rfl|exact (congrArg (fun l=>Du _ _ l) (List.append_nil _)).symm|(show (_:A8)=_;simp)|simp,trivial⟩ D0 Aa (fun k hk=>?_)
 conv=>whnf
 refine G5 (fun h=>?_) fun h=>?_<;>conv=>whnf
 ·have h:k<n:=by omega
  have hc:=A65 n k h4
  refine Bw A0 false [] (fun j:Nat=>[(9,.c (vi j))]) (fun _=>[]) (fun j=>[⟨1,Fu (pA n++(pC n k++pB k j))⟩])
   (fun j=>j≤n) (fun j=>n-j) 0 (Nat.zero_le _) ⟨rfl,trivial⟩ trivial ⟨(congrArg (fun l=>Du _ _ (pA n++l)) (List.append_nil _)).symm,trivial⟩ trivial Aa (fun j hj=>?_)
  conv=>whnf
  refine G5 (fun h'=>?_) fun h'=>?_<;>conv=>whnf
  ·have h':j<n:=by omega
   have hd:=B4q k j
   have hs:=A8z k j
   refine ⟨fun hq=>have hq:=bne_iff_ne.1 hq;?_,fun hq=>have hq:=bne_eq_false_iff_eq.1 hq;?_⟩<;>conv=>whnf
   ·(repeat refine Ar ?_)
    refine Dp A0 rfl rfl rfl rfl rfl rfl rfl rfl rfl rfl rfl (Fu (pA n++(pC n k++pB k j)++[⟨4,k,j⟩,⟨5,k,j⟩])) (B7k rfl rfl) Kc (by simp only [List.length_append];omega) (Al ?_)
    (repeat refine Ar ?_)
    refine B5 [(1,3)] (j+1) Ac Ac ⟨rfl,trivial⟩ ⟨?_,trivial⟩ trivial Aa trivial Aa
    exact congrArg Fu (by rw [hs,pK,if_neg hq];simp only [List.append_assoc])
   ·(repeat refine Ar ?_)
    refine B5 [] (j+1) Ac Ac ⟨rfl,trivial⟩ ⟨?_,trivial⟩ trivial Aa trivial Aa
    exact congrArg Fu (by rw [hs,pK,if_pos hq,List.append_nil])
  have e:n=j:=by omega
  (repeat refine Ar ?_)
  refine B5 [] (k+1) Ac Ac ⟨rfl,trivial⟩ ⟨congrArg Fu (by rw [←e,A80]),trivial⟩ trivial Aa D0 Aa
 have e:k=n:=by omega
 subst e
 have hc:=A65 k k h4
 refine Bw A0 false [] (fun j:Nat=>[(10,.c (vi j))]) (fun _=>[]) (fun j=>[⟨1,Fu (pA k++pC k k++pE j)⟩])
  (fun j=>j≤4) (fun j=>4-j) 0 (Nat.zero_le _) ⟨rfl,trivial⟩ trivial ⟨(congrArg (fun l=>Du _ _ l) (List.append_nil _)).symm,trivial⟩ trivial Aa (fun j hj=>?_)
 conv=>whnf
 refine G5 (fun h'=>?_) fun h'=>?_<;>conv=>whnf
 ·have h':j<4:=by omega
  have hd:=B4t j
  (repeat refine Ar ?_)
  refine Dp A0 rfl rfl rfl rfl rfl rfl rfl rfl rfl rfl rfl (Fu (pA k++pC k k++pE j++[⟨6,j,0⟩])) (Bf rfl) Kc (by simp only [List.length_append];omega) (Al ?_)
  (repeat refine Ar ?_)
  refine B5 [(1,3)] (j+1) Ac Ac ⟨rfl,trivial⟩ ⟨?_,trivial⟩ trivial Aa trivial Aa
  exact congrArg Fu (by rw [B68];simp only [List.append_assoc])
 ·refine Ao A0 rfl rfl ⟨?_,trivial⟩
  have e:j=4:=by omega
  subst e
  exact congrArg Fu (by rw [Gz,Int.toNat_natCast])
end Go.Proofs.YtonodkjaoalfjaaGreat
