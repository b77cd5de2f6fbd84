/- Part 12 of the proof that each of the laws FnTight returns true for every input. No conditions. -/
import Derived.Test.YtonodkjaoalfjaaP11

set_option linter.unusedSimpArgs false
set_option linter.unusedVariables false
set_option maxRecDepth 100000
namespace Go.Proofs.Ytonodkjaoalfjaa
open Go.Sx
theorem B2b (x:A3):Bp Try.prog 41 [.agg x.c] [.one (C4 (Ru (Dn x.graph.workers 0 4).toNat))]:=by
 have hb:=G1 x.graph.workers 0 4 Cb
 obtain ⟨n,hn⟩:∃n:Nat,Dn x.graph.workers 0 4=n:=⟨(Dn x.graph.workers 0 4).toNat,by omega⟩
 have h4:n≤4:=by omega
 refine Bm A0 false Try.func41 rfl Cb fun W=>?_
 conv=>whnf
 refine B7 (P4 x.graph.workers 0 4) rfl (Af ?_)
 rw [hn]
 refine Du 1 (C4 []) rfl Da ?_
 refine Cc A0 false [9] (fun k:Nat=>[(5,.c (vi k))]) (fun k=>[]) (fun k=>[⟨1,C4 (pA k)⟩])
  (fun k=>k≤n) (fun k=>n-k) 0 (Nat.zero_le _) ⟨by first|rfl|simp [Dc,ren2,ren1,ren0],trivial⟩ trivial ⟨by first|rfl|exact (congrArg (fun l=>Dz _ _ l) (List.append_nil _)).symm|(show (_:A7)=_;simp)|simp,trivial⟩ Dg A6 (fun k hk=>?_)
 conv=>whnf
 refine G2 (fun h=>?_) fun h=>?_<;>conv=>whnf
 ·have h:k<n:=by omega
  have hl:=X1 k
  refine B4 A0 rfl rfl rfl rfl rfl rfl rfl rfl rfl rfl rfl (C4 (pA k++pW k)) (B4x rfl rfl rfl rfl) Rt Ag (Af ?_)
  (repeat refine Ak ?_)
  refine B8 [(1,3)] (k+1) Ag Ag ⟨rfl,trivial⟩ ⟨congrArg C4 (Yu k).symm,trivial⟩ trivial A6 Dg A6
 have e:n=k:=by omega
 subst e
 have hl:=X1 n
 refine Cc A0 false [] (fun k:Nat=>[(6,.c (vi k))]) (fun k=>[]) (fun k=>[⟨1,C4 (pA n++pC n k)⟩])
  (fun k=>k≤n) (fun k=>n-k) 0 (Nat.zero_le _) ⟨by first|rfl|simp [Dc,ren2,ren1,ren0],trivial⟩ trivial ⟨by first|rfl|exact (congrArg (fun l=>Dz _ _ l) (List.append_nil _)).symm|(show (_:A7)=_;simp)|simp,trivial⟩ Dg A6 (fun k hk=>?_)
 conv=>whnf
 refine G2 (fun h=>?_) fun h=>?_<;>conv=>whnf
 ·have h:k<n:=by omega
  have hc:=X2 n k h4
  refine Cc A0 false [] (fun j:Nat=>[(7,.c (vi j))]) (fun _=>[]) (fun j=>[⟨1,C4 (pA n++(pC n k++pB k j))⟩])
   (fun j=>j≤n) (fun j=>n-j) 0 (Nat.zero_le _) ⟨rfl,trivial⟩ trivial ⟨(congrArg (fun l=>Dz _ _ (pA n++l)) (List.append_nil _)).symm,trivial⟩ trivial A6 (fun j hj=>?_)
  conv=>whnf
  refine G2 (fun h'=>?_) fun h'=>?_<;>conv=>whnf
  ·have h':j<n:=by omega
   have hd:=A29 k j
   have hs:=Yv k j
   refine ⟨fun hq=>have hq:=bne_iff_ne.1 hq;?_,fun hq=>have hq:=bne_eq_false_iff_eq.1 hq;?_⟩<;>conv=>whnf
   ·(repeat refine Ak ?_)
    refine B4 A0 rfl rfl rfl rfl rfl rfl rfl rfl rfl rfl rfl (C4 (pA n++(pC n k++pB k j)++[⟨4,k,j⟩,⟨5,k,j⟩])) (A5u rfl rfl) Rt (by simp only [List.length_append];omega) (Af ?_)
    (repeat refine Ak ?_)
    refine B8 [(1,3)] (j+1) Ag Ag ⟨rfl,trivial⟩ ⟨?_,trivial⟩ trivial A6 trivial A6
    exact congrArg C4 (by rw [hs,pK,if_neg hq];simp only [List.append_assoc])
   ·(repeat refine Ak ?_)
    refine B8 [] (j+1) Ag Ag ⟨rfl,trivial⟩ ⟨?_,trivial⟩ trivial A6 trivial A6
    exact congrArg C4 (by rw [hs,pK,if_pos hq,List.append_nil])
  have e:n=j:=by omega
  (repeat refine Ak ?_)
  refine B8 [] (k+1) Ag Ag ⟨rfl,trivial⟩ ⟨congrArg C4 (by rw [←e,Yw]),trivial⟩ trivial A6 Dg A6
 have e:k=n:=by omega
 subst e
 have hc:=X2 k k h4
 refine Cc A0 false [] (fun j:Nat=>[(8,.c (vi j))]) (fun _=>[]) (fun j=>[⟨1,C4 (pA k++pC k k++pE j)⟩])
  (fun j=>j≤4) (fun j=>4-j) 0 (Nat.zero_le _) ⟨rfl,trivial⟩ trivial ⟨(congrArg (fun l=>Dz _ _ l) (List.append_nil _)).symm,trivial⟩ trivial A6 (fun j hj=>?_)
 conv=>whnf
 refine G2 (fun h'=>?_) fun h'=>?_<;>conv=>whnf
 ·have h':j<4:=by omega
  have hd:=A3a j
  (repeat refine Ak ?_)
  refine B4 A0 rfl rfl rfl rfl rfl rfl rfl rfl rfl rfl rfl (C4 (pA k++pC k k++pE j++[⟨6,j,0⟩])) (B5 rfl) Rt (by simp only [List.length_append];omega) (Af ?_)
  (repeat refine Ak ?_)
  refine B8 [(1,3)] (j+1) Ag Ag ⟨rfl,trivial⟩ ⟨?_,trivial⟩ trivial A6 trivial A6
  exact congrArg C4 (by rw [A5h];simp only [List.append_assoc])
 ·refine B1 A0 rfl rfl ⟨?_,trivial⟩
  have e:j=4:=by omega
  subst e
  exact congrArg C4 (by rw [Ru,Int.toNat_natCast])
end Go.Proofs.Ytonodkjaoalfjaa
