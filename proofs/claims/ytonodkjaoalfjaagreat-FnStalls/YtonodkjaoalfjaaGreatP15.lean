/- Part 15 of the proof that each of the laws FnStalls returns true for every input. No conditions. -/
import Derived.Test.YtonodkjaoalfjaaGreatP14

set_option linter.unusedSimpArgs false
set_option linter.unusedVariables false
set_option maxRecDepth 100000
namespace Go.Proofs.YtonodkjaoalfjaaGreat
open Go.Sx
def Me (ins:List A5):Prop:=ins.length≤5∧∀r∈ins,r.op=0∧r.stamp.turn=0∧(0≤r.stamp.epoch∧r.stamp.epoch≤3)∧(0≤r.key∧r.key≤11)∧(0≤r.val∧r.val≤39)
theorem B0k {xs:List A5}{e k v:Int}(h:∀r∈xs,r.op=0∧r.stamp.turn=0∧(0≤r.stamp.epoch∧r.stamp.epoch≤3)∧(0≤r.key∧r.key≤11)∧(0≤r.val∧r.val≤39))(he:0≤e∧e≤3)(hk:0≤k∧k≤11)(hv:0≤v∧v≤39):
  ∀r∈xs++[(⟨0,⟨e,0⟩,k,v⟩:A5)],r.op=0∧r.stamp.turn=0∧(0≤r.stamp.epoch∧r.stamp.epoch≤3)∧(0≤r.key∧r.key≤11)∧(0≤r.val∧r.val≤39):=fun r hr=>by
 rcases List.mem_append.1 hr with hr|hr
 ·exact h r hr
 ·rw [List.mem_singleton.1 hr]
  exact ⟨rfl,rfl,he,hk,hv⟩
structure JIn where
 k:Nat
 i:Int
 h:Int
 e:Int
 xs:List A5
theorem A90 (d:I9)(i h:Int)(hi:0≤i∧i≤d.n):Iv Tryz.prog HT 52 d.pins (d.cur i h) [] (fun r:Int×Int×List A5=>(0≤r.1∧r.1≤d.n)∧Me r.2.2) (fun r=>d.cur r.1 r.2.1) (fun r=>[.one (Ax r.2.2)]):=by
 refine Ol A0 false Tryz.func52 rfl Bu fun B b hH hp=>?_
 conv=>whnf
 refine G4 1 (Ax []) rfl (Db rfl F3) ?_
 refine Bw A0 false [6] (fun j:JIn=>[(4,.c (vi j.e)),(5,.c (vi j.k))]) (fun j=>[⟨0,[.c (.val d.v),.c (vi j.i),.c (vi j.h)]⟩]) (fun j=>[⟨1,Ax j.xs⟩]) (fun j=>(0≤j.i∧j.i≤d.n)∧j.k≤5∧j.xs.length=j.k∧(0≤j.e∧j.e≤2)∧∀r∈j.xs,r.op=0∧r.stamp.turn=0∧(0≤r.stamp.epoch∧r.stamp.epoch≤3)∧(0≤r.key∧r.key≤11)∧(0≤r.val∧r.val≤39)) (fun j=>5-j.k) (⟨0,i,h,0,[]⟩) (⟨hi,Nat.zero_le _,rfl,⟨Int.le_refl _,(by decide:(0:Int)≤2)⟩,fun r hr=>(List.not_mem_nil hr).elim⟩) ⟨by first|rfl|simp [Dl,ren2,ren1,ren0],by first|rfl|simp [Dl,ren2,ren1,ren0],trivial⟩ F3 ⟨by first|rfl|exact (congrArg (fun l=>Du _ _ l) (List.append_nil _)).symm|(show (_:A8)=_;simp)|simp,trivial⟩ Dh Aa (fun j hj=>?_)
 conv=>whnf
 obtain ⟨hi,hk,hx,he,hA⟩:=hj
 refine Fg (E5 d j.i j.h 6 hi Bu) hH hp rfl Ca rfl rfl (fun r hr=>go A0 false ?_)
 conv=>whnf
 refine G5 (fun hlt=>?_) fun hlt=>?_<;>conv=>whnf
 ·have hlt2:r.2.2<6:=hr.2.2.2 Ac
  refine Fg (E5 d r.1 r.2.1 2 hr.1 Bu) hH hp rfl Ca rfl rfl (fun r2 hr2=>go A0 false ?_)
  conv=>whnf
  have hr2b:r2.2.2<2:=hr2.2.2.2 Ac
  (repeat refine Ar ?_)
  refine Aw (A46 (j.e+r2.2.2) 0 2) rfl (Al ?_)
  have hB:=Jq (j.e+r2.2.2) 0 2 Bu
  refine Fg (E5 d r2.1 r2.2.1 12 hr2.1 Bu) hH hp rfl Ca rfl rfl (fun r3 hr3=>go A0 false ?_)
  conv=>whnf
  refine Fg (E5 d r3.1 r3.2.1 40 hr3.1 Bu) hH hp rfl Ca rfl rfl (fun r4 hr4=>go A0 false ?_)
  conv=>whnf
  have hk3:=hr3.2.2.2 Ac
  have hv4:=hr4.2.2.2 Ac
  refine Dp A0 rfl rfl rfl rfl rfl rfl rfl rfl rfl rfl rfl (Ax (j.xs++[⟨0,⟨En (j.e+r2.2.2) 0 2,0⟩,r3.2.2,r4.2.2⟩])) (Bf rfl) M1 Ac (Al ?_)
  (repeat refine Ar ?_)
  refine B5 [(1,3)] (⟨j.k+1,r4.1,r4.2.1,En (j.e+r2.2.2) 0 2,j.xs++[⟨0,⟨En (j.e+r2.2.2) 0 2,0⟩,r3.2.2,r4.2.2⟩]⟩) (⟨hr4.1,by show j.k+1≤5;omega,by simp [hx],hB,B0k hA ⟨hB.1,by omega⟩ ⟨hr3.2.1,by omega⟩ ⟨hr4.2.1,by omega⟩⟩) (by show 5-(j.k+1)<_;omega) ⟨rfl,rfl,trivial⟩ ⟨rfl,trivial⟩ F3 Aa Dh Aa
 ·exact Kk A0 (r.1,r.2.1,j.xs) ⟨hr.1,by show j.xs.length≤5;omega,hA⟩ rfl rfl rfl rfl Ca
theorem C23 (x:A3):B0 Tryz.prog 179 [.agg x.c] [.one (Fu (Gz (En x.graph.workers 0 4).toNat))]:=by
 have hb:=Jq x.graph.workers 0 4 Bu
 obtain ⟨n,hn⟩:∃n:Nat,En x.graph.workers 0 4=n:=⟨(En x.graph.workers 0 4).toNat,by omega⟩
 have h4:n≤4:=by omega
 refine Ay A0 false Tryz.func179 rfl Bu fun W=>?_
 conv=>whnf
 refine Aw (A46 x.graph.workers 0 4) rfl (Al ?_)
 rw [hn]
 refine G4 1 (Fu []) rfl F8 ?_
 refine Bw A0 false [9] (fun k:Nat=>[(5,.c (vi k))]) (fun k=>[]) (fun k=>[⟨1,Fu (pA k)⟩])
  (fun k=>k≤n) (fun k=>n-k) 0 (Nat.zero_le _) ⟨by first|rfl|simp [Dl,ren2,ren1,ren0],trivial⟩ trivial ⟨by first|rfl|exact (congrArg (fun l=>Du _ _ l) (List.append_nil _)).symm|(show (_:A8)=_;simp)|simp,trivial⟩ Dh Aa (fun k hk=>?_)
 conv=>whnf
 refine G5 (fun h=>?_) fun h=>?_<;>conv=>whnf
 ·have h:k<n:=by omega
  have hl:=A64 k
  refine Dp A0 rfl rfl rfl rfl rfl rfl rfl rfl rfl rfl rfl (Fu (pA k++pW k)) (C4y rfl rfl rfl rfl) M1 Ac (Al ?_)
  (repeat refine Ar ?_)
  refine B5 [(1,3)] (k+1) Ac Ac ⟨rfl,trivial⟩ ⟨congrArg Fu (A8y k).symm,trivial⟩ trivial Aa Dh Aa
 have e:n=k:=by omega
 subst e
 have hl:=A64 n
 refine Bw A0 false [] (fun k:Nat=>[(6,.c (vi k))]) (fun k=>[]) (fun k=>[⟨1,Fu (pA n++pC n k)⟩])
  (fun k=>k≤n) (fun k=>n-k) 0 (Nat.zero_le _) ⟨by first|rfl|simp [Dl,ren2,ren1,ren0],trivial⟩ trivial ⟨by first|rfl|exact (congrArg (fun l=>Du _ _ l) (List.append_nil _)).symm|(show (_:A8)=_;simp)|simp,trivial⟩ Dh Aa (fun k hk=>?_)
 conv=>whnf
 refine G5 (fun h=>?_) fun h=>?_<;>conv=>whnf
 ·have h:k<n:=by omega
  have hc:=A65 n k h4
  refine Bw A0 false [] (fun j:Nat=>[(7,.c (vi j))]) (fun _=>[]) (fun j=>[⟨1,Fu (pA n++(pC n k++pB k j))⟩])
   (fun j=>j≤n) (fun j=>n-j) 0 (Nat.zero_le _) ⟨rfl,trivial⟩ trivial ⟨(congrArg (fun l=>Du _ _ (pA n++l)) (List.append_nil _)).symm,trivial⟩ trivial Aa (fun j hj=>?_)
  conv=>whnf
  refine G5 (fun h'=>?_) fun h'=>?_<;>conv=>whnf
  ·have h':j<n:=by omega
   have hd:=B4q k j
   have hs:=A8z k j
   refine ⟨fun hq=>have hq:=bne_iff_ne.1 hq;?_,fun hq=>have hq:=bne_eq_false_iff_eq.1 hq;?_⟩<;>conv=>whnf
   ·(repeat refine Ar ?_)
    refine Dp A0 rfl rfl rfl rfl rfl rfl rfl rfl rfl rfl rfl (Fu (pA n++(pC n k++pB k j)++[⟨4,k,j⟩,⟨5,k,j⟩])) (B7k rfl rfl) M1 (by simp only [List.length_append];omega) (Al ?_)
    (repeat refine Ar ?_)
    refine B5 [(1,3)] (j+1) Ac Ac ⟨rfl,trivial⟩ ⟨?_,trivial⟩ trivial Aa trivial Aa
    exact congrArg Fu (by rw [hs,pK,if_neg hq];simp only [List.append_assoc])
   ·(repeat refine Ar ?_)
    refine B5 [] (j+1) Ac Ac ⟨rfl,trivial⟩ ⟨?_,trivial⟩ trivial Aa trivial Aa
    exact congrArg Fu (by rw [hs,pK,if_pos hq,List.append_nil])
  have e:n=j:=by omega
  (repeat refine Ar ?_)
  refine B5 [] (k+1) Ac Ac ⟨rfl,trivial⟩ ⟨congrArg Fu (by rw [←e,A80]),trivial⟩ trivial Aa Dh Aa
 have e:k=n:=by omega
 subst e
 have hc:=A65 k k h4
 refine Bw A0 false [] (fun j:Nat=>[(8,.c (vi j))]) (fun _=>[]) (fun j=>[⟨1,Fu (pA k++pC k k++pE j)⟩])
  (fun j=>j≤4) (fun j=>4-j) 0 (Nat.zero_le _) ⟨rfl,trivial⟩ trivial ⟨(congrArg (fun l=>Du _ _ l) (List.append_nil _)).symm,trivial⟩ trivial Aa (fun j hj=>?_)
 conv=>whnf
 refine G5 (fun h'=>?_) fun h'=>?_<;>conv=>whnf
 ·have h':j<4:=by omega
  have hd:=B4t j
  (repeat refine Ar ?_)
  refine Dp A0 rfl rfl rfl rfl rfl rfl rfl rfl rfl rfl rfl (Fu (pA k++pC k k++pE j++[⟨6,j,0⟩])) (Bf rfl) M1 (by simp only [List.length_append];omega) (Al ?_)
  (repeat refine Ar ?_)
  refine B5 [(1,3)] (j+1) Ac Ac ⟨rfl,trivial⟩ ⟨?_,trivial⟩ trivial Aa trivial Aa
  exact congrArg Fu (by rw [B68];simp only [List.append_assoc])
 ·refine Ao A0 rfl rfl ⟨?_,trivial⟩
  have e:j=4:=by omega
  subst e
  exact congrArg Fu (by rw [Gz,Int.toNat_natCast])
end Go.Proofs.YtonodkjaoalfjaaGreat
