/- Part 23 of the proof that each of the laws FnExactRunScriptOf, FnExactSpreadResult returns true for every input. No conditions. -/
import Derived.Test.YtlbmkgkmbjadcaaGreatP5
import Derived.Test.YtlbmkgkmbjadcaaGreatP19
import Derived.Test.YtlbmkgkmbjadcaaGreatP22

set_option linter.unusedSimpArgs false
set_option linter.unusedVariables false
set_option maxRecDepth 100000
namespace Go.Proofs.YtlbmkgkmbjadcaaGreat
open Go.Sx
theorem B17 (xs:List Aa)(hx:xs.length≤16777216)(f:Nat)(cs:List Ab)(p:Aa→Bool)(hf:∀x∈xs,Aq Tryz.prog f [.agg x.c,.ptr cs] [.one (vb (p x))]):
  Aq Tryz.prog 265 [.one (Ao xs),.fn f [.ptr cs]] [.one (vi (Kt p xs))]:=by
 refine Aj A0 false Tryz.func265 rfl Bs fun W=>?_
 conv=>whnf
 refine B6 A0 false [] (fun k:Nat=>[(8,.c (vi k))]) (fun k=>[]) (fun k=>[])
  (fun k=>k≤xs.length∧(xs.take k).any p=false) (fun k=>xs.length-k) 0 ⟨Nat.zero_le _,by first|rfl|assumption|simp⟩ ⟨by first|rfl|simp [Cr,ren2,ren1,ren0],trivial⟩ trivial trivial Cc A5 (fun k hk=>?_)
 obtain ⟨hk,he⟩:=hk
 conv=>whnf
 refine F2 (fun h=>?_) fun h=>?_<;>conv=>whnf
 ·have h:k<xs.length:=by omega
  (repeat refine An ?_)
  refine Ai (hf (xs.getD k default) (B2 h)) rfl (Ae ?_)
  refine ⟨fun hc=>?_,fun hc=>?_⟩<;>conv=>whnf
  ·exact Ah A0 rfl rfl ⟨congrArg vi (Mw p xs k he h hc),trivial⟩
  ·(repeat refine An ?_)
   refine At [] (k+1) ⟨by omega,Fc he h hc⟩ Ad ⟨rfl,trivial⟩ trivial trivial A5 Cc A5
 ·exact Ah A0 rfl rfl ⟨congrArg vi (Ii p xs (by rw [Ee xs k Ad] at he;exact he)),trivial⟩
def Iw (q:Aa→Bool) (l:List Aa) (j:Nat):Nat:=((l.take j).filter q).length
def Li (q:Aa→Bool) (l:List Aa) (j:Nat):List Aa:=(l.take j).filter q++l.drop (Iw q l j)
theorem B1a (q:Aa→Bool)(l:List Aa)(j:Nat):Iw q l j≤j:=Nat.le_trans (List.length_filter_le _ _) (List.length_take_le _ _)
theorem A69 (q:Aa→Bool)(l:List Aa)(j:Nat):Iw q l j≤l.length:=Nat.le_trans (List.length_filter_le _ _) (List.length_take_le' _ _)
theorem Vs {q:Aa→Bool}{l:List Aa}{j:Nat}(hj:j<l.length):Iw q l (j+1)=Iw q l j+if q (l.getD j default)=true then 1 else 0:=by
 unfold Iw
 rw [Dv q l j hj,List.length_append]
 split<;>rfl
theorem B1d {q:Aa→Bool}{l:List Aa}{j:Nat}:(Li q l j).length=l.length:=by
 have:=A69 q l j
 rw [Li,List.length_append,List.length_drop]
 show Iw q l j+_=_
 omega
theorem B1c {q:Aa→Bool}{l:List Aa}{j i:Nat}(h:Iw q l j≤i):(Li q l j).getD i default=l.getD i default:=by
 have e:((l.take j).filter q).length≤i:=h
 simp only [Li,List.getD,List.getElem?_append_right e,List.getElem?_drop]
 rw [show Iw q l j+(i-((l.take j).filter q).length)=i by show Iw q l j+(i-Iw q l j)=i;omega]
theorem A8u {q:Aa→Bool}{l:List Aa}{j:Nat}(hj:j<l.length)(hq:q (l.getD j default)=true):Li q l (j+1)=(Li q l j).set (Iw q l j) (l.getD j default):=by
 have h1:=B1a q l j
 have e:Iw q l (j+1)=Iw q l j+1:=by rw [Vs hj,if_pos hq]
 unfold Li
 rw [e,Dv q l j hj,if_pos hq,List.set_append_right _ _ (show ((l.take j).filter q).length≤Iw q l j from Nat.le_refl _),show Iw q l j-((l.take j).filter q).length=0 from Nat.sub_self _,List.append_assoc]
 congr 1
 rw [show l.drop (Iw q l j)=l.getD (Iw q l j) default::l.drop (Iw q l j+1) by rw [List.drop_eq_getElem_cons Ad];simp [List.getD,show Iw q l j<l.length by omega]]
 rfl
theorem Sy {q:Aa→Bool}{l:List Aa}{j:Nat}(hj:j<l.length)(hq:q (l.getD j default)=false):Li q l (j+1)=Li q l j∧Iw q l (j+1)=Iw q l j:=by
 have e:Iw q l (j+1)=Iw q l j:=by rw [Vs hj,if_neg (by rw [hq];decide)];rfl
 refine ⟨?_,e⟩
 unfold Li
 rw [e,Dv q l j hj,if_neg (by rw [hq];decide),List.append_nil]
theorem Vk {q:Aa→Bool}{l:List Aa}{k:Nat}(h:(l.take k).any (fun y=>!q y)=false):(l.take k).filter q=l.take k:=by
 rw [List.filter_eq_self]
 intro y hy
 have:=List.any_eq_false.1 h y hy
 simpa using this
theorem A48 {q:Aa→Bool}{l:List Aa}{k:Nat}(hk:k<l.length)(h:(l.take k).any (fun y=>!q y)=false)(hq:q (l.getD k default)=false):Li q l (k+1)=l∧Iw q l (k+1)=k:=by
 have e:=Sy hk hq
 have c:Iw q l k=k:=by rw [Iw,Vk h,List.length_take];omega
 rw [e.1,e.2,c,Li,c,Vk h,List.take_append_drop]
 exact ⟨rfl,rfl⟩
theorem B1b {q:Aa→Bool}{l:List Aa}{j:Nat}(h:l.length≤j):Li q l j=l.filter q++l.drop (l.filter q).length∧Iw q l j=(l.filter q).length:=by
 rw [Li,Iw,List.take_of_length_le h]
 exact ⟨rfl,rfl⟩
theorem B1x (p:Aa→Bool)(l:List Aa)(h:l.any p=true):∃k,k<l.length∧(l.take k).any p=false∧p (l.getD k default)=true:=by
 induction l with
 |nil=>simp at h
 |cons y r ih=>
  by_cases hy:p y=true
  ·exact ⟨0,by simp,by simp,hy⟩
  ·have hy:p y=false:=by simpa using hy
   rw [List.any_cons,hy,Bool.false_or] at h
   obtain ⟨k,h1,h2,h3⟩:=ih h
   exact ⟨k+1,by simpa using h1,by rw [List.take_succ_cons,List.any_cons,hy,h2];rfl,h3⟩
theorem A2u (p:Aa→Bool)(l:List Aa):(Kt p l= -1∧l.any p=false)∨∃k,k<l.length∧Kt p l=(k:Int)∧(l.take k).any p=false∧p (l.getD k default)=true:=by
 cases h:l.any p with
 |false=>exact .inl ⟨Ii p l h,rfl⟩
 |true=>
  right
  have ex:=B1x p l h
  obtain ⟨k,h1,h2,h3⟩:=ex
  exact ⟨k,h1,Mw p l k h2 h1 h3,h2,h3⟩
theorem A85 {q:Aa→Bool}{l:List Aa}{k:Nat}(hk:k<l.length)(hq:q (l.getD k default)=false):(l.filter q).length<l.length:=by
 exact List.length_filter_lt_length_iff_exists.2 ⟨_,B2 (d:=default) hk,by rw [hq];decide⟩
theorem B5v (l:List Aa):(Gf Aa.c l).length=l.length * 4:=A13 (es:=4) (fun _=>rfl) l
set_option maxHeartbeats 4000000 in
theorem P3 (l:List Aa)(f:Nat)(cs:List Ab)(p:Aa→Bool)(hl:l.length≤16777216)(hf:∀y:Aa,Aq Tryz.prog f [.agg y.c,.ptr cs] [.one (vb (p y))]):
  Qv Tryz.prog (fun _=>True) 260 [] [.one (Ao l)] [.fn f [.ptr cs]] (fun _:Unit=>True) (fun _=>[.one (Ao (l.filter fun y=>!p y))]):=by
 refine A49 A0 false Tryz.func260 rfl Bs fun B hH hp=>?_
 conv=>whnf
 refine Ai (B17 l hl f cs p (fun y _=>hf y)) rfl (Ae ?_)
 rcases A2u p l with ⟨hi,ha⟩|⟨k0,hk0,hi,ha,hp0⟩
 ·rw [hi]
  repeat refine B9 ?_
  rw [show l.filter (fun y=>!p y)=l by rw [List.filter_eq_self];intro y hy;have:=List.any_eq_false.1 ha y hy;simpa using this]
  exact A6a A0 () trivial rfl rfl C1
 ·rw [hi]
  have hpn:(fun y=>!(fun y=>!p y) y)=p:=by funext y;simp
  obtain ⟨c1,c2⟩:=A48 (q:=fun y=>!p y) hk0 (by rw [hpn];exact ha) (by show (!p (l.getD k0 default))=false;rw [hp0];rfl)
  refine F7 B0u ?_
  conv=>whnf
  (repeat refine An ?_)
  refine B6 A0 false [] (fun j:Nat×Nat×List Aa=>[(6,.c (vi j.1)),(5,.c (vi j.2.1))]) (fun j=>[]) (fun j=>[⟨0,Ao j.2.2⟩]) (fun j=>j.1≤l.length∧k0<j.1∧j.2.1=Iw (fun y=>!p y) l j.1∧j.2.2=Li (fun y=>!p y) l j.1) (fun j=>l.length-j.1) ((k0+1,k0,l)) (⟨hk0,Nat.lt_succ_self _,c2.symm,c1.symm⟩) ⟨by first|rfl|simp [Cr,ren2,ren1,ren0],by first|rfl|simp [Cr,ren2,ren1,ren0],trivial⟩ trivial ⟨by first|rfl|exact (congrArg (fun l=>Cb _ _ l) (List.append_nil _)).symm|(show (_:Ab)=_;simp)|simp,trivial⟩ Cc A5 (fun j hj=>?_)
  conv=>whnf
  obtain ⟨hj1,hjk,hj2,hj3⟩:=hj
  have hxl:j.2.2.length=l.length:=by rw [hj3];exact B1d
  have hcj:=B1a (fun y=>!p y) l j.1
  have hcl:=A69 (fun y=>!p y) l j.1
  refine F2 (fun h=>?_) fun h=>?_<;>conv=>whnf
  ·have h:j.1<l.length:=by omega
   have hg:j.2.2.getD j.1 default=l.getD j.1 default:=by rw [hj3];exact B1c hcj
   (repeat refine An ?_)
   refine Ai (hf (j.2.2.getD j.1 default)) rfl (Ae ?_)
   refine ⟨fun hc=>?_,fun hc=>?_⟩<;>conv=>whnf
   ·have hc:(fun y=>!p y) (l.getD j.1 default)=true:=by rw [←hg];exact hc
    (repeat refine An ?_)
    refine Bj (j:=(j.2.1:Int)) A0 rfl rfl rfl rfl rfl rfl rfl rfl (Ao (j.2.2.set j.2.1 (j.2.2.getD j.1 default))) (Cz (by rw [Int.toNat_natCast];omega) rfl) (Ae ?_)
    (repeat refine An ?_)
    refine At [] ((j.1+1,j.2.1+1,j.2.2.set j.2.1 (j.2.2.getD j.1 default))) (⟨h,by show k0<j.1+1;omega,by show j.2.1+1=_;rw [Vs h,if_pos hc,hj2],by show j.2.2.set j.2.1 _=_;rw [A8u h hc,hg,hj2,hj3]⟩) (by show l.length-(j.1+1)<_;omega) ⟨rfl,rfl,trivial⟩ ⟨rfl,trivial⟩ trivial A5 Cc A5
   ·have hc:(fun y=>!p y) (l.getD j.1 default)=false:=by rw [←hg];exact hc
    (repeat refine An ?_)
    refine At [] ((j.1+1,j.2.1,j.2.2)) (⟨h,by show k0<j.1+1;omega,by show j.2.1=_;rw [(Sy h hc).2,hj2],by show j.2.2=_;rw [(Sy h hc).1,hj3]⟩) (by show l.length-(j.1+1)<_;omega) ⟨rfl,rfl,trivial⟩ ⟨rfl,trivial⟩ trivial A5 Cc A5
  ·have h:l.length≤j.1:=by omega
   obtain ⟨e1,e2⟩:=B1b (q:=fun y=>!p y) h
   have hlt:=A85 (q:=fun y=>!p y) hk0 (by show (!p (l.getD k0 default))=false;rw [hp0];rfl)
   rw [e1] at hj3
   rw [e2] at hj2
   rw [hj3] at hxl
   rw [hj2,hj3]
   generalize hf':l.filter (fun y=>!p y)=F at *
   generalize hD:l.drop F.length=D at *
   have hxl2:F.length+D.length=l.length:=by rw [←hxl,List.length_append]
   refine V5 0 4 Aa.c (F++D) rfl (by rw [hxl];omega) (J8 _ _) (fun b off cap pre Ck p1 p2 p3 p4=>?_)
   rw [hxl] at p2 p4
   refine Ln 0 0 rfl rfl ?_
   refine Ln 36 0 rfl rfl ?_
   refine I6 A0 rfl rfl rfl rfl rfl rfl (l:=(F.length:Int)) (h:=((F++D).length:Int)) rfl rfl ⟨by omega,by rw [hxl];omega,by rw [hxl];omega,fun _=>by rw [hxl];omega,by omega⟩ (off * 4+F.length * 4) D.length (cap-F.length) C7 (by rw [hxl];omega) C7 (Lj A0 false ?_)
   conv=>whnf
   refine A47 (kb:=1) A0 rfl rfl rfl rfl rfl rfl rfl rfl Ad (pre++Gf Aa.c F) (Gf Aa.c D) Ck (by show pre++Gf Aa.c (F++D)++Ck=_;rw [H4];simp only [List.append_assoc]) (by rw [List.length_append,B5v,p1]) (B5v D) (Lj A0 false ?_)
   conv=>whnf
   refine I6 A0 rfl rfl rfl rfl rfl rfl (l:=0) (h:=(F.length:Int)) rfl rfl ⟨by omega,by omega,by omega,(fun h=>by cases h),by omega⟩ (off * 4) F.length cap C7 C7 C7 (Lj A0 false ?_)
   conv=>whnf
   refine A3t Tryz.prog 4 1 off 4 Aa.c F pre (List.replicate (D.length * 4) .any++Ck) rfl (by simp only [List.append_assoc]) (by exact p1) (fun _=>rfl) (J8 _ _) (by exact p3) (by exact ⟨by omega,by rw [List.length_append,List.length_replicate];omega⟩) rfl rfl rfl rfl ?_
   exact A6a A0 () trivial rfl rfl C1
end Go.Proofs.YtlbmkgkmbjadcaaGreat
