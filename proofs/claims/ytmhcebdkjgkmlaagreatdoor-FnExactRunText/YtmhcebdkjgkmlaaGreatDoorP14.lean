/- Part 14 of the proof that each of the laws FnExactWhoIsDone, FnExactResultText, FnExactRunText returns true for every input. No conditions. -/
import Derived.Test.YtmhcebdkjgkmlaaGreatDoorP13

set_option linter.unusedSimpArgs false
set_option linter.unusedVariables false
set_option maxRecDepth 100000
namespace Go.Proofs.YtmhcebdkjgkmlaaGreatDoor
open Go.Sx
theorem C6r (xs:List Ad)(hx:xs.length≤16777216)(f:Nat)(cs:List Ag)(p:Ad→Bool)(hf:∀x∈xs,Dj f [.agg x.c,.ptr cs] [.one (vb (p x))]):
  Dj 336 [.one (Ai xs),.fn f [.ptr cs]] [.one (vi (P8 p xs))]:=by
 refine E3 Tryz.func336 fun W=>?_;refine Fv [] (fun k:Nat=>[(8,.c (vi k))]) (fun k=>[]) (fun k=>[]) (fun k=>k≤xs.length∧(xs.take k).any p=false) (fun k=>xs.length-k) fun k hk=>?_;obtain ⟨hk,he⟩:=hk;refine Eh (fun h=>?_) fun h=>?_
 ·have h:k<xs.length:=by omega
  refine B8 ?_;refine F0 (hf (xs.getD k default) (Am h)) ?_;refine Cc (fun hc=>?_) fun hc=>?_
  ·exact An A0 rfl rfl ⟨A6 vi (Sp p xs k he h hc),trivial⟩
  refine B8 ?_;refine Ci [] (k+1) ⟨by omega,Gn he h hc⟩ A7 ⟨rfl,trivial⟩ trivial
 exact An A0 rfl rfl ⟨A6 vi (M4 p xs (by rw [F9 xs k A7] at he;exact he)),trivial⟩
def Mo (q:Ad→Bool) (l:List Ad) (j:Nat):Nat:=((l.take j).filter q).length
def Q4 (q:Ad→Bool) (l:List Ad) (j:Nat):List Ad:=(l.take j).filter q++l.drop (Mo q l j)
theorem C5x (q:Ad→Bool)(l:List Ad)(j:Nat):Mo q l j≤j:=Ew (Ni _ _) (Lv _ _)
theorem C1d (q:Ad→Bool)(l:List Ad)(j:Nat):Mo q l j≤l.length:=Ew (Ni _ _) (List.length_take_le' _ _)
variable {q : Ad → Bool} {l : List Ad} {j : Nat}
theorem A6s (hj:j<l.length):Mo q l (j+1)=Mo q l j+if q (l.getD j default)=true then 1 else 0:=by
 unfold Mo;rw [Em q l j hj,D7]
 split<;>rfl
theorem C50:(Q4 q l j).length=l.length:=by
 have:=C1d q l j
 rw [Q4,D7,G4]
 show Mo q l j+_=_
 omega
theorem C5z {i:Nat}(h:Mo q l j≤i):(Q4 q l j).getD i default=l.getD i default:=by
 have e:((l.take j).filter q).length≤i:=h;simp only [Q4,List.getD,F1 e,Tc];rw [show Mo q l j+(i-((l.take j).filter q).length)=i by show Mo q l j+(i-Mo q l j)=i;omega]
theorem C3d (hj:j<l.length)(hq:q (l.getD j default)=true):Q4 q l (j+1)=(Q4 q l j).set (Mo q l j) (l.getD j default):=by
 have h1:=C5x q l j;have e:Mo q l (j+1)=Mo q l j+1:=by rw [A6s hj,Ak hq]
 unfold Q4;rw [e,Em q l j hj,Ak hq,List.set_append_right _ _ (show ((l.take j).filter q).length≤Mo q l j from Df _),show Mo q l j-((l.take j).filter q).length=0 from Nat.sub_self _,Cv]
 congr 1
 rw [show l.drop (Mo q l j)=l.getD (Mo q l j) default::l.drop (Mo q l j+1) by rw [A3q A7];simp [List.getD,show Mo q l j<l.length by omega]]
 rfl
theorem A2l (hj:j<l.length)(hq:q (l.getD j default)=false):Q4 q l (j+1)=Q4 q l j∧Mo q l (j+1)=Mo q l j:=by
 have e:Mo q l (j+1)=Mo q l j:=by rw [A6s hj,Ab (by rw [hq];decide)];rfl
 refine ⟨?_,e⟩;unfold Q4;rw [e,Em q l j hj,Ab (by rw [hq];decide),Hw]
theorem A6k {k:Nat}(h:(l.take k).any (fun y=>!q y)=false):(l.take k).filter q=l.take k:=by
 rw [List.filter_eq_self];intro y hy
 have:=A3n.1 h y hy
 simpa using this
theorem B83 {k:Nat}(hk:k<l.length)(h:(l.take k).any (fun y=>!q y)=false)(hq:q (l.getD k default)=false):Q4 q l (k+1)=l∧Mo q l (k+1)=k:=by
 have e:=A2l hk hq;have c:Mo q l k=k:=by rw [Mo,A6k h,Eo];omega
 rw [e.1,e.2,c,Q4,c,A6k h,Pe];exact ⟨rfl,rfl⟩
theorem C5y (h:l.length≤j):Q4 q l j=l.filter q++l.drop (l.filter q).length∧Mo q l j=(l.filter q).length:=by
 rw [Q4,Mo,K0 h];exact ⟨rfl,rfl⟩
theorem C6f (p:Ad→Bool)(l:List Ad)(h:l.any p=true):∃k,k<l.length∧(l.take k).any p=false∧p (l.getD k default)=true:=by
 induction l with
 |nil=>simp at h
 |cons y r ih=>
  by_cases hy:p y=true
  ·exact ⟨0,by simp,by simp,hy⟩
  have hy:p y=false:=by simpa using hy
  rw [List.any_cons,hy,A0p] at h;obtain ⟨k,h1,h2,h3⟩:=ih h;exact ⟨k+1,by simpa using h1,by rw [A9u,List.any_cons,hy,h2];rfl,h3⟩
theorem B5w (p:Ad→Bool)(l:List Ad):(P8 p l= -1∧l.any p=false)∨∃k,k<l.length∧P8 p l=(k:Int)∧(l.take k).any p=false∧p (l.getD k default)=true:=by
 cases h:l.any p with
 |false=>exact .inl ⟨M4 p l h,rfl⟩
 |true=>
  right
  have ex:=C6f p l h;obtain ⟨k,h1,h2,h3⟩:=ex;exact ⟨k,h1,Sp p l k h2 h1 h3,h2,h3⟩
theorem C3q {k:Nat}(hk:k<l.length)(hq:q (l.getD k default)=false):(l.filter q).length<l.length:=by
 exact List.length_filter_lt_length_iff_exists.2 ⟨_,Am (d:=default) hk,by rw [hq];decide⟩
theorem D1f (l:List Ad):(Iu Ad.c l).length=l.length * 4:=B4w (es:=4) (fun _=>rfl) l
set_option maxHeartbeats 4000000 in
theorem Vw (l:List Ad)(f:Nat)(cs:List Ag)(p:Ad→Bool)(hl:l.length≤16777216)(hf:∀y:Ad,Dj f [.agg y.c,.ptr cs] [.one (vb (p y))]):
  Vh Tryz.prog (fun _=>True) 332 [] [.one (Ai l)] [.fn f [.ptr cs]] (fun _:Unit=>True) (fun _=>[.one (Ai (l.filter fun y=>!p y))]):=by
 refine B26 A0 false Tryz.func332 rfl Cw fun B hH hp=>?_;conv=>whnf
 refine As (C6r l hl f cs p (fun y _=>hf y)) rfl (Aj ?_)
 rcases B5w p l with ⟨hi,ha⟩|⟨k0,hk0,hi,ha,hp0⟩
 ·rw [hi]
  refine Ar ?_;rw [show l.filter (fun y=>!p y)=l by rw [List.filter_eq_self];intro y hy;have:=A3n.1 ha y hy;simpa using this]
  exact Zo A0 () trivial rfl rfl Mm
 rw [hi];have hpn:(fun y=>!(fun y=>!p y) y)=p:=by funext y;simp
 obtain ⟨c1,c2⟩:=B83 (q:=fun y=>!p y) hk0 (by rw [hpn];exact ha) (by show (!p (l.getD k0 default))=false;rw [hp0];rfl)
 refine Hf B5b ?_;conv=>whnf
 refine B8 ?_;refine zlW [] (fun j:Nat×Nat×List Ad=>[(6,.c (vi j.1)),(5,.c (vi j.2.1))]) (fun j=>[]) (fun j=>[⟨0,Ai j.2.2⟩]) (fun j=>j.1≤l.length∧k0<j.1∧j.2.1=Mo (fun y=>!p y) l j.1∧j.2.2=Q4 (fun y=>!p y) l j.1) (fun j=>l.length-j.1) ((k0+1,k0,l)) (⟨hk0,Rv _,c2.symm,c1.symm⟩) fun j hj=>?_;obtain ⟨hj1,hjk,hj2,hj3⟩:=hj;have hxl:j.2.2.length=l.length:=by rw [hj3];exact C50
 have hcj:=C5x (fun y=>!p y) l j.1;have hcl:=C1d (fun y=>!p y) l j.1;refine Eh (fun h=>?_) fun h=>?_
 ·have h:j.1<l.length:=by omega
  have hg:j.2.2.getD j.1 default=l.getD j.1 default:=by rw [hj3];exact C5z hcj
  refine B8 ?_;refine F0 (hf (j.2.2.getD j.1 default)) ?_;refine Cc (fun hc=>?_) fun hc=>?_
  ·have hc:(fun y=>!p y) (l.getD j.1 default)=true:=by rw [←hg];exact hc
   refine B8 ?_;refine Bt (j:=(j.2.1:Int)) A0 rfl (Ai (j.2.2.set j.2.1 (j.2.2.getD j.1 default))) (Dd (by rw [Bu];omega) rfl) (Er ?_);refine Ci [] ((j.1+1,j.2.1+1,j.2.2.set j.2.1 (j.2.2.getD j.1 default))) (⟨h,by show k0<j.1+1;omega,by show j.2.1+1=_;rw [A6s h,Ak hc,hj2],by show j.2.2.set j.2.1 _=_;rw [C3d h hc,hg,hj2,hj3]⟩) (by show l.length-(j.1+1)<_;omega) ⟨rfl,rfl,trivial⟩ ⟨rfl,trivial⟩
  have hc:(fun y=>!p y) (l.getD j.1 default)=false:=by rw [←hg];exact hc
  refine B8 ?_;refine Ci [] ((j.1+1,j.2.1,j.2.2)) (⟨h,by show k0<j.1+1;omega,by show j.2.1=_;rw [(A2l h hc).2,hj2],by show j.2.2=_;rw [(A2l h hc).1,hj3]⟩) (by show l.length-(j.1+1)<_;omega) ⟨rfl,rfl,trivial⟩ ⟨rfl,trivial⟩
 have h:l.length≤j.1:=by omega
 obtain ⟨e1,e2⟩:=C5y (q:=fun y=>!p y) h;have hlt:=C3q (q:=fun y=>!p y) hk0 (by show (!p (l.getD k0 default))=false;rw [hp0];rfl)
 rw [e1] at hj3;rw [e2] at hj2;rw [hj3] at hxl;rw [hj2,hj3];generalize hf':l.filter (fun y=>!p y)=F at *;generalize hD:l.drop F.length=D at *;have hxl2:F.length+D.length=l.length:=by rw [←hxl,D7]
 refine A51 0 4 Ad.c (F++D) rfl (by rw [hxl];omega) (Mz _ _) (fun b off cap pre C9 p1 p2 p3 p4=>?_);rw [hxl] at p2 p4;refine Qb 0 0 rfl rfl ?_;refine Qb 36 0 rfl rfl ?_;refine Li A0 rfl ⟨by omega,by rw [hxl];omega,by rw [hxl];omega,fun _=>by rw [hxl];omega,by omega⟩ (off * 4+F.length * 4) D.length (cap-F.length) Bi (by rw [hxl];omega) Bi (Go.Sx.Hd A0 false ?_);conv=>whnf
 refine B81 (kb:=1) A0 rfl rfl rfl rfl rfl rfl rfl rfl A7 (pre++Iu Ad.c F) (Iu Ad.c D) C9 (by show pre++Iu Ad.c (F++D)++C9=_;rw [Jq];simp only [Cv]) (by rw [D7,D1f,p1]) (D1f D) (Go.Sx.Hd A0 false ?_)
 conv=>whnf
 refine Li A0 rfl ⟨by omega,by omega,by omega,(fun h=>by cases h),by omega⟩ (off * 4) F.length cap Bi Bi Bi (Go.Sx.Hd A0 false ?_);conv=>whnf
 refine B66 Tryz.prog 4 1 off 4 Ad.c F pre (List.replicate (D.length * 4) .any++C9) rfl (by simp only [Cv]) (by exact p1) (fun _=>rfl) (Mz _ _) (by exact p3) (by exact ⟨by omega,by rw [D7,X7];omega⟩) rfl rfl rfl rfl ?_;exact Zo A0 () trivial rfl rfl Mm
theorem C07 (x y:Ad):Dj 333 [.agg y.c,.ptr x.c] [.one (vb (B5 x y))]:=by
 refine E3 Tryz.func333 fun W=>?_;refine F0 (A1i x y) ?_;exact An A0 rfl rfl ⟨rfl,trivial⟩
set_option maxHeartbeats 1000000 in
theorem A7h (l:List Ad)(x:Ad)(hl:l.length≤16000000):Dj 325 [.one (Ai l),.agg x.c] [.one (Ai (Kg l x).1),.one (vb (Kg l x).2)]:=by
 refine E3 Tryz.func325 fun W=>?_;refine F0 (B6b l x.op x.ab x.key A7) ?_;refine Cc (fun h1=>?_) fun h1=>?_
 ·refine Ar ?_
  refine Cc (fun h2=>?_) fun h2=>?_
  ·refine Ar ?_
   refine Gg (Fw l A7) ?_;rw [Kg,Ak ⟨h1,Bj h2⟩];exact D0
  refine Ar ?_;refine Gg (Fw l A7) ?_;refine C5q [.own 1] (Vw l _ x.c (fun y=>B5 x y) A7 (C07 x)) (fun _ _=>trivial) (fun _ h=>by cases h) Mm rfl rfl rfl (fun i _=>go A0 false ?_);conv=>whnf
  refine Gg (Rh (l.filter fun y=>!B5 x y) x (by have:=Ni (fun y=>!B5 x y) l;omega)) ?_;rw [Kg,Ab (fun p=>absurd p.2 (Cr h2))];exact D0
 refine Ar ?_;refine Gg (Fw l A7) ?_;refine C5q [.own 1] (Vw l _ x.c (fun y=>B5 x y) A7 (C07 x)) (fun _ _=>trivial) (fun _ h=>by cases h) Mm rfl rfl rfl (fun i _=>go A0 false ?_);conv=>whnf
 refine Gg (Rh (l.filter fun y=>!B5 x y) x (by have:=Ni (fun y=>!B5 x y) l;omega)) ?_;rw [Kg,Ab (fun p=>by rw [p.1] at h1;cases h1)];exact D0
theorem B4a {l:List Ad}{x:Ad}:Cs 6 l x=(Dc l x,!O6 l x):=by
 unfold Cs;rw [Ab Cw,Ak rfl]
 cases h:O6 l x with
 |true=>rw [Ak rfl,Dc,Ak h];rfl
 |false=>rw [Ab Cw];rfl
theorem A24 {k:Int}{l:List Ad}{x:Ad}(h5:k≠5)(h8:k≠8)(h6:k≠6):Cs k l x=(l,true):=by
 unfold Cs;rw [Ab A7,Ab h6]
set_option maxHeartbeats 1000000 in
theorem A7q (kind:Int)(l:List Ad)(x:Ad)(hl:l.length≤16000000):Dj 307 [.one (vi kind),.one (Ai l),.agg x.c] [.one (Ai (Cs kind l x).1),.one (vb (Cs kind l x).2)]:=by
 refine E3 Tryz.func307 fun W=>?_;refine ⟨fun h5=>have h5:=eq_of_beq h5;?_,fun h5=>have h5:=beq_eq_false_iff_ne.1 h5;?_⟩<;>conv=>whnf
 ·refine Ar ?_
  refine Gg (A7h l x hl) ?_;rw [Cs,Ak (.inl h5)];exact D0
 refine ⟨fun h8=>have h8:=eq_of_beq h8;?_,fun h8=>have h8:=beq_eq_false_iff_ne.1 h8;?_⟩<;>conv=>whnf
 ·refine Ar ?_
  refine Gg (A7h l x hl) ?_;rw [Cs,Ak (.inr h8)];exact D0
 refine Ar ?_;refine ⟨fun h6=>have h6:=eq_of_beq h6;?_,fun h6=>have h6:=beq_eq_false_iff_ne.1 h6;?_⟩<;>conv=>whnf
 ·first|(refine Al 6 rfl [0,1,3,4,2,5,6,7,8] Ah (Aj ?_))
  refine Gg (Rh l x A7) ?_;refine F0 (A39 l x A7) ?_;rw [h6,B4a];exact D0
 refine Gg (Fw l A7) ?_;rw [A24 h5 h8 h6];exact D0
variable {a : Ad} {b : Ad}
theorem Ue (h:b.op≠a.op):(!B5 a b)=true:=by simp only [B5,Ml,Mk];omega
theorem Uf (h:b.ab≠a.ab):(!B5 a b)=true:=by simp only [B5,Ml,Mk];omega
theorem Ug (h:b.key≠a.key):(!B5 a b)=true:=by simp only [B5,Ml,Mk];omega
theorem A15 (h1:b.op=a.op)(h2:b.ab=a.ab)(h3:b.key=a.key):(!B5 a b)=false:=by simp only [B5,Ur,J7];omega
set_option maxHeartbeats 4000000 in
theorem A9a (kind:Int)(l:List Ad)(x:Ad)(hl:l.length≤16000000):Dj 277 [.one (vi kind),.one (Ai l),.agg x.c] [.one (Ai (Cs kind l x).1),.one (vb (Cs kind l x).2)]:=by
 refine E3 Tryz.func277 fun W=>?_;refine B9 A0 rfl (Ai l) (Bs) (fun _=>Gb l) A7 (Aj ?_);refine ⟨fun h6=>have h6:=eq_of_beq h6;?_,fun h6=>have h6:=beq_eq_false_iff_ne.1 h6;?_⟩<;>conv=>whnf
 ·refine F0 (A41 l x A7) ?_
  refine Cc (fun hc=>?_) fun hc=>?_
  ·rw [h6,B4a,Dc,Ak hc,hc]
   exact D0
  refine Gg (Mj l x A7) ?_;rw [h6,B4a,hc];exact D0
 refine ⟨fun h5=>have h5:=eq_of_beq h5;?_,fun h5=>have h5:=beq_eq_false_iff_ne.1 h5;?_⟩<;>conv=>whnf
 ·refine Ar ?_
  refine F0 (A42 l x.op x.ab x.key A7) ?_;refine Cc (fun h1=>?_) fun h1=>?_
  ·refine Ar ?_
   refine Cc (fun h2=>?_) fun h2=>?_
   ·refine Ar ?_
    rw [Cs,Ak A7,Kg,Ak ⟨h1,Bj h2⟩];exact D0
   refine Ar ?_;refine H5 3 (Ai []) rfl C3 ?_;refine Fv [48] (fun k:Nat=>[(12,.c (vi k))]) (fun k=>[⟨0,[.c (vi x.op),.c (vi x.ab),.c (vi x.key),.c (vi x.val)]⟩]) (fun k=>[⟨3,Ai ((l.take k).filter (fun y=>!B5 x y))⟩]) (fun k=>k≤l.length) (fun k=>l.length-k) fun k hk=>?_;refine Eh (fun h=>?_) fun h=>?_
   ·have h:k<l.length:=by omega
    have hs:=Em (fun y=>!B5 x y) l k h;have hb:=Dx (fun y=>!B5 x y) l k
    first|(refine Al 16 rfl [0,1,2,3,4,5,6,7,8,9,10,11,12,13,14,15,16,17,18,19,20,21,22,23,24,25,26,27] Ah (Aj ?_))
    refine B8 ?_;refine zne (fun n1=>?_) fun n1=>?_
    ·rw [Bu] at n1
     refine Ar ?_;refine B9 A0 rfl (Ai ((l.take k).filter (fun y=>!B5 x y)++[l.getD k default])) (Ao rfl) Hy A7 (Er ?_);refine Ci [(3,5)] (k+1) A7 A7 ⟨rfl,trivial⟩ ⟨A6 Ai (by rw [hs,Ak (Ue n1)]),trivial⟩
    rw [Bu] at n1;refine Ar ?_;refine zne (fun n2=>?_) fun n2=>?_
    ·rw [Bu] at n2
     refine Ar ?_;refine B9 A0 rfl (Ai ((l.take k).filter (fun y=>!B5 x y)++[l.getD k default])) (Ao rfl) Hy A7 (Er ?_);refine Ci [(3,5)] (k+1) A7 A7 ⟨rfl,trivial⟩ ⟨A6 Ai (by rw [hs,Ak (Uf n2)]),trivial⟩
    rw [Bu] at n2;refine Ar ?_;refine zne (fun n3=>?_) fun n3=>?_
    ·rw [Bu] at n3
     refine Ar ?_;refine B9 A0 rfl (Ai ((l.take k).filter (fun y=>!B5 x y)++[l.getD k default])) (Ao rfl) Hy A7 (Er ?_);refine Ci [(3,5)] (k+1) A7 A7 ⟨rfl,trivial⟩ ⟨A6 Ai (by rw [hs,Ak (Ug n3)]),trivial⟩
    rw [Bu] at n3;refine Ar ?_;refine Ci [] (k+1) A7 A7 ⟨rfl,trivial⟩ ⟨A6 Ai (by rw [hs,Ab (by rw [A15 n1 n2 n3];decide),Hw]),trivial⟩
   refine Ar ?_;obtain rfl:k=l.length:=by omega
   refine Gg (Mj ((l.take l.length).filter fun y=>!B5 x y) x (by have:=Ni (fun y=>!B5 x y) (l.take l.length);rw [Hx] at *;omega)) ?_;rw [Cs,Ak A7,Kg,Ab (fun p=>absurd p.2 (Cr h2))];refine An A0 rfl rfl ?_;rw [Hx];exact Mm
  refine Ar ?_;refine H5 3 (Ai []) rfl C3 ?_;refine Fv [48] (fun k:Nat=>[(12,.c (vi k))]) (fun k=>[⟨0,[.c (vi x.op),.c (vi x.ab),.c (vi x.key),.c (vi x.val)]⟩]) (fun k=>[⟨3,Ai ((l.take k).filter (fun y=>!B5 x y))⟩]) (fun k=>k≤l.length) (fun k=>l.length-k) fun k hk=>?_;refine Eh (fun h=>?_) fun h=>?_
  ·have h:k<l.length:=by omega
   have hs:=Em (fun y=>!B5 x y) l k h;have hb:=Dx (fun y=>!B5 x y) l k
   first|(refine Al 16 rfl [0,1,2,3,4,5,6,7,8,9,10,11,12,13,14,15,16,17,18,19,20,21,22,23,24,25,26,27] Ah (Aj ?_))
   refine B8 ?_;refine zne (fun n1=>?_) fun n1=>?_
   ·rw [Bu] at n1
    refine Ar ?_;refine B9 A0 rfl (Ai ((l.take k).filter (fun y=>!B5 x y)++[l.getD k default])) (Ao rfl) Hy A7 (Er ?_);refine Ci [(3,5)] (k+1) A7 A7 ⟨rfl,trivial⟩ ⟨A6 Ai (by rw [hs,Ak (Ue n1)]),trivial⟩
   rw [Bu] at n1;refine Ar ?_;refine zne (fun n2=>?_) fun n2=>?_
   ·rw [Bu] at n2
    refine Ar ?_;refine B9 A0 rfl (Ai ((l.take k).filter (fun y=>!B5 x y)++[l.getD k default])) (Ao rfl) Hy A7 (Er ?_);refine Ci [(3,5)] (k+1) A7 A7 ⟨rfl,trivial⟩ ⟨A6 Ai (by rw [hs,Ak (Uf n2)]),trivial⟩
   rw [Bu] at n2;refine Ar ?_;refine zne (fun n3=>?_) fun n3=>?_
   ·rw [Bu] at n3
    refine Ar ?_;refine B9 A0 rfl (Ai ((l.take k).filter (fun y=>!B5 x y)++[l.getD k default])) (Ao rfl) Hy A7 (Er ?_);refine Ci [(3,5)] (k+1) A7 A7 ⟨rfl,trivial⟩ ⟨A6 Ai (by rw [hs,Ak (Ug n3)]),trivial⟩
   rw [Bu] at n3;refine Ar ?_;refine Ci [] (k+1) A7 A7 ⟨rfl,trivial⟩ ⟨A6 Ai (by rw [hs,Ab (by rw [A15 n1 n2 n3];decide),Hw]),trivial⟩
  refine Ar ?_;obtain rfl:k=l.length:=by omega
  refine Gg (Mj ((l.take l.length).filter fun y=>!B5 x y) x (by have:=Ni (fun y=>!B5 x y) (l.take l.length);rw [Hx] at *;omega)) ?_;rw [Cs,Ak A7,Kg,Ab (fun p=>by rw [p.1] at h1;cases h1)];refine An A0 rfl rfl ?_;rw [Hx];exact Mm
 refine ⟨fun h8=>have h8:=eq_of_beq h8;?_,fun h8=>have h8:=beq_eq_false_iff_ne.1 h8;?_⟩<;>conv=>whnf
 ·refine Ar ?_
  refine F0 (A42 l x.op x.ab x.key A7) ?_;refine Cc (fun h1=>?_) fun h1=>?_
  ·refine Ar ?_
   refine Cc (fun h2=>?_) fun h2=>?_
   ·refine Ar ?_
    rw [Cs,Ak A7,Kg,Ak ⟨h1,Bj h2⟩];exact D0
   refine Ar ?_;refine H5 3 (Ai []) rfl C3 ?_;refine Fv [48] (fun k:Nat=>[(12,.c (vi k))]) (fun k=>[⟨0,[.c (vi x.op),.c (vi x.ab),.c (vi x.key),.c (vi x.val)]⟩]) (fun k=>[⟨3,Ai ((l.take k).filter (fun y=>!B5 x y))⟩]) (fun k=>k≤l.length) (fun k=>l.length-k) fun k hk=>?_;refine Eh (fun h=>?_) fun h=>?_
   ·have h:k<l.length:=by omega
    have hs:=Em (fun y=>!B5 x y) l k h;have hb:=Dx (fun y=>!B5 x y) l k
    first|(refine Al 16 rfl [0,1,2,3,4,5,6,7,8,9,10,11,12,13,14,15,16,17,18,19,20,21,22,23,24,25,26,27] Ah (Aj ?_))
    refine B8 ?_;refine zne (fun n1=>?_) fun n1=>?_
    ·rw [Bu] at n1
     refine Ar ?_;refine B9 A0 rfl (Ai ((l.take k).filter (fun y=>!B5 x y)++[l.getD k default])) (Ao rfl) Hy A7 (Er ?_);refine Ci [(3,5)] (k+1) A7 A7 ⟨rfl,trivial⟩ ⟨A6 Ai (by rw [hs,Ak (Ue n1)]),trivial⟩
    rw [Bu] at n1;refine Ar ?_;refine zne (fun n2=>?_) fun n2=>?_
    ·rw [Bu] at n2
     refine Ar ?_;refine B9 A0 rfl (Ai ((l.take k).filter (fun y=>!B5 x y)++[l.getD k default])) (Ao rfl) Hy A7 (Er ?_);refine Ci [(3,5)] (k+1) A7 A7 ⟨rfl,trivial⟩ ⟨A6 Ai (by rw [hs,Ak (Uf n2)]),trivial⟩
    rw [Bu] at n2;refine Ar ?_;refine zne (fun n3=>?_) fun n3=>?_
    ·rw [Bu] at n3
     refine Ar ?_;refine B9 A0 rfl (Ai ((l.take k).filter (fun y=>!B5 x y)++[l.getD k default])) (Ao rfl) Hy A7 (Er ?_);refine Ci [(3,5)] (k+1) A7 A7 ⟨rfl,trivial⟩ ⟨A6 Ai (by rw [hs,Ak (Ug n3)]),trivial⟩
    rw [Bu] at n3;refine Ar ?_;refine Ci [] (k+1) A7 A7 ⟨rfl,trivial⟩ ⟨A6 Ai (by rw [hs,Ab (by rw [A15 n1 n2 n3];decide),Hw]),trivial⟩
   refine Ar ?_;obtain rfl:k=l.length:=by omega
   refine Gg (Mj ((l.take l.length).filter fun y=>!B5 x y) x (by have:=Ni (fun y=>!B5 x y) (l.take l.length);rw [Hx] at *;omega)) ?_;rw [Cs,Ak A7,Kg,Ab (fun p=>absurd p.2 (Cr h2))];refine An A0 rfl rfl ?_;rw [Hx];exact Mm
  refine Ar ?_;refine H5 3 (Ai []) rfl C3 ?_;refine Fv [48] (fun k:Nat=>[(12,.c (vi k))]) (fun k=>[⟨0,[.c (vi x.op),.c (vi x.ab),.c (vi x.key),.c (vi x.val)]⟩]) (fun k=>[⟨3,Ai ((l.take k).filter (fun y=>!B5 x y))⟩]) (fun k=>k≤l.length) (fun k=>l.length-k) fun k hk=>?_;refine Eh (fun h=>?_) fun h=>?_
  ·have h:k<l.length:=by omega
   have hs:=Em (fun y=>!B5 x y) l k h;have hb:=Dx (fun y=>!B5 x y) l k
   first|(refine Al 16 rfl [0,1,2,3,4,5,6,7,8,9,10,11,12,13,14,15,16,17,18,19,20,21,22,23,24,25,26,27] Ah (Aj ?_))
   refine B8 ?_;refine zne (fun n1=>?_) fun n1=>?_
   ·rw [Bu] at n1
    refine Ar ?_;refine B9 A0 rfl (Ai ((l.take k).filter (fun y=>!B5 x y)++[l.getD k default])) (Ao rfl) Hy A7 (Er ?_);refine Ci [(3,5)] (k+1) A7 A7 ⟨rfl,trivial⟩ ⟨A6 Ai (by rw [hs,Ak (Ue n1)]),trivial⟩
   rw [Bu] at n1;refine Ar ?_;refine zne (fun n2=>?_) fun n2=>?_
   ·rw [Bu] at n2
    refine Ar ?_;refine B9 A0 rfl (Ai ((l.take k).filter (fun y=>!B5 x y)++[l.getD k default])) (Ao rfl) Hy A7 (Er ?_);refine Ci [(3,5)] (k+1) A7 A7 ⟨rfl,trivial⟩ ⟨A6 Ai (by rw [hs,Ak (Uf n2)]),trivial⟩
   rw [Bu] at n2;refine Ar ?_;refine zne (fun n3=>?_) fun n3=>?_
   ·rw [Bu] at n3
    refine Ar ?_;refine B9 A0 rfl (Ai ((l.take k).filter (fun y=>!B5 x y)++[l.getD k default])) (Ao rfl) Hy A7 (Er ?_);refine Ci [(3,5)] (k+1) A7 A7 ⟨rfl,trivial⟩ ⟨A6 Ai (by rw [hs,Ak (Ug n3)]),trivial⟩
   rw [Bu] at n3;refine Ar ?_;refine Ci [] (k+1) A7 A7 ⟨rfl,trivial⟩ ⟨A6 Ai (by rw [hs,Ab (by rw [A15 n1 n2 n3];decide),Hw]),trivial⟩
  refine Ar ?_;obtain rfl:k=l.length:=by omega
  refine Gg (Mj ((l.take l.length).filter fun y=>!B5 x y) x (by have:=Ni (fun y=>!B5 x y) (l.take l.length);rw [Hx] at *;omega)) ?_;rw [Cs,Ak A7,Kg,Ab (fun p=>by rw [p.1] at h1;cases h1)];refine An A0 rfl rfl ?_;rw [Hx];exact Mm
 refine Ar ?_;rw [A24 h5 h8 h6];exact D0
variable {g : B2} {cs : List Ad} {r : Aa}
theorem Xu (h:¬ P6 g r):Gr g cs r=(cs,[],false):=Ab h
theorem B2n (h:P6 g r)(h1:(Bb (Ac g r.op) r.key r.val).2.2=false)(h2:(Ac g r.op).kind≠8):Gr g cs r=(cs,[],true):=by
 unfold Gr;rw [Ak h,Ak ⟨h1,h2⟩]
theorem Uj (h:P6 g r)(h1:¬ ((Bb (Ac g r.op) r.key r.val).2.2=false∧(Ac g r.op).kind≠8))(h2:(Cs (Ac g r.op).kind cs (Fh r)).2=false):Gr g cs r=((Cs (Ac g r.op).kind cs (Fh r)).1,[],true):=by
 unfold Gr;rw [Ak h,Ab h1,Ak h2]
theorem Nc (h:P6 g r)(h1:¬ ((Bb (Ac g r.op) r.key r.val).2.2=false∧(Ac g r.op).kind≠8))(h2:(Cs (Ac g r.op).kind cs (Fh r)).2=true):Gr g cs r=((Cs (Ac g r.op).kind cs (Fh r)).1,Uz g r,true):=by
 unfold Gr;rw [Ak h,Ab h1,Ab (by rw [h2];decide)]
def So (r:Aa) (s:Jg) (k v:Int) (o:Int):Aa:=⟨o,s,k,v⟩
theorem A6x (h7:(Ac g r.op).kind=7)(h:(Br r.am).2=false):Uz g r=[]:=by
 unfold Uz;rw [Ak ⟨h7,h⟩]
theorem B24 (h7:(Ac g r.op).kind=7)(h:(Br r.am).2=true):Uz g r=(Ac g r.op).ax.map (So r (Br r.am).1 (Bb (Ac g r.op) r.key r.val).1 (Bb (Ac g r.op) r.key r.val).2.1):=by
 unfold Uz;rw [Ab (fun p=>by rw [p.2] at h;cases h),Ak h7];rfl
theorem A02 (h7:(Ac g r.op).kind≠7):Uz g r=(Ac g r.op).ax.map (So r r.am (Bb (Ac g r.op) r.key r.val).1 (Bb (Ac g r.op) r.key r.val).2.1):=by
 unfold Uz;rw [Ab (fun p=>h7 p.1),Ab h7];rfl
variable {k : Nat}
theorem B0h {α β:Type} [Inhabited α] (f:α→β){l:List α}(hk:k<l.length):(l.take (k+1)).map f=(l.take k).map f++[f (l.getD k default)]:=by
 rw [A3u hk,Qs]
 simp [List.getD,hk]
theorem A5y {op:Int}(hg:g.w≤16777216)(hk:op.toNat<g.ak.length):(Ac g op).w≤16777216∧(Ac g op).ax.length≤16777216:=by
 have:=Gf D5.w g.ak op.toNat hk
 simp only [B2.w,wS] at hg;simp only [Ac];have e:(g.ak.getD op.toNat default).w=(g.ak.getD op.toNat default).ax.length:=rfl;omega
abbrev emL (g:B2) (r:Aa) (s:Jg) (k:Nat):List Aa:=((Ac g r.op).ax.take k).map (So r s (Bb (Ac g r.op) r.key r.val).1 (Bb (Ac g r.op) r.key r.val).2.1)
variable {s : Jg}
theorem R9 (h:k<(Ac g r.op).ax.length):emL g r s (k+1)=emL g r s k++[So r s (Bb (Ac g r.op) r.key r.val).1 (Bb (Ac g r.op) r.key r.val).2.1 ((Ac g r.op).ax.getD k default)]:=B0h _ h
theorem Vs:(emL g r s k).length≤k:=by
 simp only [emL,J8,Eo];omega
theorem Vr (h:(Ac g r.op).ax.length≤k):emL g r s k=(Ac g r.op).ax.map (So r s (Bb (Ac g r.op) r.key r.val).1 (Bb (Ac g r.op) r.key r.val).2.1):=by
 rw [emL,K0 h]
set_option maxHeartbeats 4000000 in
theorem B9m (g:B2)(cs:List Ad)(r:Aa)(hg:g.w≤16777216)(hl:cs.length≤16000000):Dj 269 [.agg g.c,.one (Ai cs),.agg r.c] [.one (Ai (Gr g cs r).1),.one (A9 (Gr g cs r).2.1),.one (vb (Gr g cs r).2.2)]:=by
 refine E3 Tryz.func269 fun W=>?_;refine F0 (Kj g A7) ?_;refine Cc (fun h1=>?_) fun h1=>?_
 ·have h1:F5 g=false:=by simpa using h1
  refine Ar ?_;refine Gg (Fw cs A7) ?_;rw [Xu (fun p=>absurd p.1 (Cr h1))];exact D0
 have h1:I4 g:=Bj (show F5 g=true by simpa using h1)
 refine Ar ?_;refine As (Ih r) rfl (Hd ?_);refine Cc (fun h2=>?_) fun h2=>?_
 ·have h2:F8 r=false:=by simpa using h2
  refine Ar ?_;refine Gg (Fw cs A7) ?_;rw [Xu (fun p=>absurd p.2.1 (Cr h2))];exact D0
 have h2:Gu r:=Bj (show F8 r=true by simpa using h2)
 refine Ar ?_;refine As (Tv g r.op hg) rfl (Hd ?_);refine Cc (fun h3=>?_) fun h3=>?_
 ·have h3:Dv r.op 0 (g.ak.length-1)=false:=by simpa using h3
  have h4:=Go.Sx.G8.1 h3;refine Ar ?_;refine Gg (Fw cs A7) ?_;rw [Xu (fun p=>h4 ⟨h2.1.1,by have:=p.2.2;omega⟩)];exact D0
 have h3:Dv r.op 0 (g.ak.length-1)=true:=by simpa using h3
 have h4:=Go.Sx.Ch.1 h3;have hP:P6 g r:=⟨h1,h2,by omega⟩;have hk:r.op.toNat<g.ak.length:=by omega
 obtain ⟨hnw,hol⟩:=A5y hg hk;have hoq:(g.ak.getD r.op.toNat default).ax.length=(Ac g r.op).ax.length:=rfl;refine Ar ?_;refine F0 (B58 (Ac g r.op) r.key r.val hnw) ?_;refine Cc (fun h5=>?_) fun h5=>?_
 ·have h5:(Bb (Ac g r.op) r.key r.val).2.2=false:=by simpa using h5
  refine Ar ?_;refine zne (fun h8=>?_) fun h8=>?_
  ·have h8:(Ac g r.op).kind≠8:=h8
   refine Ar ?_;refine Gg (Fw cs A7) ?_;rw [B2n hP h5 h8];exact D0
  have h8:(Ac g r.op).kind=8:=h8;refine Ar ?_;have hnb:¬ ((Bb (Ac g r.op) r.key r.val).2.2=false∧(Ac g r.op).kind≠8):=(fun p=>p.2 h8);refine Gg (A7q (Ac g r.op).kind cs (Fh r) hl) ?_;refine Cc (fun h6=>?_) fun h6=>?_
  ·have h6:(Cs (Ac g r.op).kind cs (Fh r)).2=false:=by simpa using h6
   refine Ar ?_;rw [Uj hP hnb h6];exact D0
  have h6:(Cs (Ac g r.op).kind cs (Fh r)).2=true:=by simpa using h6
  refine Ar ?_;refine L8 (fun h7=>?_) fun h7=>?_
  ·have h7:(Ac g r.op).kind=7:=h7
   refine F0 (Tx r.am) ?_
   cases hnt:(Br r.am).2
   ·refine Fv [] (fun k:Nat=>[(95,.c (vi k))]) (fun k=>[]) (fun k=>[⟨3,Ai (Cs (Ac g r.op).kind cs (Fh r)).1⟩]) (fun k=>k≤(Ac g r.op).ax.length) (fun k=>(Ac g r.op).ax.length-k) fun k hk=>?_
    conv=>whnf
    refine Eh (fun h=>?_) fun h=>?_
    ·have h:k<(Ac g r.op).ax.length:=by omega
     refine Ar ?_;refine Ci [] (k+1) A7 A7 ⟨rfl,trivial⟩ ⟨rfl,trivial⟩
    rw [Nc hP hnb h6,A6x h7 hnt];exact D0
   refine U4 16 5 (fun i=>Aa.c (([]:List Aa).getD i default)) rfl ?_;refine Fv [] (fun k:Nat=>[(95,.c (vi k))]) (fun k=>[⟨4,[.c (vi ((Br r.am).1).ab),.c (vi ((Br r.am).1).turn)]⟩]) (fun k=>[⟨5,A9 (emL g r ((Br r.am).1) k)⟩,⟨3,Ai (Cs (Ac g r.op).kind cs (Fh r)).1⟩]) (fun k=>k≤(Ac g r.op).ax.length) (fun k=>(Ac g r.op).ax.length-k) fun k hk=>?_;conv=>whnf
   refine Eh (fun h=>?_) fun h=>?_
   ·have h:k<(Ac g r.op).ax.length:=by omega
    have hem:=Vs (g:=g) (r:=r) (s:=(Br r.am).1) (k:=k);refine Ar ?_;refine B9 A0 rfl (A9 (emL g r ((Br r.am).1) k++[So r ((Br r.am).1) (Bb (Ac g r.op) r.key r.val).1 (Bb (Ac g r.op) r.key r.val).2.1 ((Ac g r.op).ax.getD k default)])) (Ao rfl) Hy A7 (Er ?_);refine Ci [(5,7)] (k+1) A7 A7 ⟨rfl,trivial⟩ ⟨A6 A9 (R9 h).symm,rfl,trivial⟩
   rw [Nc hP hnb h6,B24 h7 hnt,Vr A7];exact D0
  have h7:(Ac g r.op).kind≠7:=h7;refine U4 16 5 (fun i=>Aa.c (([]:List Aa).getD i default)) rfl ?_;refine Fv [] (fun k:Nat=>[(95,.c (vi k))]) (fun k=>[⟨4,[.c (vi (r.am).ab),.c (vi (r.am).turn)]⟩]) (fun k=>[⟨5,A9 (emL g r (r.am) k)⟩,⟨3,Ai (Cs (Ac g r.op).kind cs (Fh r)).1⟩]) (fun k=>k≤(Ac g r.op).ax.length) (fun k=>(Ac g r.op).ax.length-k) fun k hk=>?_;conv=>whnf
  refine Eh (fun h=>?_) fun h=>?_
  ·have h:k<(Ac g r.op).ax.length:=by omega
   have hem:=Vs (g:=g) (r:=r) (s:=r.am) (k:=k);refine Ar ?_;refine B9 A0 rfl (A9 (emL g r (r.am) k++[So r (r.am) (Bb (Ac g r.op) r.key r.val).1 (Bb (Ac g r.op) r.key r.val).2.1 ((Ac g r.op).ax.getD k default)])) (Ao rfl) Hy A7 (Er ?_);refine Ci [(5,7)] (k+1) A7 A7 ⟨rfl,trivial⟩ ⟨A6 A9 (R9 h).symm,rfl,trivial⟩
  rw [Nc hP hnb h6,A02 h7,Vr A7];exact D0
 have h5:(Bb (Ac g r.op) r.key r.val).2.2=true:=by simpa using h5
 refine Ar ?_;have hnb:¬ ((Bb (Ac g r.op) r.key r.val).2.2=false∧(Ac g r.op).kind≠8):=(fun p=>by rw [p.1] at h5;cases h5);refine Gg (A7q (Ac g r.op).kind cs (Fh r) hl) ?_;refine Cc (fun h6=>?_) fun h6=>?_
 ·have h6:(Cs (Ac g r.op).kind cs (Fh r)).2=false:=by simpa using h6
  refine Ar ?_;rw [Uj hP hnb h6];exact D0
 have h6:(Cs (Ac g r.op).kind cs (Fh r)).2=true:=by simpa using h6
 refine Ar ?_;refine L8 (fun h7=>?_) fun h7=>?_
 ·have h7:(Ac g r.op).kind=7:=h7
  refine F0 (Tx r.am) ?_
  cases hnt:(Br r.am).2
  ·refine Fv [] (fun k:Nat=>[(95,.c (vi k))]) (fun k=>[]) (fun k=>[⟨3,Ai (Cs (Ac g r.op).kind cs (Fh r)).1⟩]) (fun k=>k≤(Ac g r.op).ax.length) (fun k=>(Ac g r.op).ax.length-k) fun k hk=>?_
   conv=>whnf
   refine Eh (fun h=>?_) fun h=>?_
   ·have h:k<(Ac g r.op).ax.length:=by omega
    refine Ar ?_;refine Ci [] (k+1) A7 A7 ⟨rfl,trivial⟩ ⟨rfl,trivial⟩
   rw [Nc hP hnb h6,A6x h7 hnt];exact D0
  refine U4 16 5 (fun i=>Aa.c (([]:List Aa).getD i default)) rfl ?_;refine Fv [] (fun k:Nat=>[(95,.c (vi k))]) (fun k=>[⟨4,[.c (vi ((Br r.am).1).ab),.c (vi ((Br r.am).1).turn)]⟩]) (fun k=>[⟨5,A9 (emL g r ((Br r.am).1) k)⟩,⟨3,Ai (Cs (Ac g r.op).kind cs (Fh r)).1⟩]) (fun k=>k≤(Ac g r.op).ax.length) (fun k=>(Ac g r.op).ax.length-k) fun k hk=>?_;conv=>whnf
  refine Eh (fun h=>?_) fun h=>?_
  ·have h:k<(Ac g r.op).ax.length:=by omega
   have hem:=Vs (g:=g) (r:=r) (s:=(Br r.am).1) (k:=k);refine Ar ?_;refine B9 A0 rfl (A9 (emL g r ((Br r.am).1) k++[So r ((Br r.am).1) (Bb (Ac g r.op) r.key r.val).1 (Bb (Ac g r.op) r.key r.val).2.1 ((Ac g r.op).ax.getD k default)])) (Ao rfl) Hy A7 (Er ?_);refine Ci [(5,7)] (k+1) A7 A7 ⟨rfl,trivial⟩ ⟨A6 A9 (R9 h).symm,rfl,trivial⟩
  rw [Nc hP hnb h6,B24 h7 hnt,Vr A7];exact D0
 have h7:(Ac g r.op).kind≠7:=h7;refine U4 16 5 (fun i=>Aa.c (([]:List Aa).getD i default)) rfl ?_;refine Fv [] (fun k:Nat=>[(95,.c (vi k))]) (fun k=>[⟨4,[.c (vi (r.am).ab),.c (vi (r.am).turn)]⟩]) (fun k=>[⟨5,A9 (emL g r (r.am) k)⟩,⟨3,Ai (Cs (Ac g r.op).kind cs (Fh r)).1⟩]) (fun k=>k≤(Ac g r.op).ax.length) (fun k=>(Ac g r.op).ax.length-k) fun k hk=>?_;conv=>whnf
 refine Eh (fun h=>?_) fun h=>?_
 ·have h:k<(Ac g r.op).ax.length:=by omega
  have hem:=Vs (g:=g) (r:=r) (s:=r.am) (k:=k);refine Ar ?_;refine B9 A0 rfl (A9 (emL g r (r.am) k++[So r (r.am) (Bb (Ac g r.op) r.key r.val).1 (Bb (Ac g r.op) r.key r.val).2.1 ((Ac g r.op).ax.getD k default)])) (Ao rfl) Hy A7 (Er ?_);refine Ci [(5,7)] (k+1) A7 A7 ⟨rfl,trivial⟩ ⟨A6 A9 (R9 h).symm,rfl,trivial⟩
 rw [Nc hP hnb h6,A02 h7,Vr A7];exact D0
theorem Nt (h:¬ P6 g r):ao g r=false:=Cb fun p=>h p.1
theorem B09 (h:P6 g r):ao g r=(((Ac g r.op).kind==7)&&(decide (((Ac g r.op).ax.length:Int)>0)&&!(Br r.am).2)):=by
 unfold ao;rw [Th];simp only [J7,Ce,Qr,Ml,h,true_and]
 constructor
 ·intro ⟨a,b,c⟩;exact ⟨a,by omega,c⟩
 intro ⟨a,b,c⟩;exact ⟨a,by omega,c⟩
theorem B9i (g:B2)(r:Aa)(hg:g.w≤16777216):Dj 270 [.agg g.c,.agg r.c] [.one (vb (ao g r))]:=by
 refine E3 Tryz.func270 fun W=>?_;refine F0 (Kj g A7) ?_;refine Cc (fun h1=>?_) fun h1=>?_
 ·have h1:F5 g=false:=by simpa using h1
  refine Ar ?_;rw [Nt (fun p=>absurd p.1 (Cr h1))];exact D0
 have h1:I4 g:=Bj (show F5 g=true by simpa using h1)
 refine Ar ?_;refine As (Ih r) rfl (Hd ?_);refine Cc (fun h2=>?_) fun h2=>?_
 ·have h2:F8 r=false:=by simpa using h2
  refine Ar ?_;rw [Nt (fun p=>absurd p.2.1 (Cr h2))];exact D0
 have h2:Gu r:=Bj (show F8 r=true by simpa using h2)
 refine Ar ?_;refine As (Tv g r.op hg) rfl (Hd ?_);refine Cc (fun h3=>?_) fun h3=>?_
 ·have h3:Dv r.op 0 (g.ak.length-1)=false:=by simpa using h3
  have h4:=Go.Sx.G8.1 h3;refine Ar ?_;rw [Nt (fun p=>h4 ⟨h2.1.1,by have:=p.2.2;omega⟩)];exact D0
 have h3:Dv r.op 0 (g.ak.length-1)=true:=by simpa using h3
 have h4:=Go.Sx.Ch.1 h3;have hP:P6 g r:=⟨h1,h2,by omega⟩;have hk:r.op.toNat<g.ak.length:=by omega
 obtain ⟨hnw,hol⟩:=A5y hg hk;have hoq:(g.ak.getD r.op.toNat default).ax.length=(Ac g r.op).ax.length:=rfl;refine Ar ?_;refine F0 (Tx r.am) ?_;rw [B09 hP];refine Cc (fun h7=>?_) fun h7=>?_
 ·have h7:((Ac g r.op).kind==7)=true:=h7
  rw [h7];refine Ar ?_;refine Cc (fun h8=>?_) fun h8=>?_
  ·have h8:decide (((Ac g r.op).ax.length:Int)>0)=true:=h8
   rw [h8];refine Ar ?_;exact D0
  have h8:decide (((Ac g r.op).ax.length:Int)>0)=false:=h8;rw [h8];refine Ar ?_;exact D0
 have h7:((Ac g r.op).kind==7)=false:=h7;rw [h7];refine Ar ?_;exact D0
theorem Oe (x:Ae):x.ar.length≤x.w∧x.ae.length≤x.w∧x.au.length≤x.w∧x.cells.length≤x.w∧x.ah.length≤x.w∧x.al.length≤x.w∧x.an.length≤x.w:=by simp only [Ae.w];omega
theorem B6a (x:Ae)(r:Aa)(h:x.w≤16000000):Dj 225 [.agg x.c,.agg r.c] [.agg (kept x r).c]:=by
 have hw:=Oe x;refine E3 Tryz.func225 fun W=>?_;refine Gg (J1 x A7) ?_;refine B9 A0 rfl (A9 (x.ar++[r])) (Ao rfl) Hy A7 (Aj ?_);exact D0
variable {w : Ae}
theorem B7t {e:Int}(h:¬ (0≤e∧e<w.ah.length)):Jx w e=w:=Ab h
theorem A12 {e:Int}(h:0≤e∧e<w.ah.length):Jx w e=Is w e 1:=Ak h
theorem B3o (x:Ae)(e:Int)(h:x.w≤16000000)(hS:A6d x.ah):Dj 228 [.agg x.c,.one (vi e)] [.agg (Jx x e).c]:=by
 have hw:=Oe x;refine E3 Tryz.func228 fun W=>?_;refine Ll (J1 x A7) rfl (Er ?_);refine F0 (H9 e 0 (x.ah.length-1)) ?_;refine Cc (fun h1=>?_) fun h1=>?_
 ·have hb:=Go.Sx.Ch.1 h1
  have hk:e.toNat<x.ah.length:=by omega
  have hs:Jh (x.ah.getD e.toNat default):=hS _ (Am hk);obtain ⟨s1,s2⟩:=hs;refine Ar ?_;refine Bt (j:=e) A0 rfl (Ej (x.ah.set e.toNat (x.ah.getD e.toNat default+1))) (Dd hk rfl) (Aj ?_);rw [A12 ⟨by omega,by omega⟩];exact D0
 have hb:=Go.Sx.G8.1 h1;refine Ar ?_;rw [B7t (fun p=>hb ⟨by omega,by omega⟩)];exact D0
theorem A4v {r:Aa}(h1:w.ah.length=4)(h2:w.al.length=4)(he:0≤r.am.ab∧r.am.ab≤3):Ik w r=Q1 (Is (kept w r) r.am.ab (-1)) r.am.ab:=by
 unfold Ik;rw [Ak ⟨by omega,by omega,by omega⟩]
set_option maxHeartbeats 1000000 in
theorem B3n (x:Ae)(r:Aa)(h:x.w≤8000000)(hS:A6d x.ah)(h1:x.ah.length=4)(h2:x.al.length=4)(he:0≤r.am.ab∧r.am.ab≤3):Dj 231 [.agg x.c,.agg r.c] [.agg (Ik x r).c]:=by
 have hw:=Oe x;have hk:r.am.ab.toNat<x.ah.length:=by omega
 have hk2:r.am.ab.toNat<x.al.length:=by omega
 have hs:Jh (x.ah.getD r.am.ab.toNat default):=hS _ (Am hk);obtain ⟨s1,s2⟩:=hs;have g1:(kept x r).ah.length=4:=h1;have g2:(kept x r).al.length=4:=h2;have g3:(kept x r).ah.getD r.am.ab.toNat default=x.ah.getD r.am.ab.toNat default:=rfl;have hm:(if (x.al.length:Int)<x.ah.length then (x.al.length:Int) else x.ah.length)=4:=by split<;>omega
 refine E3 Tryz.func231 fun W=>?_;refine Gg (B6a x r A7) ?_;rw [hm];refine B8 ?_;refine F0 (H9 r.am.ab 0 3) ?_;rw [show Dv r.am.ab 0 3=true from Go.Sx.Ch.2 he]
 refine Ar ?_;refine Bt (j:=r.am.ab) A0 rfl (Ej (x.ah.set r.am.ab.toNat (x.ah.getD r.am.ab.toNat default+ -1))) (Dd hk rfl) (Er ?_);refine Bt (j:=r.am.ab) A0 rfl (D9 (x.al.set r.am.ab.toNat true)) (Dd hk2 rfl) (Aj ?_);rw [A4v h1 h2 he];exact D0
theorem B8c (h:¬ 0<w.ae.length):Wu w=(w,default,false):=Ab h
theorem A2d (h:0<w.ae.length):Wu w=(Et w,w.ae.getD 0 default,true):=Ak h
theorem B3r (x:Ae)(h:x.w≤16000000):Dj 224 [.agg x.c] [.agg (Wu x).1.c,.agg (Wu x).2.1.c,.one (vb (Wu x).2.2)]:=by
 have hw:=Oe x;refine E3 Tryz.func224 fun W=>?_;refine Gg (J1 x A7) ?_;refine L8 (fun h1=>?_) fun h1=>?_
 ·refine Ar ?_
  rw [B8c A7];exact D0
 have h1:0<x.ae.length:=by omega
 refine Ar ?_;refine B4u A0 rfl (⟨by omega,by omega,by omega⟩) (A9 (x.ae.drop 1)) (Il (k:=1) h1) (Aj ?_);refine Iy rfl (Dw 1 rfl ?_);refine Of 0 ?_;refine zt2 2 5 ?_ ?_
 focus
  refine B8 ?_;refine E6 (zt2 3 5 ?_ ?_)
  focus
   refine B8 ?_;refine E6 (zt2 4 5 ?_ ?_)
   focus
    refine B8 ?_;refine E6 ?_;refine splitB [5] Ah ⟨?_,trivial⟩;refine Er ?_;refine E6 ?_
   rotate_left 1
   focus
    refine B8 ?_;refine E6 ?_;refine Of 4 ?_
  rotate_left 2
  focus
   refine B8 ?_;refine E6 ?_;refine Of 3 ?_;refine Of 4 ?_
 rotate_left 3
 focus
  refine B8 ?_;refine E6 ?_;refine Of 2 ?_;refine Of 3 ?_;refine Of 4 ?_
 all_goals
  refine splitB [6] Ah ⟨?_,trivial⟩;refine Er ?_;refine E6 (Dw 7 rfl ?_);refine A01 Ah (Aj ?_)
 all_goals
  rw [A2d h1];exact D0
variable {g : B2}
theorem Sv (h:¬ Vg g w):Gy g w=(w,false):=Ab h
theorem B1t (h:Vg g w):Gy g w=(Pz w,true):=Ak h
set_option maxHeartbeats 1000000 in
theorem Y9 (g:B2)(x:Ae)(hg:g.w≤16777216)(h:x.w≤16000000):Dj 223 [.agg g.c,.agg x.c] [.agg (Gy g x).1.c,.one (vb (Gy g x).2)]:=by
 have hw:=Oe x;refine E3 Tryz.func223 fun W=>?_;refine Gg (J1 x A7) ?_;refine F0 (Kj g A7) ?_;refine Cc (fun h1=>?_) fun h1=>?_
 ·have h1:F5 g=false:=by simpa using h1
  refine Ar ?_;rw [Sv (fun p=>absurd p.1 (Cr h1))];exact D0
 have h1:I4 g:=Bj (show F5 g=true by simpa using h1)
 refine Ar ?_;refine As (U0 g x A7 A7) rfl (Hd ?_);refine Cc (fun h2=>?_) fun h2=>?_
 ·have h2:Ls g.ak.length x=false:=by simpa using h2
  refine Ar ?_;rw [Sv (fun p=>absurd p.2.1 (Cr h2))];exact D0
 have h2:Cp g.ak.length x:=Bj (show Ls g.ak.length x=true by simpa using h2)
 refine Ar ?_;refine Cc (fun h3=>?_) fun h3=>?_
 ·have h3:¬ x.ae.length=0:=by have:=Bj h3;omega
  refine Ar ?_;rw [Sv (fun p=>h3 p.2.2.1)];exact D0
 have h3:x.ae.length=0:=by have:=Cr h3;omega
 refine Ar ?_;refine Cc (fun h4=>?_) fun h4=>?_
 ·have h4:¬ x.ar.length=0:=by have:=Bj h4;omega
  refine Ar ?_;rw [Sv (fun p=>h4 p.2.2.2.1)];exact D0
 have h4:x.ar.length=0:=by have:=Cr h4;omega
 refine Ar ?_;refine L8 (fun h5=>?_) fun h5=>?_
 ·refine Ar ?_
  rw [Sv (fun p=>by have:=p.2.2.2.2;omega)];exact D0
 have h5:0<x.au.length:=by omega
 refine Ar ?_
 first|(refine Al 4 rfl [0,1,2,3,4,5,6,7,8,9] Ah (Aj ?_))
 refine B8 ?_;refine B9 A0 rfl (A9 (x.ar++[x.au.getD 0 default])) (Ao rfl) Hy A7 (Er ?_);refine B4u A0 rfl (⟨by omega,by omega,by omega⟩) (A9 (x.au.drop 1)) (Il (k:=1) h5) (Aj ?_);rw [B1t ⟨h1,h2,h3,h4,h5⟩];exact D0
theorem A2f (h:¬ A3x g w):Ma g w=(w,false):=Ab h
theorem A9m (h:A3x g w):Ma g w=(P5 g w,true):=Ak h
set_option maxHeartbeats 1000000 in
theorem A7s (g:B2)(x:Ae)(hg:g.w≤16777216)(h:x.w≤16000000):Dj 222 [.agg g.c,.agg x.c] [.agg (Ma g x).1.c,.one (vb (Ma g x).2)]:=by
 have hw:=Oe x;refine E3 Tryz.func222 fun W=>?_;refine Gg (J1 x A7) ?_;refine F0 (Kj g A7) ?_;refine Cc (fun h1=>?_) fun h1=>?_
 ·have h1:F5 g=false:=by simpa using h1
  refine Ar ?_;rw [A2f (fun p=>absurd p.1 (Cr h1))];exact D0
 have h1:I4 g:=Bj (show F5 g=true by simpa using h1)
 refine Ar ?_;refine As (U0 g x A7 A7) rfl (Hd ?_);refine Cc (fun h2=>?_) fun h2=>?_
 ·have h2:Ls g.ak.length x=false:=by simpa using h2
  refine Ar ?_;rw [A2f (fun p=>absurd p.2.1 (Cr h2))];exact D0
 have h2:Cp g.ak.length x:=Bj (show Ls g.ak.length x=true by simpa using h2)
 refine Ar ?_;refine Cc (fun h3=>?_) fun h3=>?_
 ·have h3:¬ x.ae.length=0:=by have:=Bj h3;omega
  refine Ar ?_;rw [A2f (fun p=>h3 p.2.2.1)];exact D0
 have h3:x.ae.length=0:=by have:=Cr h3;omega
 refine Ar ?_;refine L8 (fun h4=>?_) fun h4=>?_
 ·refine Ar ?_
  rw [A2f (fun p=>by have:=p.2.2.2;omega)];exact D0
 have h4:0<x.ar.length:=by omega
 have hR:=h2.1.1 _ (Am (d:=default) h4);have hE:=hR.1.2.1;have hcl:x.an.length=4:=h2.2.1.2.2;have hc:(x.ar.getD 0 default).am.ab.toNat<x.an.length:=by have:=h2.2.1.2.2;omega
 refine Ar ?_;refine B4u A0 rfl (⟨by omega,by omega,by omega⟩) (A9 (x.ar.drop 1)) (Il (k:=1) h4) (Aj ?_);refine Gg (B9m g x.cells (x.ar.getD 0 default) hg A7) ?_;refine F0 (B9i g (x.ar.getD 0 default) hg) ?_;refine Cc (fun h5=>?_) fun h5=>?_
 ·have h5:ao g (x.ar.getD 0 default)=true:=h5
  refine ⟨by (show 0≤(x.ar.getD 0 default).am.ab∧(x.ar.getD 0 default).am.ab<x.an.length;omega),?_⟩
  conv=>whnf
  refine Bt (j:=(x.ar.getD 0 default).am.ab) A0 rfl (D9 (x.an.set (x.ar.getD 0 default).am.ab.toNat true)) (Dd hc rfl) (Aj ?_);rw [A9m ⟨h1,h2,h3,h4⟩,P5,Ak h5];exact D0
 have h5:ao g (x.ar.getD 0 default)=false:=h5;rw [A9m ⟨h1,h2,h3,h4⟩,P5,Ab (by rw [h5];decide)];exact D0
def J2 (w f t:Int):Int:=if 0≤min f t∧max f t<w then IntKind.wrap .i64 (IntKind.wrap .i64 (f * w)+t) else-1
theorem Sg (g:B2)(f t:Int)(hg:Gt .i64 g.aq):Dj 241 [.agg g.c,.one (vi f),.one (vi t)] [.one (vi (J2 g.aq f t))]:=by
 have hw:g.aq≤9223372036854775807:=hg.2;have hw1:1≤g.aq→IntKind.wrap .i64 (g.aq-1)=g.aq-1:=fun h=>Ks (by show _∧_;omega)
 refine A6y A0 true Tryz.func241 rfl Cw fun W=>?_;conv=>whnf
 repeat' (first|(refine I1 ?_;conv=>whnf)|(refine I2 ?_;conv=>whnf)|(refine ⟨fun h=>?_,fun h=>?_⟩<;>conv=>whnf)|(refine As (H3 _ _ _) rfl (go A0 true ?_);conv=>whnf)|(refine H8 ?_;conv=>whnf)|fail)
 all_goals (refine An A0 rfl rfl ⟨A6 vi ?_,trivial⟩;simp only [Ml,Ur,Go.Sx.Ch,Go.Sx.G8,J7,Mk] at *;unfold J2)
 ·by_cases h1:1≤g.aq
  ·have h2:=hw1 h1;rw [Ab A7]
  rw [Ab A7]
 ·by_cases h1:1≤g.aq
  ·have h2:=hw1 h1;rw [Ab A7]
  rw [Ab A7]
 ·rw [Ab A7]
 have h2:=hw1 A7;rw [Ak A7]
theorem Y7 (g:B2)(f t:Int):Dj 226 [.agg g.c,.one (vi f),.one (vi t)] [.one (vi (J2 g.aq f t))]:=by
 refine A6y A0 true Tryz.func226 rfl Cw fun W=>?_;conv=>whnf
 repeat' (first|(refine I1 ?_;conv=>whnf)|(refine I2 ?_;conv=>whnf)|(refine ⟨fun h=>?_,fun h=>?_⟩<;>conv=>whnf)|(refine H8 ?_;conv=>whnf)|fail)
 all_goals (refine An A0 rfl rfl ⟨A6 vi ?_,trivial⟩;simp only [J7,Mk] at *;unfold J2)
 ·rw [Ab A7]
 ·rw [Ab A7]
 rw [Ak A7]
theorem A44 (key n:Int)(hn:n≤9223372036854775807):Dj 183 [.one (vi key),.one (vi n)] [.one (vi (Es key n))]:=by
 refine E3 Tryz.func183 fun W=>?_;refine Eh (fun h=>?_) fun h=>?_
 ·exact An A0 rfl rfl ⟨A6 vi (by rw [Es,Ak h]),trivial⟩
 have h1:=A9x key (show 0<n by omega)
 have h2:=Int.lt_tmod_of_pos key (show 0<n by omega)
 refine B8 ?_;refine Eh (fun h'=>?_) fun h'=>?_
 ·refine B8 ?_
  exact An A0 rfl rfl ⟨A6 vi (by rw [Es,Ab h,Ak h']),trivial⟩
 exact An A0 rfl rfl ⟨A6 vi (by rw [Es,Ab h,Ab h']),trivial⟩
theorem A4a (key n:Int)(hn:n≤9223372036854775807):Dj 119 [.one (vi key),.one (vi n)] [.one (vi (Es key n))]:=by
 refine E3 Tryz.func119 fun W=>?_;refine Eh (fun h=>?_) fun h=>?_
 ·exact An A0 rfl rfl ⟨A6 vi (by rw [Es,Ak h]),trivial⟩
 have h1:=A9x key (show 0<n by omega)
 have h2:=Int.lt_tmod_of_pos key (show 0<n by omega)
 refine B8 ?_;refine Eh (fun h'=>?_) fun h'=>?_
 ·refine B8 ?_
  exact An A0 rfl rfl ⟨A6 vi (by rw [Es,Ab h,Ak h']),trivial⟩
 exact An A0 rfl rfl ⟨A6 vi (by rw [Es,Ab h,Ab h']),trivial⟩
end Go.Proofs.YtmhcebdkjgkmlaaGreatDoor
