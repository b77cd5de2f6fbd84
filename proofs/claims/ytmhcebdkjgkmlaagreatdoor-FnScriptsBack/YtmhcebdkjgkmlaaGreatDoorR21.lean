/- Part 21 of the proof that each of the laws FnScriptsBack returns true for every input. No conditions. -/
import Derived.Test.YtmhcebdkjgkmlaaGreatDoorR9
import Derived.Test.YtmhcebdkjgkmlaaGreatDoorR10

set_option linter.unusedSimpArgs false
set_option linter.unusedVariables false
set_option maxRecDepth 100000
namespace Go.Proofs.YtmhcebdkjgkmlaaGreatDoor
open Go.Sx
set_option maxHeartbeats 1000000 in
theorem Vl (l:List Al)(x:Al)(hl:l.length≤16000000):Df 218 [.one (As l),.agg x.c] [.one (As (I2 l x))]:=by
 refine Dy Tryz.func218 fun W=>?_;refine Hp (Fu l A7) ?_;refine Fh (A2x l x A7) ?_;refine C2 (fun hc=>?_) fun hc=>?_
 ·refine Af A0 rfl rfl ⟨?_,trivial⟩
  rw [I2,Ah hc];rfl
 refine Fs [] (fun k:Nat=>[(6,.c (vi k))]) (fun k=>[⟨0,[.c (vi x.op),.c (vi x.am),.c (vi x.key),.c (vi x.val)]⟩]) (fun k=>[⟨1,As l⟩]) (fun k=>k≤l.length∧∀i,i<k→ltX x (l.getD i default)=false) (fun k=>l.length-k) fun k hk=>?_;obtain ⟨hk,he⟩:=hk
 first|(refine Ae 5 rfl [0,1,2,3,4,5,6,7,8,9,10,11,12] Ak (Ag ?_))
 refine E3 (fun h=>?_) fun h=>?_
 ·have h:k<l.length:=by omega
  refine Ar ?_;refine Ao (Xp (l.getD k default) x) rfl (Ft ?_);refine E3 (fun h2=>?_) fun h2=>?_
  ·refine B6 ?_
   refine Co [(0,0),(1,1)] (k+1) ⟨by omega,fun i hi=>(Wl.1 hi).elim (fun h4=>he i h4) (fun h4=>by subst h4;simp only [ltX,Uj,Nq];exact h2)⟩ A7 ⟨rfl,trivial⟩ ⟨rfl,trivial⟩
  refine Mg 2 (As [x]) rfl (Cc rfl Td) ?_;refine A4w [.own 1,.c (vi k),.own 2] (A5t l k x A7 A7) (fun _ _=>trivial) (fun _ h=>by cases h) I1 rfl rfl (fun i _=>go A0 false ?_);conv=>whnf
  refine Af A0 rfl rfl ⟨?_,trivial⟩;rw [I2,Ab (by rw [hc];decide),(show Ph l x=k from B5h h he (by simp only [ltX,Mp,T1];exact h2))]
  rfl
 refine Ar ?_;refine Mg 2 (As [x]) rfl (Cc rfl Td) ?_;refine A4w [.own 1,.c (vi k),.own 2] (A5t l k x A7 A7) (fun _ _=>trivial) (fun _ h=>by cases h) I1 rfl rfl (fun i _=>go A0 false ?_);conv=>whnf
 refine Af A0 rfl rfl ⟨?_,trivial⟩;rw [I2,Ab (by rw [hc];decide),(show Ph l x=k by rw [B0t (fun i hi=>he i A7)];omega)]
 rfl
theorem C5k (xs:List Al)(hx:xs.length≤16777216)(f:Nat)(cs:List Ad)(p:Al→Bool)(hf:∀x∈xs,Df f [.agg x.c,.ptr cs] [.one (vb (p x))]):
  Df 336 [.one (As xs),.fn f [.ptr cs]] [.one (vi (Pf p xs))]:=by
 refine Dy Tryz.func336 fun W=>?_;refine Fs [] (fun k:Nat=>[(8,.c (vi k))]) (fun k=>[]) (fun k=>[]) (fun k=>k≤xs.length∧(xs.take k).any p=false) (fun k=>xs.length-k) fun k hk=>?_;obtain ⟨hk,he⟩:=hk;refine E3 (fun h=>?_) fun h=>?_
 ·have h:k<xs.length:=by omega
  refine B6 ?_;refine Fh (hf (xs.getD k default) (Am h)) ?_;refine C2 (fun hc=>?_) fun hc=>?_
  ·exact Af A0 rfl rfl ⟨A6 vi (Sm p xs k he h hc),trivial⟩
  refine B6 ?_;refine Co [] (k+1) ⟨by omega,Gq he h hc⟩ A7 ⟨rfl,trivial⟩ trivial
 exact Af A0 rfl rfl ⟨A6 vi (M9 p xs (by rw [Bt xs k A7] at he;exact he)),trivial⟩
def Mq (q:Al→Bool) (l:List Al) (j:Nat):Nat:=((l.take j).filter q).length
def Qa (q:Al→Bool) (l:List Al) (j:Nat):List Al:=(l.take j).filter q++l.drop (Mq q l j)
theorem C4i (q:Al→Bool)(l:List Al)(j:Nat):Mq q l j≤j:=G0 (Pm _ _) (Ng _ _)
theorem B9c (q:Al→Bool)(l:List Al)(j:Nat):Mq q l j≤l.length:=G0 (Pm _ _) (List.length_take_le' _ _)
variable {q : Al → Bool} {l : List Al} {j : Nat}
theorem A4z (hj:j<l.length):Mq q l (j+1)=Mq q l j+if q (l.getD j default)=true then 1 else 0:=by
 unfold Mq;rw [G5 q l j hj,Dn]
 split<;>rfl
theorem C4l:(Qa q l j).length=l.length:=by
 have:=B9c q l j
 rw [Qa,Dn,Gm]
 show Mq q l j+_=_
 omega
theorem C4k {i:Nat}(h:Mq q l j≤i):(Qa q l j).getD i default=l.getD i default:=by
 have e:((l.take j).filter q).length≤i:=h;simp only [Qa,List.getD,F8 e,T7];rw [show Mq q l j+(i-((l.take j).filter q).length)=i by show Mq q l j+(i-Mq q l j)=i;omega]
theorem C1h (hj:j<l.length)(hq:q (l.getD j default)=true):Qa q l (j+1)=(Qa q l j).set (Mq q l j) (l.getD j default):=by
 have h1:=C4i q l j;have e:Mq q l (j+1)=Mq q l j+1:=by rw [A4z hj,Ah hq]
 unfold Qa;rw [e,G5 q l j hj,Ah hq,List.set_append_right _ _ (show ((l.take j).filter q).length≤Mq q l j from Bu _),show Mq q l j-((l.take j).filter q).length=0 from Nat.sub_self _,Ci]
 congr 1
 rw [show l.drop (Mq q l j)=l.getD (Mq q l j) default::l.drop (Mq q l j+1) by rw [A8e A7];simp [List.getD,show Mq q l j<l.length by omega]]
 rfl
theorem A1b (hj:j<l.length)(hq:q (l.getD j default)=false):Qa q l (j+1)=Qa q l j∧Mq q l (j+1)=Mq q l j:=by
 have e:Mq q l (j+1)=Mq q l j:=by rw [A4z hj,Ab (by rw [hq];decide)];rfl
 refine ⟨?_,e⟩;unfold Qa;rw [e,G5 q l j hj,Ab (by rw [hq];decide),Gw]
theorem A4q {k:Nat}(h:(l.take k).any (fun y=>!q y)=false):(l.take k).filter q=l.take k:=by
 rw [List.filter_eq_self];intro y hy
 have:=A2d.1 h y hy
 simpa using this
theorem B65 {k:Nat}(hk:k<l.length)(h:(l.take k).any (fun y=>!q y)=false)(hq:q (l.getD k default)=false):Qa q l (k+1)=l∧Mq q l (k+1)=k:=by
 have e:=A1b hk hq;have c:Mq q l k=k:=by rw [Mq,A4q h,G2];omega
 rw [e.1,e.2,c,Qa,c,A4q h,Qy];exact ⟨rfl,rfl⟩
theorem C4j (h:l.length≤j):Qa q l j=l.filter q++l.drop (l.filter q).length∧Mq q l j=(l.filter q).length:=by
 rw [Qa,Mq,Pn h];exact ⟨rfl,rfl⟩
theorem C44 (p:Al→Bool)(l:List Al)(h:l.any p=true):∃k,k<l.length∧(l.take k).any p=false∧p (l.getD k default)=true:=by
 induction l with
 |nil=>simp at h
 |cons y r ih=>
  by_cases hy:p y=true
  ·exact ⟨0,by simp,by simp,hy⟩
  have hy:p y=false:=by simpa using hy
  rw [List.any_cons,hy,Zb] at h;obtain ⟨k,h1,h2,h3⟩:=ih h;exact ⟨k+1,by simpa using h1,by rw [List.take_succ_cons,List.any_cons,hy,h2];rfl,h3⟩
theorem B34 (p:Al→Bool)(l:List Al):(Pf p l= -1∧l.any p=false)∨∃k,k<l.length∧Pf p l=(k:Int)∧(l.take k).any p=false∧p (l.getD k default)=true:=by
 cases h:l.any p with
 |false=>exact .inl ⟨M9 p l h,rfl⟩
 |true=>
  right
  have ex:=C44 p l h;obtain ⟨k,h1,h2,h3⟩:=ex;exact ⟨k,h1,Sm p l k h2 h1 h3,h2,h3⟩
theorem C11 {k:Nat}(hk:k<l.length)(hq:q (l.getD k default)=false):(l.filter q).length<l.length:=by
 exact List.length_filter_lt_length_iff_exists.2 ⟨_,Am (d:=default) hk,by rw [hq];decide⟩
theorem D0q (l:List Al):(Iw Al.c l).length=l.length * 4:=B26 (es:=4) (fun _=>rfl) l
set_option maxHeartbeats 4000000 in
theorem Vi (l:List Al)(f:Nat)(cs:List Ad)(p:Al→Bool)(hl:l.length≤16777216)(hf:∀y:Al,Df f [.agg y.c,.ptr cs] [.one (vb (p y))]):
  P1 Tryz.prog (fun _=>True) 332 [] [.one (As l)] [.fn f [.ptr cs]] (fun _:Unit=>True) (fun _=>[.one (As (l.filter fun y=>!p y))]):=by
 refine A1e A0 false Tryz.func332 rfl Bk fun B hH hp=>?_;conv=>whnf
 refine Ao (C5k l hl f cs p (fun y _=>hf y)) rfl (Ag ?_)
 rcases B34 p l with ⟨hi,ha⟩|⟨k0,hk0,hi,ha,hp0⟩
 ·rw [hi]
  refine Ar ?_;rw [show l.filter (fun y=>!p y)=l by rw [List.filter_eq_self];intro y hy;have:=A2d.1 ha y hy;simpa using this]
  exact V0 A0 () trivial rfl rfl I1
 rw [hi];have hpn:(fun y=>!(fun y=>!p y) y)=p:=by funext y;simp
 obtain ⟨c1,c2⟩:=B65 (q:=fun y=>!p y) hk0 (by rw [hpn];exact ha) (by show (!p (l.getD k0 default))=false;rw [hp0];rfl)
 refine A20 C3u ?_;conv=>whnf
 refine B6 ?_;refine zlW [] (fun j:Nat×Nat×List Al=>[(6,.c (vi j.1)),(5,.c (vi j.2.1))]) (fun j=>[]) (fun j=>[⟨0,As j.2.2⟩]) (fun j=>j.1≤l.length∧k0<j.1∧j.2.1=Mq (fun y=>!p y) l j.1∧j.2.2=Qa (fun y=>!p y) l j.1) (fun j=>l.length-j.1) ((k0+1,k0,l)) (⟨hk0,Ru _,c2.symm,c1.symm⟩) fun j hj=>?_;obtain ⟨hj1,hjk,hj2,hj3⟩:=hj;have hxl:j.2.2.length=l.length:=by rw [hj3];exact C4l
 have hcj:=C4i (fun y=>!p y) l j.1;have hcl:=B9c (fun y=>!p y) l j.1;refine E3 (fun h=>?_) fun h=>?_
 ·have h:j.1<l.length:=by omega
  have hg:j.2.2.getD j.1 default=l.getD j.1 default:=by rw [hj3];exact C4k hcj
  refine B6 ?_;refine Fh (hf (j.2.2.getD j.1 default)) ?_;refine C2 (fun hc=>?_) fun hc=>?_
  ·have hc:(fun y=>!p y) (l.getD j.1 default)=true:=by rw [←hg];exact hc
   refine B6 ?_;refine Bi (j:=(j.2.1:Int)) A0 rfl (As (j.2.2.set j.2.1 (j.2.2.getD j.1 default))) (Cn (by rw [Cp];omega) rfl) (F1 ?_);refine Co [] ((j.1+1,j.2.1+1,j.2.2.set j.2.1 (j.2.2.getD j.1 default))) (⟨h,by show k0<j.1+1;omega,by show j.2.1+1=_;rw [A4z h,Ah hc,hj2],by show j.2.2.set j.2.1 _=_;rw [C1h h hc,hg,hj2,hj3]⟩) (by show l.length-(j.1+1)<_;omega) ⟨rfl,rfl,trivial⟩ ⟨rfl,trivial⟩
  have hc:(fun y=>!p y) (l.getD j.1 default)=false:=by rw [←hg];exact hc
  refine B6 ?_;refine Co [] ((j.1+1,j.2.1,j.2.2)) (⟨h,by show k0<j.1+1;omega,by show j.2.1=_;rw [(A1b h hc).2,hj2],by show j.2.2=_;rw [(A1b h hc).1,hj3]⟩) (by show l.length-(j.1+1)<_;omega) ⟨rfl,rfl,trivial⟩ ⟨rfl,trivial⟩
 have h:l.length≤j.1:=by omega
 obtain ⟨e1,e2⟩:=C4j (q:=fun y=>!p y) h;have hlt:=C11 (q:=fun y=>!p y) hk0 (by show (!p (l.getD k0 default))=false;rw [hp0];rfl)
 rw [e1] at hj3;rw [e2] at hj2;rw [hj3] at hxl;rw [hj2,hj3];generalize hf':l.filter (fun y=>!p y)=F at *;generalize hD:l.drop F.length=D at *;have hxl2:F.length+D.length=l.length:=by rw [←hxl,Dn]
 refine A39 0 4 Al.c (F++D) rfl (by rw [hxl];omega) (N1 _ _) (fun b off cap pre post p1 p2 p3 p4=>?_);rw [hxl] at p2 p4;refine Qh 0 0 rfl rfl ?_;refine Qh 36 0 rfl rfl ?_;refine Lj A0 rfl ⟨by omega,by rw [hxl];omega,by rw [hxl];omega,fun _=>by rw [hxl];omega,by omega⟩ (off * 4+F.length * 4) D.length (cap-F.length) Ef (by rw [hxl];omega) Ef (Go.Sx.Ft A0 false ?_);conv=>whnf
 refine B64 (kb:=1) A0 rfl rfl rfl rfl rfl rfl rfl rfl A7 (pre++Iw Al.c F) (Iw Al.c D) post (by show pre++Iw Al.c (F++D)++post=_;rw [Jn];simp only [Ci]) (by rw [Dn,D0q,p1]) (D0q D) (Go.Sx.Ft A0 false ?_)
 conv=>whnf
 refine Lj A0 rfl ⟨by omega,by omega,by omega,(fun h=>by cases h),by omega⟩ (off * 4) F.length cap Ef Ef Ef (Go.Sx.Ft A0 false ?_);conv=>whnf
 refine B5a Tryz.prog 4 1 off 4 Al.c F pre (List.replicate (D.length * 4) .any++post) rfl (by simp only [Ci]) (by exact p1) (fun _=>rfl) (N1 _ _) (by exact p3) (by exact ⟨by omega,by rw [Dn,Pl];omega⟩) rfl rfl rfl rfl ?_;exact V0 A0 () trivial rfl rfl I1
theorem B88 (x y:Al):Df 333 [.agg y.c,.ptr x.c] [.one (vb (B7 x y))]:=by
 refine Dy Tryz.func333 fun W=>?_;refine Fh (A0e x y) ?_;exact Af A0 rfl rfl ⟨rfl,trivial⟩
set_option maxHeartbeats 1000000 in
theorem A5p (l:List Al)(x:Al)(hl:l.length≤16000000):Df 325 [.one (As l),.agg x.c] [.one (As (M7 l x).1),.one (vb (M7 l x).2)]:=by
 refine Dy Tryz.func325 fun W=>?_;refine Fh (B4i l x.op x.am x.key A7) ?_;refine C2 (fun h1=>?_) fun h1=>?_
 ·refine Ar ?_
  refine C2 (fun h2=>?_) fun h2=>?_
  ·refine Ar ?_
   refine Hp (Fu l A7) ?_;rw [M7,Ah ⟨h1,Bp h2⟩];exact Dk
  refine Ar ?_;refine Hp (Fu l A7) ?_;refine C4d [.own 1] (Vi l _ x.c (fun y=>B7 x y) A7 (B88 x)) (fun _ _=>trivial) (fun _ h=>by cases h) I1 rfl rfl rfl (fun i _=>go A0 false ?_);conv=>whnf
  refine Hp (Vl (l.filter fun y=>!B7 x y) x (by have:=Pm (fun y=>!B7 x y) l;omega)) ?_;rw [M7,Ab (fun p=>absurd p.2 (Cy h2))];exact Dk
 refine Ar ?_;refine Hp (Fu l A7) ?_;refine C4d [.own 1] (Vi l _ x.c (fun y=>B7 x y) A7 (B88 x)) (fun _ _=>trivial) (fun _ h=>by cases h) I1 rfl rfl rfl (fun i _=>go A0 false ?_);conv=>whnf
 refine Hp (Vl (l.filter fun y=>!B7 x y) x (by have:=Pm (fun y=>!B7 x y) l;omega)) ?_;rw [M7,Ab (fun p=>by rw [p.1] at h1;cases h1)];exact Dk
theorem B2q {l:List Al}{x:Al}:Dd 6 l x=(I2 l x,!O8 l x):=by
 unfold Dd;rw [Ab Bk,Ah rfl]
 cases h:O8 l x with
 |true=>rw [Ah rfl,I2,Ah h];rfl
 |false=>rw [Ab Bk];rfl
theorem A1v {k:Int}{l:List Al}{x:Al}(h5:k≠5)(h8:k≠8)(h6:k≠6):Dd k l x=(l,true):=by
 unfold Dd;rw [Ab A7,Ab h6]
set_option maxHeartbeats 1000000 in
theorem A5y (kind:Int)(l:List Al)(x:Al)(hl:l.length≤16000000):Df 307 [.one (vi kind),.one (As l),.agg x.c] [.one (As (Dd kind l x).1),.one (vb (Dd kind l x).2)]:=by
 refine Dy Tryz.func307 fun W=>?_;refine ⟨fun h5=>have h5:=eq_of_beq h5;?_,fun h5=>have h5:=Nh.1 h5;?_⟩<;>conv=>whnf
 ·refine Ar ?_
  refine Hp (A5p l x hl) ?_;rw [Dd,Ah (.inl h5)];exact Dk
 refine ⟨fun h8=>have h8:=eq_of_beq h8;?_,fun h8=>have h8:=Nh.1 h8;?_⟩<;>conv=>whnf
 ·refine Ar ?_
  refine Hp (A5p l x hl) ?_;rw [Dd,Ah (.inr h8)];exact Dk
 refine Ar ?_;refine ⟨fun h6=>have h6:=eq_of_beq h6;?_,fun h6=>have h6:=Nh.1 h6;?_⟩<;>conv=>whnf
 ·first|(refine Ae 6 rfl [0,1,3,4,2,5,6,7,8] Ak (Ag ?_))
  refine Hp (Vl l x A7) ?_;refine Fh (A2x l x A7) ?_;rw [h6,B2q];exact Dk
 refine Hp (Fu l A7) ?_;rw [A1v h5 h8 h6];exact Dk
variable {a : Al} {b : Al}
theorem U3 (h:b.op≠a.op):(!B7 a b)=true:=by simp only [B7,Mp,T1];omega
theorem U4 (h:b.am≠a.am):(!B7 a b)=true:=by simp only [B7,Mp,T1];omega
theorem U5 (h:b.key≠a.key):(!B7 a b)=true:=by simp only [B7,Mp,T1];omega
theorem A0w (h1:b.op=a.op)(h2:b.am=a.am)(h3:b.key=a.key):(!B7 a b)=false:=by simp only [B7,Uj,Nq];omega
set_option maxHeartbeats 4000000 in
theorem A7n (kind:Int)(l:List Al)(x:Al)(hl:l.length≤16000000):Df 277 [.one (vi kind),.one (As l),.agg x.c] [.one (As (Dd kind l x).1),.one (vb (Dd kind l x).2)]:=by
 refine Dy Tryz.func277 fun W=>?_;refine Bg A0 rfl (As l) (Bw) (fun _=>Gj l) A7 (Ag ?_);refine ⟨fun h6=>have h6:=eq_of_beq h6;?_,fun h6=>have h6:=Nh.1 h6;?_⟩<;>conv=>whnf
 ·refine Fh (A3j l x A7) ?_
  refine C2 (fun hc=>?_) fun hc=>?_
  ·rw [h6,B2q,I2,Ah hc,hc]
   exact Dk
  refine Hp (Ov l x A7) ?_;rw [h6,B2q,hc];exact Dk
 refine ⟨fun h5=>have h5:=eq_of_beq h5;?_,fun h5=>have h5:=Nh.1 h5;?_⟩<;>conv=>whnf
 ·refine Ar ?_
  refine Fh (A3k l x.op x.am x.key A7) ?_;refine C2 (fun h1=>?_) fun h1=>?_
  ·refine Ar ?_
   refine C2 (fun h2=>?_) fun h2=>?_
   ·refine Ar ?_
    rw [Dd,Ah A7,M7,Ah ⟨h1,Bp h2⟩];exact Dk
   refine Ar ?_;refine Fi 3 (As []) rfl Dx ?_;refine Fs [48] (fun k:Nat=>[(12,.c (vi k))]) (fun k=>[⟨0,[.c (vi x.op),.c (vi x.am),.c (vi x.key),.c (vi x.val)]⟩]) (fun k=>[⟨3,As ((l.take k).filter (fun y=>!B7 x y))⟩]) (fun k=>k≤l.length) (fun k=>l.length-k) fun k hk=>?_;refine E3 (fun h=>?_) fun h=>?_
   ·have h:k<l.length:=by omega
    have hs:=G5 (fun y=>!B7 x y) l k h;have hb:=G6 (fun y=>!B7 x y) l k
    first|(refine Ae 16 rfl [0,1,2,3,4,5,6,7,8,9,10,11,12,13,14,15,16,17,18,19,20,21,22,23,24,25,26,27] Ak (Ag ?_))
    refine B6 ?_;refine ⟨fun n1=>have n1:=Oz.1 n1;?_,fun n1=>have n1:=Ni.1 n1;?_⟩<;>conv=>whnf
    ·rw [Cp] at n1
     refine Ar ?_;refine Bg A0 rfl (As ((l.take k).filter (fun y=>!B7 x y)++[l.getD k default])) (An rfl) Ij A7 (F1 ?_);refine Co [(3,5)] (k+1) A7 A7 ⟨rfl,trivial⟩ ⟨A6 As (by rw [hs,Ah (U3 n1)]),trivial⟩
    rw [Cp] at n1;refine Ar ?_;refine ⟨fun n2=>have n2:=Oz.1 n2;?_,fun n2=>have n2:=Ni.1 n2;?_⟩<;>conv=>whnf
    ·rw [Cp] at n2
     refine Ar ?_;refine Bg A0 rfl (As ((l.take k).filter (fun y=>!B7 x y)++[l.getD k default])) (An rfl) Ij A7 (F1 ?_);refine Co [(3,5)] (k+1) A7 A7 ⟨rfl,trivial⟩ ⟨A6 As (by rw [hs,Ah (U4 n2)]),trivial⟩
    rw [Cp] at n2;refine Ar ?_;refine ⟨fun n3=>have n3:=Oz.1 n3;?_,fun n3=>have n3:=Ni.1 n3;?_⟩<;>conv=>whnf
    ·rw [Cp] at n3
     refine Ar ?_;refine Bg A0 rfl (As ((l.take k).filter (fun y=>!B7 x y)++[l.getD k default])) (An rfl) Ij A7 (F1 ?_);refine Co [(3,5)] (k+1) A7 A7 ⟨rfl,trivial⟩ ⟨A6 As (by rw [hs,Ah (U5 n3)]),trivial⟩
    rw [Cp] at n3;refine Ar ?_;refine Co [] (k+1) A7 A7 ⟨rfl,trivial⟩ ⟨A6 As (by rw [hs,Ab (by rw [A0w n1 n2 n3];decide),Gw]),trivial⟩
   refine Ar ?_;obtain rfl:k=l.length:=by omega
   refine Hp (Ov ((l.take l.length).filter fun y=>!B7 x y) x (by have:=Pm (fun y=>!B7 x y) (l.take l.length);rw [H5] at *;omega)) ?_;rw [Dd,Ah A7,M7,Ab (fun p=>absurd p.2 (Cy h2))];refine Af A0 rfl rfl ?_;rw [H5];exact I1
  refine Ar ?_;refine Fi 3 (As []) rfl Dx ?_;refine Fs [48] (fun k:Nat=>[(12,.c (vi k))]) (fun k=>[⟨0,[.c (vi x.op),.c (vi x.am),.c (vi x.key),.c (vi x.val)]⟩]) (fun k=>[⟨3,As ((l.take k).filter (fun y=>!B7 x y))⟩]) (fun k=>k≤l.length) (fun k=>l.length-k) fun k hk=>?_;refine E3 (fun h=>?_) fun h=>?_
  ·have h:k<l.length:=by omega
   have hs:=G5 (fun y=>!B7 x y) l k h;have hb:=G6 (fun y=>!B7 x y) l k
   first|(refine Ae 16 rfl [0,1,2,3,4,5,6,7,8,9,10,11,12,13,14,15,16,17,18,19,20,21,22,23,24,25,26,27] Ak (Ag ?_))
   refine B6 ?_;refine ⟨fun n1=>have n1:=Oz.1 n1;?_,fun n1=>have n1:=Ni.1 n1;?_⟩<;>conv=>whnf
   ·rw [Cp] at n1
    refine Ar ?_;refine Bg A0 rfl (As ((l.take k).filter (fun y=>!B7 x y)++[l.getD k default])) (An rfl) Ij A7 (F1 ?_);refine Co [(3,5)] (k+1) A7 A7 ⟨rfl,trivial⟩ ⟨A6 As (by rw [hs,Ah (U3 n1)]),trivial⟩
   rw [Cp] at n1;refine Ar ?_;refine ⟨fun n2=>have n2:=Oz.1 n2;?_,fun n2=>have n2:=Ni.1 n2;?_⟩<;>conv=>whnf
   ·rw [Cp] at n2
    refine Ar ?_;refine Bg A0 rfl (As ((l.take k).filter (fun y=>!B7 x y)++[l.getD k default])) (An rfl) Ij A7 (F1 ?_);refine Co [(3,5)] (k+1) A7 A7 ⟨rfl,trivial⟩ ⟨A6 As (by rw [hs,Ah (U4 n2)]),trivial⟩
   rw [Cp] at n2;refine Ar ?_;refine ⟨fun n3=>have n3:=Oz.1 n3;?_,fun n3=>have n3:=Ni.1 n3;?_⟩<;>conv=>whnf
   ·rw [Cp] at n3
    refine Ar ?_;refine Bg A0 rfl (As ((l.take k).filter (fun y=>!B7 x y)++[l.getD k default])) (An rfl) Ij A7 (F1 ?_);refine Co [(3,5)] (k+1) A7 A7 ⟨rfl,trivial⟩ ⟨A6 As (by rw [hs,Ah (U5 n3)]),trivial⟩
   rw [Cp] at n3;refine Ar ?_;refine Co [] (k+1) A7 A7 ⟨rfl,trivial⟩ ⟨A6 As (by rw [hs,Ab (by rw [A0w n1 n2 n3];decide),Gw]),trivial⟩
  refine Ar ?_;obtain rfl:k=l.length:=by omega
  refine Hp (Ov ((l.take l.length).filter fun y=>!B7 x y) x (by have:=Pm (fun y=>!B7 x y) (l.take l.length);rw [H5] at *;omega)) ?_;rw [Dd,Ah A7,M7,Ab (fun p=>by rw [p.1] at h1;cases h1)];refine Af A0 rfl rfl ?_;rw [H5];exact I1
 refine ⟨fun h8=>have h8:=eq_of_beq h8;?_,fun h8=>have h8:=Nh.1 h8;?_⟩<;>conv=>whnf
 ·refine Ar ?_
  refine Fh (A3k l x.op x.am x.key A7) ?_;refine C2 (fun h1=>?_) fun h1=>?_
  ·refine Ar ?_
   refine C2 (fun h2=>?_) fun h2=>?_
   ·refine Ar ?_
    rw [Dd,Ah A7,M7,Ah ⟨h1,Bp h2⟩];exact Dk
   refine Ar ?_;refine Fi 3 (As []) rfl Dx ?_;refine Fs [48] (fun k:Nat=>[(12,.c (vi k))]) (fun k=>[⟨0,[.c (vi x.op),.c (vi x.am),.c (vi x.key),.c (vi x.val)]⟩]) (fun k=>[⟨3,As ((l.take k).filter (fun y=>!B7 x y))⟩]) (fun k=>k≤l.length) (fun k=>l.length-k) fun k hk=>?_;refine E3 (fun h=>?_) fun h=>?_
   ·have h:k<l.length:=by omega
    have hs:=G5 (fun y=>!B7 x y) l k h;have hb:=G6 (fun y=>!B7 x y) l k
    first|(refine Ae 16 rfl [0,1,2,3,4,5,6,7,8,9,10,11,12,13,14,15,16,17,18,19,20,21,22,23,24,25,26,27] Ak (Ag ?_))
    refine B6 ?_;refine ⟨fun n1=>have n1:=Oz.1 n1;?_,fun n1=>have n1:=Ni.1 n1;?_⟩<;>conv=>whnf
    ·rw [Cp] at n1
     refine Ar ?_;refine Bg A0 rfl (As ((l.take k).filter (fun y=>!B7 x y)++[l.getD k default])) (An rfl) Ij A7 (F1 ?_);refine Co [(3,5)] (k+1) A7 A7 ⟨rfl,trivial⟩ ⟨A6 As (by rw [hs,Ah (U3 n1)]),trivial⟩
    rw [Cp] at n1;refine Ar ?_;refine ⟨fun n2=>have n2:=Oz.1 n2;?_,fun n2=>have n2:=Ni.1 n2;?_⟩<;>conv=>whnf
    ·rw [Cp] at n2
     refine Ar ?_;refine Bg A0 rfl (As ((l.take k).filter (fun y=>!B7 x y)++[l.getD k default])) (An rfl) Ij A7 (F1 ?_);refine Co [(3,5)] (k+1) A7 A7 ⟨rfl,trivial⟩ ⟨A6 As (by rw [hs,Ah (U4 n2)]),trivial⟩
    rw [Cp] at n2;refine Ar ?_;refine ⟨fun n3=>have n3:=Oz.1 n3;?_,fun n3=>have n3:=Ni.1 n3;?_⟩<;>conv=>whnf
    ·rw [Cp] at n3
     refine Ar ?_;refine Bg A0 rfl (As ((l.take k).filter (fun y=>!B7 x y)++[l.getD k default])) (An rfl) Ij A7 (F1 ?_);refine Co [(3,5)] (k+1) A7 A7 ⟨rfl,trivial⟩ ⟨A6 As (by rw [hs,Ah (U5 n3)]),trivial⟩
    rw [Cp] at n3;refine Ar ?_;refine Co [] (k+1) A7 A7 ⟨rfl,trivial⟩ ⟨A6 As (by rw [hs,Ab (by rw [A0w n1 n2 n3];decide),Gw]),trivial⟩
   refine Ar ?_;obtain rfl:k=l.length:=by omega
   refine Hp (Ov ((l.take l.length).filter fun y=>!B7 x y) x (by have:=Pm (fun y=>!B7 x y) (l.take l.length);rw [H5] at *;omega)) ?_;rw [Dd,Ah A7,M7,Ab (fun p=>absurd p.2 (Cy h2))];refine Af A0 rfl rfl ?_;rw [H5];exact I1
  refine Ar ?_;refine Fi 3 (As []) rfl Dx ?_;refine Fs [48] (fun k:Nat=>[(12,.c (vi k))]) (fun k=>[⟨0,[.c (vi x.op),.c (vi x.am),.c (vi x.key),.c (vi x.val)]⟩]) (fun k=>[⟨3,As ((l.take k).filter (fun y=>!B7 x y))⟩]) (fun k=>k≤l.length) (fun k=>l.length-k) fun k hk=>?_;refine E3 (fun h=>?_) fun h=>?_
  ·have h:k<l.length:=by omega
   have hs:=G5 (fun y=>!B7 x y) l k h;have hb:=G6 (fun y=>!B7 x y) l k
   first|(refine Ae 16 rfl [0,1,2,3,4,5,6,7,8,9,10,11,12,13,14,15,16,17,18,19,20,21,22,23,24,25,26,27] Ak (Ag ?_))
   refine B6 ?_;refine ⟨fun n1=>have n1:=Oz.1 n1;?_,fun n1=>have n1:=Ni.1 n1;?_⟩<;>conv=>whnf
   ·rw [Cp] at n1
    refine Ar ?_;refine Bg A0 rfl (As ((l.take k).filter (fun y=>!B7 x y)++[l.getD k default])) (An rfl) Ij A7 (F1 ?_);refine Co [(3,5)] (k+1) A7 A7 ⟨rfl,trivial⟩ ⟨A6 As (by rw [hs,Ah (U3 n1)]),trivial⟩
   rw [Cp] at n1;refine Ar ?_;refine ⟨fun n2=>have n2:=Oz.1 n2;?_,fun n2=>have n2:=Ni.1 n2;?_⟩<;>conv=>whnf
   ·rw [Cp] at n2
    refine Ar ?_;refine Bg A0 rfl (As ((l.take k).filter (fun y=>!B7 x y)++[l.getD k default])) (An rfl) Ij A7 (F1 ?_);refine Co [(3,5)] (k+1) A7 A7 ⟨rfl,trivial⟩ ⟨A6 As (by rw [hs,Ah (U4 n2)]),trivial⟩
   rw [Cp] at n2;refine Ar ?_;refine ⟨fun n3=>have n3:=Oz.1 n3;?_,fun n3=>have n3:=Ni.1 n3;?_⟩<;>conv=>whnf
   ·rw [Cp] at n3
    refine Ar ?_;refine Bg A0 rfl (As ((l.take k).filter (fun y=>!B7 x y)++[l.getD k default])) (An rfl) Ij A7 (F1 ?_);refine Co [(3,5)] (k+1) A7 A7 ⟨rfl,trivial⟩ ⟨A6 As (by rw [hs,Ah (U5 n3)]),trivial⟩
   rw [Cp] at n3;refine Ar ?_;refine Co [] (k+1) A7 A7 ⟨rfl,trivial⟩ ⟨A6 As (by rw [hs,Ab (by rw [A0w n1 n2 n3];decide),Gw]),trivial⟩
  refine Ar ?_;obtain rfl:k=l.length:=by omega
  refine Hp (Ov ((l.take l.length).filter fun y=>!B7 x y) x (by have:=Pm (fun y=>!B7 x y) (l.take l.length);rw [H5] at *;omega)) ?_;rw [Dd,Ah A7,M7,Ab (fun p=>by rw [p.1] at h1;cases h1)];refine Af A0 rfl rfl ?_;rw [H5];exact I1
 refine Ar ?_;rw [A1v h5 h8 h6];exact Dk
end Go.Proofs.YtmhcebdkjgkmlaaGreatDoor
