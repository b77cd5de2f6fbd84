/- Part 22 of the proof that each of the laws FnConsole returns true for every input. No conditions. -/
import Derived.Test.YtmhcebdkjgkmlaaGreatDoorQ21

set_option linter.unusedSimpArgs false
set_option linter.unusedVariables false
set_option maxRecDepth 100000
namespace Go.Proofs.YtmhcebdkjgkmlaaGreatDoor
open Go.Sx
variable {l : D5}
theorem Rs {r:Aa}(h:¬ B48 l r):D8 l r=(l,false):=Ab h
theorem B7p {r:Aa}(h:B48 l r):D8 l r=(⟨l.cap,l.ar++[r],l.bv-1,l.back,l.bj+1,l.got⟩,true):=Ak h
theorem Xx (h:¬ (Hv l∧0<l.ar.length)):Bp l=(l,default,false):=Ab h
theorem A19 (h:Hv l∧0<l.ar.length):Bp l=(⟨l.cap,l.ar.drop 1,l.bv,l.back+1,l.bj,l.got+1⟩,l.ar.getD 0 default,true):=Ak h
theorem A5j (h:¬ (Hv l∧l.back≠0)):Et l=(l,false):=Ab h
theorem B5n (h:Hv l∧l.back≠0):Et l=(⟨l.cap,l.ar,l.bv+1,l.back-1,l.bj,l.got⟩,true):=Ak h
set_option maxHeartbeats 1000000 in
theorem A84 (l:D5)(r:Aa)(hl:l.w≤16777216):Di 242 [.agg l.c,.agg r.c] [.agg (D8 l r).1.c,.one (vb (D8 l r).2)]:=by
 have hq:l.ar.length≤16777216:=hl;refine E7 Tryz.func242 fun W=>?_;refine Gf (Pz l A7) ?_;refine Fp (Uk l A7) ?_;refine C1 (fun h1=>?_) fun h1=>?_
 ·have h1:Ka l=false:=by simpa using h1
  refine As ?_;rw [Rs (fun p=>absurd p.1 (Cv h1))];exact D4
 have h1:Hv l:=Bn (show Ka l=true by simpa using h1)
 obtain ⟨⟨n1,n2,n3,n4,n5,n6,n7⟩,nA⟩:=id h1;refine As ?_;refine Aq (Jq r) rfl (Gu ?_);refine C1 (fun h2=>?_) fun h2=>?_
 ·have h2:Fh r=false:=by simpa using h2
  refine As ?_;rw [Rs (fun p=>absurd p.2.1 (Cv h2))];exact D4
 have h2:H5 r:=Bn (show Fh r=true by simpa using h2)
 refine As ?_;refine Lf (fun h3=>?_) fun h3=>?_
 ·refine As ?_
  rw [Rs (fun p=>p.2.2.1 h3)];exact D4
 refine As ?_;refine C1 (fun h4=>?_) fun h4=>?_
 ·have h4:l.bj=1000000000:=by (have:=Bn h4;omega)
  refine As ?_;rw [Rs (fun p=>p.2.2.2 h4)];exact D4
 have h4:l.bj≠1000000000:=by (have:=Cv h4;omega)
 refine As ?_;refine B6 A0 rfl (A9 (l.ar++[r])) (Ao rfl) Hd A7 (Em ?_);rw [B7p ⟨h1,h2,h3,h4⟩];exact D4
set_option maxHeartbeats 1000000 in
theorem A7k (l:D5)(r:Aa)(hl:l.w≤16777216)(og2:l.got≤9223372036854775807):Di 227 [.agg l.c,.agg r.c] [.agg (D8 l r).1.c,.one (vb (D8 l r).2)]:=by
 have hq:l.ar.length≤16777216:=hl;refine E7 Tryz.func227 fun W=>?_;refine Gf (Pt l A7) ?_;refine Fp (Ty l A7 og2) ?_;refine C1 (fun h1=>?_) fun h1=>?_
 ·have h1:Ka l=false:=by simpa using h1
  refine As ?_;rw [Rs (fun p=>absurd p.1 (Cv h1))];exact D4
 have h1:Hv l:=Bn (show Ka l=true by simpa using h1)
 obtain ⟨⟨n1,n2,n3,n4,n5,n6,n7⟩,nA⟩:=id h1;refine As ?_;refine Aq (Ij r) rfl (Gu ?_);refine C1 (fun h2=>?_) fun h2=>?_
 ·have h2:Fh r=false:=by simpa using h2
  refine As ?_;rw [Rs (fun p=>absurd p.2.1 (Cv h2))];exact D4
 have h2:H5 r:=Bn (show Fh r=true by simpa using h2)
 refine As ?_;refine Lf (fun h3=>?_) fun h3=>?_
 ·refine As ?_
  rw [Rs (fun p=>p.2.2.1 h3)];exact D4
 refine As ?_;refine C1 (fun h4=>?_) fun h4=>?_
 ·have h4:l.bj=1000000000:=eq_of_beq h4
  refine As ?_;rw [Rs (fun p=>p.2.2.2 h4)];exact D4
 have h4:l.bj≠1000000000:=Ti.1 h4;refine As ?_;refine B6 A0 rfl (A9 (l.ar++[r])) (Ao rfl) Hd A7 (Em ?_);rw [B7p ⟨h1,h2,h3,h4⟩];exact D4
set_option maxHeartbeats 1000000 in
theorem B4r (l:D5)(hl:l.w≤16777216):Di 244 [.agg l.c] [.agg (Bp l).1.c,.agg (Bp l).2.1.c,.one (vb (Bp l).2.2)]:=by
 have hq:l.ar.length≤16777216:=hl;refine E7 Tryz.func244 fun W=>?_;refine Gf (Pz l A7) ?_;refine Fp (Uk l A7) ?_;refine C1 (fun h1=>?_) fun h1=>?_
 ·have h1:Ka l=false:=by simpa using h1
  refine As ?_;rw [Xx (fun p=>absurd p.1 (Cv h1))];exact D4
 have h1:Hv l:=Bn (show Ka l=true by simpa using h1)
 obtain ⟨⟨n1,n2,n3,n4,n5,n6,n7⟩,nA⟩:=id h1;refine As ?_;refine Lf (fun h2=>?_) fun h2=>?_
 ·refine As ?_
  rw [Xx (fun p=>by omega)];exact D4
 have h2:0<l.ar.length:=by omega
 refine As ?_;refine B4t A0 rfl (⟨by omega,by omega,by omega⟩) (A9 (l.ar.drop 1)) (Ip (k:=1) h2) (Ah ?_);refine B6 A0 rfl (A9 (l.ar.drop 1)) (Bs) (fun _=>J4 _) (by (rw [Ge];omega)) (Em ?_);refine J3 rfl ?_;refine On 0 ?_;refine zt2 1 2 ?_ ?_
 focus
  refine B4 ?_;refine Ec ?_;refine splitB [2] Am ⟨?_,trivial⟩;refine Em ?_;refine Ec ?_
 rotate_left 1
 focus
  refine B4 ?_;refine Ec ?_;refine On 1 ?_
 all_goals
  refine splitB [3] Am ⟨?_,trivial⟩;refine Em ?_;refine Ec (E5 4 rfl ?_);refine A0z Am (Ah ?_)
 all_goals
  rw [A19 ⟨h1,h2⟩];exact D4
set_option maxHeartbeats 1000000 in
theorem B3r (l:D5)(hl:l.w≤16777216)(og2:l.got≤9223372036854775807):Di 230 [.agg l.c] [.agg (Bp l).1.c,.agg (Bp l).2.1.c,.one (vb (Bp l).2.2)]:=by
 have hq:l.ar.length≤16777216:=hl;refine E7 Tryz.func230 fun W=>?_;refine Gf (Pt l A7) ?_;refine Fp (Ty l A7 og2) ?_;refine C1 (fun h1=>?_) fun h1=>?_
 ·have h1:Ka l=false:=by simpa using h1
  refine As ?_;rw [Xx (fun p=>absurd p.1 (Cv h1))];exact D4
 have h1:Hv l:=Bn (show Ka l=true by simpa using h1)
 obtain ⟨⟨n1,n2,n3,n4,n5,n6,n7⟩,nA⟩:=id h1;refine As ?_;refine Lf (fun h2=>?_) fun h2=>?_
 ·refine As ?_
  rw [Xx (fun p=>by omega)];exact D4
 have h2:0<l.ar.length:=by omega
 refine As ?_;refine B4t A0 rfl (⟨by omega,by omega,by omega⟩) (A9 (l.ar.drop 1)) (Ip (k:=1) h2) (Em ?_);refine J3 rfl (E5 1 rfl ?_);refine On 0 ?_;refine zt2 2 5 ?_ ?_
 focus
  refine B4 ?_;refine Ec (zt2 3 5 ?_ ?_)
  focus
   refine B4 ?_;refine Ec (zt2 4 5 ?_ ?_)
   focus
    refine B4 ?_;refine Ec ?_;refine splitB [5] Am ⟨?_,trivial⟩;refine Em ?_;refine Ec ?_
   rotate_left 1
   focus
    refine B4 ?_;refine Ec ?_;refine On 4 ?_
  rotate_left 2
  focus
   refine B4 ?_;refine Ec ?_;refine On 3 ?_;refine On 4 ?_
 rotate_left 3
 focus
  refine B4 ?_;refine Ec ?_;refine On 2 ?_;refine On 3 ?_;refine On 4 ?_
 all_goals
  refine splitB [6] Am ⟨?_,trivial⟩;refine Em ?_;refine Ec (E5 7 rfl ?_);refine A0z Am (Ah ?_)
 all_goals
  rw [A19 ⟨h1,h2⟩];exact D4
theorem A8x (l:D5)(hl:l.w≤16777216):Di 245 [.agg l.c] [.agg (Et l).1.c,.one (vb (Et l).2)]:=by
 refine E7 Tryz.func245 fun W=>?_;refine Gf (Pz l A7) ?_;refine Fp (Uk l A7) ?_;refine C1 (fun h1=>?_) fun h1=>?_
 ·have h1:Ka l=false:=by simpa using h1
  refine As ?_;rw [A5j (fun p=>absurd p.1 (Cv h1))];exact D4
 have h1:Hv l:=Bn (show Ka l=true by simpa using h1)
 obtain ⟨⟨n1,n2,n3,n4,n5,n6,n7⟩,nA⟩:=id h1;refine As ?_;refine Lf (fun h2=>?_) fun h2=>?_
 ·refine As ?_
  rw [A5j (fun p=>p.2 h2)];exact D4
 refine As ?_;rw [B5n ⟨h1,h2⟩];exact D4
theorem A7c (l:D5)(hl:l.w≤16777216)(og2:l.got≤9223372036854775807):Di 232 [.agg l.c] [.agg (Et l).1.c,.one (vb (Et l).2)]:=by
 refine E7 Tryz.func232 fun W=>?_;refine Gf (Pt l A7) ?_;refine Fp (Ty l A7 og2) ?_;refine C1 (fun h1=>?_) fun h1=>?_
 ·have h1:Ka l=false:=by simpa using h1
  refine As ?_;rw [A5j (fun p=>absurd p.1 (Cv h1))];exact D4
 have h1:Hv l:=Bn (show Ka l=true by simpa using h1)
 obtain ⟨⟨n1,n2,n3,n4,n5,n6,n7⟩,nA⟩:=id h1;refine As ?_;refine Lf (fun h2=>?_) fun h2=>?_
 ·refine As ?_
  rw [A5j (fun p=>p.2 h2)];exact D4
 refine As ?_;rw [B5n ⟨h1,h2⟩];exact D4
theorem Ep {α:Type} [Inhabited α] {l:List α}{k:Nat}(hk:k<l.length):l.take (k+1)=l.take k++[l.getD k default]:=by
 rw [A3p hk]
 simp [List.getD,hk]
theorem U3 {l:List Ad}{k:Nat}(hk:k<l.length)(op e key:Int):La (l.take (k+1)) op e key=A2x op e key (La (l.take k) op e key) (l.getD k default):=by
 unfold La;rw [Ep hk,A3l];rfl
set_option maxHeartbeats 1000000 in
theorem A4x (l:List Ad)(op e key:Int)(hl:l.length≤16000000):Di 313 [.one (Ai l),.one (vi op),.one (vi e),.one (vi key)] [.one (vi (La l op e key).1),.one (vb (La l op e key).2)]:=by
 refine E7 Tryz.func313 fun W=>?_;refine Fx [] (fun k:Nat=>[(12,.c (vi k)),(10,.c (vi (La (l.take k) op e key).1)),(11,.c (vb (La (l.take k) op e key).2))]) (fun k=>[]) (fun k=>[]) (fun k=>k≤l.length) (fun k=>l.length-k) fun k hk=>?_;refine Dv (fun h0=>?_) fun h0=>?_
 ·have h0:k<l.length:=by omega
  refine B4 ?_
  repeat' (first|(refine Ho ?_;conv=>whnf)|(refine Hp ?_;conv=>whnf)|(refine ⟨fun h=>?_,fun h=>?_⟩<;>conv=>whnf)|(refine Gn ?_;conv=>whnf)|fail)
  all_goals
   refine Cc [] (k+1) A7 A7 ⟨rfl,A6 (fun n=>AV.c (vi n)) (by rw [U3 h0];simp_all [A2x]<;>rw [Ab A7]<;>assumption),A6 (fun n=>AV.c (vb n)) (by rw [U3 h0];simp_all [A2x]<;>rw [Ab A7]<;>assumption),trivial⟩ trivial
 refine An A0 rfl rfl ⟨?_,?_,trivial⟩
 ·rw [show l.take k=l from Ms A7];rfl
 rw [show l.take k=l from Ms A7];rfl
theorem A1f (a b:Ad):Di 334 [.agg a.c,.agg b.c] [.one (vb (B7 a b))]:=by
 refine E7 Tryz.func334 fun W=>?_
 repeat' (first|(refine Ho ?_;conv=>whnf)|(refine Hp ?_;conv=>whnf)|(refine ⟨fun h=>?_,fun h=>?_⟩<;>conv=>whnf)|(refine An A0 rfl rfl ⟨?_,trivial⟩;conv=>whnf)|(refine Gn ?_;conv=>whnf)|fail)
 all_goals (refine A6 vb ?_;simp_all [B7]<;>rfl)
set_option maxHeartbeats 1000000 in
theorem B6b (l:List Ad)(op e key:Int)(hl:l.length≤16000000):Di 331 [.one (Ai l),.one (vi op),.one (vi e),.one (vi key)] [.one (vi (La l op e key).1),.one (vb (La l op e key).2)]:=by
 refine E7 Tryz.func331 fun W=>?_;refine Fx [] (fun k:Nat=>[(16,.c (vi k)),(10,.c (vi (La (l.take k) op e key).1)),(11,.c (vb (La (l.take k) op e key).2))]) (fun k=>[]) (fun k=>[]) (fun k=>k≤l.length) (fun k=>l.length-k) fun k hk=>?_;refine Dv (fun h0=>?_) fun h0=>?_
 ·have h0:k<l.length:=by omega
  refine B4 ?_;refine Fp (A1f (l.getD k default) ⟨op,e,key,0⟩) ?_
  repeat' (first|(refine Ho ?_;conv=>whnf)|(refine Hp ?_;conv=>whnf)|(refine ⟨fun h=>?_,fun h=>?_⟩<;>conv=>whnf)|(refine Gn ?_;conv=>whnf)|fail)
  all_goals
   refine Cc [] (k+1) A7 A7 ⟨rfl,A6 (fun n=>AV.c (vi n)) (by rw [U3 h0];simp_all [A2x,B7]<;>rw [Ab A7]<;>assumption),A6 (fun n=>AV.c (vb n)) (by rw [U3 h0];simp_all [A2x,B7]<;>rw [Ab A7]<;>assumption),trivial⟩ trivial
 refine An A0 rfl rfl ⟨?_,?_,trivial⟩
 ·rw [show l.take k=l from Ms A7];rfl
 rw [show l.take k=l from Ms A7];rfl
theorem C6t (xs:List Ad)(hx:xs.length≤16777216)(f:Nat)(cs:List Ag)(p:Ad→Bool)(hf:∀x∈xs,Di f [.agg x.c,.ptr cs] [.one (vb (p x))]):
  Di 336 [.one (Ai xs),.fn f [.ptr cs]] [.one (vi (Pf p xs))]:=by
 refine E7 Tryz.func336 fun W=>?_;refine Fx [] (fun k:Nat=>[(8,.c (vi k))]) (fun k=>[]) (fun k=>[]) (fun k=>k≤xs.length∧(xs.take k).any p=false) (fun k=>xs.length-k) fun k hk=>?_;obtain ⟨hk,he⟩:=hk;refine Dv (fun h=>?_) fun h=>?_
 ·have h:k<xs.length:=by omega
  refine B4 ?_;refine Fp (hf (xs.getD k default) (Al h)) ?_;refine C1 (fun hc=>?_) fun hc=>?_
  ·exact An A0 rfl rfl ⟨A6 vi (Su p xs k he h hc),trivial⟩
  refine B4 ?_;refine Cc [] (k+1) ⟨by omega,Gy he h hc⟩ A7 ⟨rfl,trivial⟩ trivial
 exact An A0 rfl rfl ⟨A6 vi (M8 p xs (by rw [Ej xs k A7] at he;exact he)),trivial⟩
def Mu (q:Ad→Bool) (l:List Ad) (j:Nat):Nat:=((l.take j).filter q).length
def Qb (q:Ad→Bool) (l:List Ad) (j:Nat):List Ad:=(l.take j).filter q++l.drop (Mu q l j)
theorem C5u (q:Ad→Bool)(l:List Ad)(j:Nat):Mu q l j≤j:=Fk (Nr _ _) (Ly _ _)
theorem C07 (q:Ad→Bool)(l:List Ad)(j:Nat):Mu q l j≤l.length:=Fk (Nr _ _) (List.length_take_le' _ _)
variable {q : Ad → Bool} {l : List Ad} {j : Nat}
theorem A6l (hj:j<l.length):Mu q l (j+1)=Mu q l j+if q (l.getD j default)=true then 1 else 0:=by
 unfold Mu;rw [Er q l j hj,D3]
 split<;>rfl
theorem C5x:(Qb q l j).length=l.length:=by
 have:=C07 q l j
 rw [Qb,D3,Ge]
 show Mu q l j+_=_
 omega
theorem C5w {i:Nat}(h:Mu q l j≤i):(Qb q l j).getD i default=l.getD i default:=by
 have e:((l.take j).filter q).length≤i:=h;simp only [Qb,List.getD,Fo e,Tf];rw [show Mu q l j+(i-((l.take j).filter q).length)=i by show Mu q l j+(i-Mu q l j)=i;omega]
theorem C27 (hj:j<l.length)(hq:q (l.getD j default)=true):Qb q l (j+1)=(Qb q l j).set (Mu q l j) (l.getD j default):=by
 have h1:=C5u q l j;have e:Mu q l (j+1)=Mu q l j+1:=by rw [A6l hj,Ak hq]
 unfold Qb;rw [e,Er q l j hj,Ak hq,List.set_append_right _ _ (show ((l.take j).filter q).length≤Mu q l j from Ds _),show Mu q l j-((l.take j).filter q).length=0 from Nat.sub_self _,Cr]
 congr 1
 rw [show l.drop (Mu q l j)=l.getD (Mu q l j) default::l.drop (Mu q l j+1) by rw [A9s A7];simp [List.getD,show Mu q l j<l.length by omega]]
 rfl
theorem A2n (hj:j<l.length)(hq:q (l.getD j default)=false):Qb q l (j+1)=Qb q l j∧Mu q l (j+1)=Mu q l j:=by
 have e:Mu q l (j+1)=Mu q l j:=by rw [A6l hj,Ab (by rw [hq];decide)];rfl
 refine ⟨?_,e⟩;unfold Qb;rw [e,Er q l j hj,Ab (by rw [hq];decide),I4]
theorem A6a {k:Nat}(h:(l.take k).any (fun y=>!q y)=false):(l.take k).filter q=l.take k:=by
 rw [List.filter_eq_self];intro y hy
 have:=A3j.1 h y hy
 simpa using this
theorem B82 {k:Nat}(hk:k<l.length)(h:(l.take k).any (fun y=>!q y)=false)(hq:q (l.getD k default)=false):Qb q l (k+1)=l∧Mu q l (k+1)=k:=by
 have e:=A2n hk hq;have c:Mu q l k=k:=by rw [Mu,A6a h,F9];omega
 rw [e.1,e.2,c,Qb,c,A6a h,Pk];exact ⟨rfl,rfl⟩
theorem C5v (h:l.length≤j):Qb q l j=l.filter q++l.drop (l.filter q).length∧Mu q l j=(l.filter q).length:=by
 rw [Qb,Mu,Ms h];exact ⟨rfl,rfl⟩
theorem C6g (p:Ad→Bool)(l:List Ad)(h:l.any p=true):∃k,k<l.length∧(l.take k).any p=false∧p (l.getD k default)=true:=by
 induction l with
 |nil=>simp at h
 |cons y r ih=>
  by_cases hy:p y=true
  ·exact ⟨0,by simp,by simp,hy⟩
  have hy:p y=false:=by simpa using hy
  rw [List.any_cons,hy,A0o] at h;obtain ⟨k,h1,h2,h3⟩:=ih h;exact ⟨k+1,by simpa using h1,by rw [List.take_succ_cons,List.any_cons,hy,h2];rfl,h3⟩
theorem B5w (p:Ad→Bool)(l:List Ad):(Pf p l= -1∧l.any p=false)∨∃k,k<l.length∧Pf p l=(k:Int)∧(l.take k).any p=false∧p (l.getD k default)=true:=by
 cases h:l.any p with
 |false=>exact .inl ⟨M8 p l h,rfl⟩
 |true=>
  right
  have ex:=C6g p l h;obtain ⟨k,h1,h2,h3⟩:=ex;exact ⟨k,h1,Su p l k h2 h1 h3,h2,h3⟩
theorem C3p {k:Nat}(hk:k<l.length)(hq:q (l.getD k default)=false):(l.filter q).length<l.length:=by
 exact List.length_filter_lt_length_iff_exists.2 ⟨_,Al (d:=default) hk,by rw [hq];decide⟩
theorem D1r (l:List Ad):(Ix Ad.c l).length=l.length * 4:=B4v (es:=4) (fun _=>rfl) l
set_option maxHeartbeats 4000000 in
theorem Vt (l:List Ad)(f:Nat)(cs:List Ag)(p:Ad→Bool)(hl:l.length≤16777216)(hf:∀y:Ad,Di f [.agg y.c,.ptr cs] [.one (vb (p y))]):
  Nw Tryz.prog (fun _=>True) 332 [] [.one (Ai l)] [.fn f [.ptr cs]] (fun _:Unit=>True) (fun _=>[.one (Ai (l.filter fun y=>!p y))]):=by
 refine Z5 A0 false Tryz.func332 rfl Bq fun B hH hp=>?_;conv=>whnf
 refine Aq (C6t l hl f cs p (fun y _=>hf y)) rfl (Ah ?_)
 rcases B5w p l with ⟨hi,ha⟩|⟨k0,hk0,hi,ha,hp0⟩
 ·rw [hi]
  refine As ?_;rw [show l.filter (fun y=>!p y)=l by rw [List.filter_eq_self];intro y hy;have:=A3j.1 ha y hy;simpa using this]
  exact V9 A0 () trivial rfl rfl J0
 rw [hi];have hpn:(fun y=>!(fun y=>!p y) y)=p:=by funext y;simp
 obtain ⟨c1,c2⟩:=B82 (q:=fun y=>!p y) hk0 (by rw [hpn];exact ha) (by show (!p (l.getD k0 default))=false;rw [hp0];rfl)
 refine Vy B8l ?_;conv=>whnf
 refine B4 ?_;refine zlW [] (fun j:Nat×Nat×List Ad=>[(6,.c (vi j.1)),(5,.c (vi j.2.1))]) (fun j=>[]) (fun j=>[⟨0,Ai j.2.2⟩]) (fun j=>j.1≤l.length∧k0<j.1∧j.2.1=Mu (fun y=>!p y) l j.1∧j.2.2=Qb (fun y=>!p y) l j.1) (fun j=>l.length-j.1) ((k0+1,k0,l)) (⟨hk0,Rz _,c2.symm,c1.symm⟩) fun j hj=>?_;obtain ⟨hj1,hjk,hj2,hj3⟩:=hj;have hxl:j.2.2.length=l.length:=by rw [hj3];exact C5x
 have hcj:=C5u (fun y=>!p y) l j.1;have hcl:=C07 (fun y=>!p y) l j.1;refine Dv (fun h=>?_) fun h=>?_
 ·have h:j.1<l.length:=by omega
  have hg:j.2.2.getD j.1 default=l.getD j.1 default:=by rw [hj3];exact C5w hcj
  refine B4 ?_;refine Fp (hf (j.2.2.getD j.1 default)) ?_;refine C1 (fun hc=>?_) fun hc=>?_
  ·have hc:(fun y=>!p y) (l.getD j.1 default)=true:=by rw [←hg];exact hc
   refine B4 ?_;refine Bi (j:=(j.2.1:Int)) A0 rfl (Ai (j.2.2.set j.2.1 (j.2.2.getD j.1 default))) (Cm (by rw [Bv];omega) rfl) (Em ?_);refine Cc [] ((j.1+1,j.2.1+1,j.2.2.set j.2.1 (j.2.2.getD j.1 default))) (⟨h,by show k0<j.1+1;omega,by show j.2.1+1=_;rw [A6l h,Ak hc,hj2],by show j.2.2.set j.2.1 _=_;rw [C27 h hc,hg,hj2,hj3]⟩) (by show l.length-(j.1+1)<_;omega) ⟨rfl,rfl,trivial⟩ ⟨rfl,trivial⟩
  have hc:(fun y=>!p y) (l.getD j.1 default)=false:=by rw [←hg];exact hc
  refine B4 ?_;refine Cc [] ((j.1+1,j.2.1,j.2.2)) (⟨h,by show k0<j.1+1;omega,by show j.2.1=_;rw [(A2n h hc).2,hj2],by show j.2.2=_;rw [(A2n h hc).1,hj3]⟩) (by show l.length-(j.1+1)<_;omega) ⟨rfl,rfl,trivial⟩ ⟨rfl,trivial⟩
 have h:l.length≤j.1:=by omega
 obtain ⟨e1,e2⟩:=C5v (q:=fun y=>!p y) h;have hlt:=C3p (q:=fun y=>!p y) hk0 (by show (!p (l.getD k0 default))=false;rw [hp0];rfl)
 rw [e1] at hj3;rw [e2] at hj2;rw [hj3] at hxl;rw [hj2,hj3];generalize hf':l.filter (fun y=>!p y)=F at *;generalize hD:l.drop F.length=D at *;have hxl2:F.length+D.length=l.length:=by rw [←hxl,D3]
 refine A5t 0 4 Ad.c (F++D) rfl (by rw [hxl];omega) (N5 _ _) (fun b off cap pre Cg p1 p2 p3 p4=>?_);rw [hxl] at p2 p4;refine Qh 0 0 rfl rfl ?_;refine Qh 36 0 rfl rfl ?_;refine Lk A0 rfl ⟨by omega,by rw [hxl];omega,by rw [hxl];omega,fun _=>by rw [hxl];omega,by omega⟩ (off * 4+F.length * 4) D.length (cap-F.length) Ey (by rw [hxl];omega) Ey (Go.Sx.Gu A0 false ?_);conv=>whnf
 refine B80 (kb:=1) A0 rfl rfl rfl rfl rfl rfl rfl rfl A7 (pre++Ix Ad.c F) (Ix Ad.c D) Cg (by show pre++Ix Ad.c (F++D)++Cg=_;rw [Js];simp only [Cr]) (by rw [D3,D1r,p1]) (D1r D) (Go.Sx.Gu A0 false ?_)
 conv=>whnf
 refine Lk A0 rfl ⟨by omega,by omega,by omega,(fun h=>by cases h),by omega⟩ (off * 4) F.length cap Ey Ey Ey (Go.Sx.Gu A0 false ?_);conv=>whnf
 refine B62 Tryz.prog 4 1 off 4 Ad.c F pre (List.replicate (D.length * 4) .any++Cg) rfl (by simp only [Cr]) (by exact p1) (fun _=>rfl) (N5 _ _) (by exact p3) (by exact ⟨by omega,by rw [D3,Pl];omega⟩) rfl rfl rfl rfl ?_;exact V9 A0 () trivial rfl rfl J0
end Go.Proofs.YtmhcebdkjgkmlaaGreatDoor
