/- Part 10 of the proof that each of the laws FnScriptsBack returns true for every input. No conditions. -/
import Derived.Test.YtmhcebdkjgkmlaaGreatDoorR7

set_option linter.unusedSimpArgs false
set_option linter.unusedVariables false
set_option maxRecDepth 100000
namespace Go.Proofs.YtmhcebdkjgkmlaaGreatDoor
open Go.Sx
theorem A3j (l:List Al)(x:Al)(hl:l.length≤16777216):Df 259 [.one (As l),.agg x.c] [.one (vb (O8 l x))]:=by
 refine Dy Tryz.func259 fun W=>?_;refine Fs [] (fun k:Nat=>[(5,.c (vi k))]) (fun k=>[⟨0,[.c (vi x.op),.c (vi x.am),.c (vi x.key),.c (vi x.val)]⟩]) (fun k=>[]) (fun k=>k≤l.length∧(l.take k).any (fun y=>decide (y=x))=false) (fun k=>l.length-k) fun k hk=>?_;obtain ⟨hk,he⟩:=hk;refine E3 (fun h=>?_) fun h=>?_
 ·have h:k<l.length:=by omega
  refine B6 ?_
  first|(refine Ae 4 rfl [0,1,2,3,4,5] Ak (Ag ?_))
  refine B6 ?_;refine C2 (fun hc=>?_) fun hc=>?_
  ·have hc:decide (l.getD k default=x)=true:=by rw [←Al.eqv];exact hc
   exact Af A0 rfl rfl ⟨A6 vb (show O8 l x=true from Uv.2 ⟨_,Am h,hc⟩),trivial⟩
  have hc:decide (l.getD k default=x)=false:=by rw [←Al.eqv];exact hc
  refine B6 ?_;refine Co [] (k+1) ⟨by omega,Gq he h hc⟩ A7 ⟨rfl,trivial⟩ trivial
 exact Af A0 rfl rfl ⟨A6 vb (show O8 l x=false by rw [O8,←Bt l k A7];exact he),trivial⟩
theorem A8w (l:List Al)(x:Al)(hl:l.length≤16777216):Df 320 [.one (As l),.agg x.c] [.one (vi (Pf (fun y=>decide (y=x)) l))]:=by
 refine Dy Tryz.func320 fun W=>?_;refine Fs [5,9,10,11,12,13,14,15,16,17,18] (fun k:Nat=>[(8,.c (vi k))]) (fun k=>[⟨0,[.c (vi x.op),.c (vi x.am),.c (vi x.key),.c (vi x.val)]⟩]) (fun k=>[]) (fun k=>k≤l.length∧(l.take k).any (fun y=>decide (y=x))=false) (fun k=>l.length-k) fun k hk=>?_;obtain ⟨hk,he⟩:=hk;refine E3 (fun h=>?_) fun h=>?_
 ·have h:k<l.length:=by omega
  refine B6 ?_
  first|(refine Ae 4 rfl [0,1,2,3,4,5] Ak (Ag ?_))
  refine B6 ?_;refine C2 (fun hc=>?_) fun hc=>?_
  ·have hc:decide (l.getD k default=x)=true:=by rw [←Um.2 (eq_comm (a:=x)),←Al.eqv];exact hc
   exact Af A0 rfl rfl ⟨A6 vi (Sm _ l k he h hc),trivial⟩
  have hc:decide (l.getD k default=x)=false:=by rw [←Um.2 (eq_comm (a:=x)),←Al.eqv];exact hc
  refine B6 ?_;refine Co [] (k+1) ⟨by omega,Gq he h hc⟩ A7 ⟨rfl,trivial⟩ trivial
 exact Af A0 rfl rfl ⟨A6 vi (M9 _ l (by rw [←Bt l k A7];exact he)),trivial⟩
theorem A1i (l:List Al)(x:Al)(hl:l.length≤16777216):Df 296 [.one (As l),.agg x.c] [.one (vb (O8 l x))]:=by
 refine Dy Tryz.func296 fun W=>?_;refine Fh (A8w l x hl) ?_;exact Af A0 rfl rfl ⟨A6 vb (A1f _ l).symm,trivial⟩
theorem A2x (l:List Al)(x:Al)(hl:l.length≤16777216):Df 261 [.one (As l),.agg x.c] [.one (vb (O8 l x))]:=by
 refine Dy Tryz.func261 fun W=>?_;refine Fh (A1i l x hl) ?_;exact Af A0 rfl rfl ⟨rfl,trivial⟩
variable {α : Type}
theorem Yj [Inhabited α] (p:α→Bool):∀(xs:List α) (k:Nat),k<xs.length→(∀i,i<k→p (xs.getD i default)=false)→p (xs.getD k default)=true→Iu p xs=k
 | [],_,h,_,_=>absurd h (Le _)
 |x::r,0,_,_,hp=>by
  have:p x=true:=hp
  simp [Iu,this]
 |x::r,k+1,h,hb,hp=>by
  have h0:p x=false:=hb 0 A7
  have:=Yj p r k (by simpa using h) (fun i hi=>hb (i+1) A7) hp
  simp [Iu,h0,this]
theorem A94 [Inhabited α] (p:α→Bool):∀(xs:List α),(∀i,i<xs.length→p (xs.getD i default)=false)→Iu p xs=xs.length
 | [],_=>rfl
 |x::r,hb=>by
  have h0:p x=false:=hb 0 Ef
  have:=A94 p r (fun i hi=>hb (i+1) (by simpa using hi))
  simp [Iu,h0,this]
def ltX (x y:Al):Bool:=!decide (Mx y x<0)
theorem B5h {l:List Al}{x:Al}{k:Nat}(h:k<l.length)(hb:∀i,i<k→ltX x (l.getD i default)=false)(hk:ltX x (l.getD k default)=true):Ph l x=k:=Yj _ l k h hb hk
theorem B0t {l:List Al}{x:Al}(hb:∀i,i<l.length→ltX x (l.getD i default)=false):Ph l x=l.length:=A94 _ l hb
theorem A13 [Inhabited α] {es:Nat}{e:α→List Ad}{xs:List α}{k:Nat}(h:k≤xs.length):Xj xs.length es (fun i=>e (xs.getD i default)) 0 (k:Int) (Mu es e (xs.take k)):=by
 have:=X8 (es:=es) (e:=e) (xs:=xs) (l:=0) (h:=(k:Int)) (T8 _) A7 A7
 simpa using this
theorem Im [Inhabited α] {es:Nat}{e:α→List Ad}{xs:List α}{k:Nat}(h:k≤xs.length):Xj xs.length es (fun i=>e (xs.getD i default)) (k:Int) (xs.length:Int) (Mu es e (xs.drop k)):=by
 have:=X8 (es:=es) (e:=e) (xs:=xs) (l:=(k:Int)) (h:=(xs.length:Int)) A7 A7 A7
 rwa [show (xs.drop (k:Int).toNat).take ((xs.length:Int)-(k:Int)).toNat=xs.drop k by rw [Cp];exact Pn Ef] at this
theorem C0c (l:List Al)(x:Al)(k:Nat):Ze (l.take k++[x]).length (l.drop k).length 4 (fun i=>Al.c ((l.take k++[x]).getD i default)) (fun i=>Al.c ((l.drop k).getD i default)) (As (l.take k++x::l.drop k)):=by
 rw [show l.take k++x::l.drop k=(l.take k++[x])++l.drop k by simp]
 exact A37 4 Al.c _ _
set_option maxHeartbeats 1000000 in
theorem Ov (l:List Al)(x:Al)(hl:l.length≤16000000):Df 215 [.one (As l),.agg x.c] [.one (As (I2 l x))]:=by
 refine Dy Tryz.func215 fun W=>?_;refine Fh (A3j l x A7) ?_;refine C2 (fun hc=>?_) fun hc=>?_
 ·refine Bg A0 rfl (As l) (Bw) (fun _=>Gj l) A7 (Ag ?_)
  refine Af A0 rfl rfl ⟨?_,trivial⟩;rw [I2,Ah hc];rfl
 refine Fs [] (fun k:Nat=>[(5,.c (vi k))]) (fun k=>[⟨0,[.c (vi x.op),.c (vi x.am),.c (vi x.key),.c (vi x.val)]⟩]) (fun k=>[]) (fun k=>k≤l.length∧∀i,i<k→ltX x (l.getD i default)=false) (fun k=>l.length-k) fun k hk=>?_;obtain ⟨hk,he⟩:=hk
 first|(refine Ae 4 rfl [0,1,2,3,4,5,6,7,8,9,10,11,12] Ak (Ag ?_))|(refine Ae 6 rfl [1,2,3,5,0,4,6,7,8] Ak (Ag ?_))
 refine E3 (fun h=>?_) fun h=>?_
 ·have h:k<l.length:=by omega
  refine Ar ?_;refine Ao (Y8 (l.getD k default) x) rfl (Ft ?_);refine E3 (fun h2=>?_) fun h2=>?_
  ·refine B6 ?_
   refine Co [] (k+1) ⟨by omega,fun i hi=>(Wl.1 hi).elim (fun h4=>he i h4) (fun h4=>by subst h4;simp only [ltX,Uj,Nq];exact h2)⟩ A7 ⟨rfl,trivial⟩ trivial
  refine Jd rfl (E4 1 rfl (E4 2 rfl ?_));refine Lw (s':=?_) 3 rfl Ak ?_ ?_;rotate_left;refine Ag ?_;refine P9 A0 rfl ⟨by omega,by omega,by omega⟩ (As (l.take k)) (A13 A7) (Ag ?_);exact C8
  refine Np [4,5,6,7,8] [⟨0,28,.emp 4⟩] Ak ?_;refine Na (s1:=?_) (s2:=?_) A0 [4,5,6,7,8] 4 5 [5,6,7,8] [4,6,7,8] rfl rfl Ak Dt Bk Bk ?_ ?_ ?_ ?_;rotate_left 2;refine Ag ?_;refine Bg A0 rfl (As (l.take k)) (Bw) (fun _=>Gj _) (by (have:=Ng k l);omega) (Ag ?_);exact C8
  refine Mt rfl Dt ?_;refine Mt rfl Dt ?_;refine La (s':=?_) rfl Dt ?_ ?_;rotate_left;refine Ag ?_;refine Bg A0 rfl (As (l.take k++[x])) (An rfl) Ij (by (have:=Ng k l);omega) (Ag ?_);exact C8
  refine Mt rfl Dt ?_;refine Lt A0 Ak Dt (GW.out (I7 ?_));conv=>whnf
  rotate_left 1;refine F1 ?_;exact C8
  refine Na (s1:=?_) (s2:=?_) A0 [4,6,7,8] 4 6 [6,7,8] [4,7,8] rfl rfl Ak Dt Bk Bk ?_ ?_ ?_ ?_;rotate_left 2;refine Ag ?_;refine Bg A0 rfl (As (l.take k)) (Bw) (fun _=>Gj _) (by (have:=Ng k l);omega) (Ag ?_);exact C8
  refine Mt rfl Dt ?_;refine La (s':=?_) rfl Dt ?_ ?_;rotate_left;refine Ag ?_;refine Bg A0 rfl (As (l.take k++[x])) (An rfl) Ij (by (have:=Ng k l);omega) (Ag ?_);exact C8
  refine Mt rfl Dt ?_;refine Lt A0 Ak Dt (GW.out (I7 ?_));conv=>whnf
  rotate_left 1;refine F1 ?_;exact C8
  refine La (s':=?_) rfl Dt ?_ ?_;rotate_left;refine Ag ?_;refine Bg A0 rfl (As (l.take k)) (Bw) (fun _=>Gj _) (by (have:=Ng k l);omega) (Ag ?_);exact C8
  refine La (s':=?_) rfl Dt ?_ ?_;rotate_left;refine Ag ?_;refine Bg A0 rfl (As (l.take k++[x])) (An rfl) Ij (by (have:=Ng k l);omega) (Ag ?_);exact C8
  refine Mt rfl Dt ?_;refine Lt A0 Ak Dt (GW.out (I7 ?_));conv=>whnf
  all_goals
   refine P9 A0 rfl ⟨by omega,by omega,by omega⟩ (As (l.drop k)) (Im A7) (Ag ?_);refine Bg A0 rfl (As (l.take k++x::l.drop k)) (C0c l x k) (fun _=>Gj _) (by (have:=Ng k l;have:=Gm (i:=k) (l:=l);simp only [Dn,Jb];omega)) (Ag ?_);refine Af A0 rfl rfl ⟨?_,trivial⟩;rw [I2,Ab (by rw [hc];decide),B5h h he (by simp only [ltX,Mp,T1];exact h2)];rfl
 refine Ar ?_;refine Jd rfl (E4 1 rfl (E4 2 rfl ?_));refine Lw (s':=?_) 3 rfl Ak ?_ ?_;rotate_left;refine Ag ?_;refine P9 A0 rfl ⟨by omega,by omega,by omega⟩ (As (l.take k)) (A13 A7) (Ag ?_);exact C8
 refine Np [4,5,6,7,8] [⟨0,28,.emp 4⟩] Ak ?_;refine Na (s1:=?_) (s2:=?_) A0 [4,5,6,7,8] 4 5 [5,6,7,8] [4,6,7,8] rfl rfl Ak Dt Bk Bk ?_ ?_ ?_ ?_;rotate_left 2;refine Ag ?_;refine Bg A0 rfl (As (l.take k)) (Bw) (fun _=>Gj _) (by (have:=Ng k l);omega) (Ag ?_);exact C8
 refine Mt rfl Dt ?_;refine Mt rfl Dt ?_;refine La (s':=?_) rfl Dt ?_ ?_;rotate_left;refine Ag ?_;refine Bg A0 rfl (As (l.take k++[x])) (An rfl) Ij (by (have:=Ng k l);omega) (Ag ?_);exact C8
 refine Mt rfl Dt ?_;refine Lt A0 Ak Dt (GW.out (I7 ?_));conv=>whnf
 rotate_left 1;refine F1 ?_;exact C8
 refine Na (s1:=?_) (s2:=?_) A0 [4,6,7,8] 4 6 [6,7,8] [4,7,8] rfl rfl Ak Dt Bk Bk ?_ ?_ ?_ ?_;rotate_left 2;refine Ag ?_;refine Bg A0 rfl (As (l.take k)) (Bw) (fun _=>Gj _) (by (have:=Ng k l);omega) (Ag ?_);exact C8
 refine Mt rfl Dt ?_;refine La (s':=?_) rfl Dt ?_ ?_;rotate_left;refine Ag ?_;refine Bg A0 rfl (As (l.take k++[x])) (An rfl) Ij (by (have:=Ng k l);omega) (Ag ?_);exact C8
 refine Mt rfl Dt ?_;refine Lt A0 Ak Dt (GW.out (I7 ?_));conv=>whnf
 rotate_left 1;refine F1 ?_;exact C8
 refine La (s':=?_) rfl Dt ?_ ?_;rotate_left;refine Ag ?_;refine Bg A0 rfl (As (l.take k)) (Bw) (fun _=>Gj _) (by (have:=Ng k l);omega) (Ag ?_);exact C8
 refine La (s':=?_) rfl Dt ?_ ?_;rotate_left;refine Ag ?_;refine Bg A0 rfl (As (l.take k++[x])) (An rfl) Ij (by (have:=Ng k l);omega) (Ag ?_);exact C8
 refine Mt rfl Dt ?_;refine Lt A0 Ak Dt (GW.out (I7 ?_));conv=>whnf
 all_goals
  refine P9 A0 rfl ⟨by omega,by omega,by omega⟩ (As (l.drop k)) (Im A7) (Ag ?_);refine Bg A0 rfl (As (l.take k++x::l.drop k)) (C0c l x k) (fun _=>Gj _) (by (have:=Ng k l;have:=Gm (i:=k) (l:=l);simp only [Dn,Jb];omega)) (Ag ?_);refine Af A0 rfl rfl ⟨?_,trivial⟩;rw [I2,Ab (by rw [hc];decide),(show Ph l x=k by rw [B0t (fun i hi=>he i A7)];omega)]
  rfl
theorem Ee {α:Type} [Inhabited α] {l:List α}{k:Nat}(hk:k<l.length):l.take (k+1)=l.take k++[l.getD k default]:=by
 rw [B3c hk]
 simp [List.getD,hk]
theorem Tu {l:List Al}{k:Nat}(hk:k<l.length)(op e key:Int):L7 (l.take (k+1)) op e key=A1m op e key (L7 (l.take k) op e key) (l.getD k default):=by
 unfold L7;rw [Ee hk,A8d];rfl
set_option maxHeartbeats 1000000 in
theorem A3k (l:List Al)(op e key:Int)(hl:l.length≤16000000):Df 313 [.one (As l),.one (vi op),.one (vi e),.one (vi key)] [.one (vi (L7 l op e key).1),.one (vb (L7 l op e key).2)]:=by
 refine Dy Tryz.func313 fun W=>?_;refine Fs [] (fun k:Nat=>[(12,.c (vi k)),(10,.c (vi (L7 (l.take k) op e key).1)),(11,.c (vb (L7 (l.take k) op e key).2))]) (fun k=>[]) (fun k=>[]) (fun k=>k≤l.length) (fun k=>l.length-k) fun k hk=>?_;refine E3 (fun h0=>?_) fun h0=>?_
 ·have h0:k<l.length:=by omega
  refine B6 ?_
  repeat' (first|(refine Gy ?_;conv=>whnf)|(refine Gz ?_;conv=>whnf)|(refine ⟨fun h=>?_,fun h=>?_⟩<;>conv=>whnf)|(refine Ew ?_;conv=>whnf)|fail)
  all_goals
   refine Co [] (k+1) A7 A7 ⟨rfl,A6 (fun n=>AV.c (vi n)) (by rw [Tu h0];simp_all [A1m]<;>rw [Ab A7]<;>assumption),A6 (fun n=>AV.c (vb n)) (by rw [Tu h0];simp_all [A1m]<;>rw [Ab A7]<;>assumption),trivial⟩ trivial
 refine Af A0 rfl rfl ⟨?_,?_,trivial⟩
 ·rw [show l.take k=l from Pn A7];rfl
 rw [show l.take k=l from Pn A7];rfl
theorem A0e (a b:Al):Df 334 [.agg a.c,.agg b.c] [.one (vb (B7 a b))]:=by
 refine Dy Tryz.func334 fun W=>?_
 repeat' (first|(refine Gy ?_;conv=>whnf)|(refine Gz ?_;conv=>whnf)|(refine ⟨fun h=>?_,fun h=>?_⟩<;>conv=>whnf)|(refine Af A0 rfl rfl ⟨?_,trivial⟩;conv=>whnf)|(refine Ew ?_;conv=>whnf)|fail)
 all_goals (refine A6 vb ?_;simp_all [B7]<;>rfl)
set_option maxHeartbeats 1000000 in
theorem B4i (l:List Al)(op e key:Int)(hl:l.length≤16000000):Df 331 [.one (As l),.one (vi op),.one (vi e),.one (vi key)] [.one (vi (L7 l op e key).1),.one (vb (L7 l op e key).2)]:=by
 refine Dy Tryz.func331 fun W=>?_;refine Fs [] (fun k:Nat=>[(16,.c (vi k)),(10,.c (vi (L7 (l.take k) op e key).1)),(11,.c (vb (L7 (l.take k) op e key).2))]) (fun k=>[]) (fun k=>[]) (fun k=>k≤l.length) (fun k=>l.length-k) fun k hk=>?_;refine E3 (fun h0=>?_) fun h0=>?_
 ·have h0:k<l.length:=by omega
  refine B6 ?_;refine Fh (A0e (l.getD k default) ⟨op,e,key,0⟩) ?_
  repeat' (first|(refine Gy ?_;conv=>whnf)|(refine Gz ?_;conv=>whnf)|(refine ⟨fun h=>?_,fun h=>?_⟩<;>conv=>whnf)|(refine Ew ?_;conv=>whnf)|fail)
  all_goals
   refine Co [] (k+1) A7 A7 ⟨rfl,A6 (fun n=>AV.c (vi n)) (by rw [Tu h0];simp_all [A1m,B7]<;>rw [Ab A7]<;>assumption),A6 (fun n=>AV.c (vb n)) (by rw [Tu h0];simp_all [A1m,B7]<;>rw [Ab A7]<;>assumption),trivial⟩ trivial
 refine Af A0 rfl rfl ⟨?_,?_,trivial⟩
 ·rw [show l.take k=l from Pn A7];rfl
 rw [show l.take k=l from Pn A7];rfl
end Go.Proofs.YtmhcebdkjgkmlaaGreatDoor
