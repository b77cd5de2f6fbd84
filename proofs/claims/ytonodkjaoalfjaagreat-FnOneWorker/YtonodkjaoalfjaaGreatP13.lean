/- Part 13 of the proof that each of the laws FnOneWorker returns true for every input. No conditions. -/
import Derived.Test.YtonodkjaoalfjaaGreatP12
import Derived.Test.YtonodkjaoalfjaaGreatP10

set_option linter.unusedSimpArgs false
set_option linter.unusedVariables false
set_option maxRecDepth 100000
namespace Go.Proofs.YtonodkjaoalfjaaGreat
open Go.Sx
theorem U8 (l:List A7)(x:A7)(hl:l.length≤16777216):B0 Tryz.prog 143 [.one (Ai l),.agg x.c] [.one (vb (I2 l x))]:=by
 refine Ay A0 false Tryz.func143 rfl Bu fun W=>?_
 conv=>whnf
 refine Bw A0 false [] (fun k:Nat=>[(5,.c (vi k))]) (fun k=>[⟨0,[.c (vi x.op),.c (vi x.epoch),.c (vi x.key),.c (vi x.val)]⟩]) (fun k=>[])
  (fun k=>k≤l.length∧(l.take k).any (fun y=>decide (y=x))=false) (fun k=>l.length-k) 0 ⟨Nat.zero_le _,by first|rfl|assumption|simp⟩ ⟨by first|rfl|simp [Dl,ren2,ren1,ren0],trivial⟩ Dh trivial D0 Aa (fun k hk=>?_)
 obtain ⟨hk,he⟩:=hk
 conv=>whnf
 refine G5 (fun h=>?_) fun h=>?_<;>conv=>whnf
 ·have h:k<l.length:=by omega
  (repeat refine Ar ?_)
  first|(refine B9 4 rfl [0,1,2,3,4,5] Aa (Al ?_))
  (repeat refine Ar ?_)
  refine ⟨fun hc=>?_,fun hc=>?_⟩<;>conv=>whnf
  ·have hc:decide (l.getD k default=x)=true:=by rw [←A7.eqv];exact hc
   exact Ao A0 rfl rfl ⟨congrArg vb (show I2 l x=true from List.any_eq_true.2 ⟨_,Aq h,hc⟩),trivial⟩
  ·have hc:decide (l.getD k default=x)=false:=by rw [←A7.eqv];exact hc
   (repeat refine Ar ?_)
   refine B5 [] (k+1) ⟨by omega,Gd he h hc⟩ Ac ⟨rfl,trivial⟩ trivial Dh Aa D0 Aa
 ·exact Ao A0 rfl rfl ⟨congrArg vb (show I2 l x=false by rw [I2,←Fi l k Ac];exact he),trivial⟩
theorem Y1 (l:List A7)(x:A7)(hl:l.length≤16777216):B0 Tryz.prog 265 [.one (Ai l),.agg x.c] [.one (vi (Kd (fun y=>decide (y=x)) l))]:=by
 refine Ay A0 false Tryz.func265 rfl Bu fun W=>?_
 conv=>whnf
 refine Bw A0 false [5,9,10,11,12,13,14,15,16,17,18] (fun k:Nat=>[(8,.c (vi k))]) (fun k=>[⟨0,[.c (vi x.op),.c (vi x.epoch),.c (vi x.key),.c (vi x.val)]⟩]) (fun k=>[])
  (fun k=>k≤l.length∧(l.take k).any (fun y=>decide (y=x))=false) (fun k=>l.length-k) 0 ⟨Nat.zero_le _,by first|rfl|assumption|simp⟩ ⟨by first|rfl|simp [Dl,ren2,ren1,ren0],trivial⟩ Dh trivial D0 Aa (fun k hk=>?_)
 obtain ⟨hk,he⟩:=hk
 conv=>whnf
 refine G5 (fun h=>?_) fun h=>?_<;>conv=>whnf
 ·have h:k<l.length:=by omega
  (repeat refine Ar ?_)
  first|(refine B9 4 rfl [0,1,2,3,4,5] Aa (Al ?_))
  (repeat refine Ar ?_)
  refine ⟨fun hc=>?_,fun hc=>?_⟩<;>conv=>whnf
  ·have hc:decide (l.getD k default=x)=true:=by rw [←decide_eq_decide.2 (eq_comm (a:=x)),←A7.eqv];exact hc
   exact Ao A0 rfl rfl ⟨congrArg vi (Mj _ l k he h hc),trivial⟩
  ·have hc:decide (l.getD k default=x)=false:=by rw [←decide_eq_decide.2 (eq_comm (a:=x)),←A7.eqv];exact hc
   (repeat refine Ar ?_)
   refine B5 [] (k+1) ⟨by omega,Gd he h hc⟩ Ac ⟨rfl,trivial⟩ trivial Dh Aa D0 Aa
 ·exact Ao A0 rfl rfl ⟨congrArg vi (I4 _ l (by rw [←Fi l k Ac];exact he)),trivial⟩
theorem T3 (l:List A7)(x:A7)(hl:l.length≤16777216):B0 Tryz.prog 261 [.one (Ai l),.agg x.c] [.one (vb (I2 l x))]:=by
 refine Ay A0 false Tryz.func261 rfl Bu fun W=>?_
 conv=>whnf
 refine Aw (Y1 l x hl) rfl (Al ?_)
 exact Ao A0 rfl rfl ⟨congrArg vb (Sw _ l).symm,trivial⟩
theorem Tv (l:List A7)(x:A7)(hl:l.length≤16777216):B0 Tryz.prog 255 [.one (Ai l),.agg x.c] [.one (vb (I2 l x))]:=by
 refine Ay A0 false Tryz.func255 rfl Bu fun W=>?_
 conv=>whnf
 refine Aw (T3 l x hl) rfl (Al ?_)
 exact Ao A0 rfl rfl ⟨rfl,trivial⟩
theorem Qw {α:Type} [Inhabited α] (p:α→Bool):∀(xs:List α) (k:Nat),k<xs.length→(∀i,i<k→p (xs.getD i default)=false)→p (xs.getD k default)=true→Ek p xs=k
 | [],_,h,_,_=>absurd h (Nat.not_lt_zero _)
 |x::r,0,_,_,hp=>by
  have:p x=true:=hp
  simp [Ek,this]
 |x::r,k+1,h,hb,hp=>by
  have h0:p x=false:=hb 0 Ac
  have:=Qw p r k (by simpa using h) (fun i hi=>hb (i+1) Ac) hp
  simp [Ek,h0,this]
theorem Yw {α:Type} [Inhabited α] (p:α→Bool):∀(xs:List α),(∀i,i<xs.length→p (xs.getD i default)=false)→Ek p xs=xs.length
 | [],_=>rfl
 |x::r,hb=>by
  have h0:p x=false:=hb 0 Bj
  have:=Yw p r (fun i hi=>hb (i+1) (by simpa using hi))
  simp [Ek,h0,this]
def ltX (x y:A7):Bool:=!decide (Jr y x<0)
theorem A4j {l:List A7}{x:A7}{k:Nat}(h:k<l.length)(hb:∀i,i<k→ltX x (l.getD i default)=false)(hk:ltX x (l.getD k default)=true):J2 l x=k:=Qw _ l k h hb hk
theorem Zj {l:List A7}{x:A7}(hb:∀i,i<l.length→ltX x (l.getD i default)=false):J2 l x=l.length:=Yw _ l hb
theorem B4z (l:List A7)(x:A7):J2 l x≤l.length:=by
 have:∀(p:A7→Bool) (m:List A7),Ek p m≤m.length:=by
  intro p m
  induction m with
  |nil=>simp [Ek]
  |cons y r ih=>simp only [Ek];split<;>simp<;>omega
 exact this _ l
theorem Zw {α:Type} [Inhabited α] {es:Nat}{e:α→List A8}{xs:List α}{k:Nat}(h:k≤xs.length):V4 xs.length es (fun i=>e (xs.getD i default)) 0 (k:Int) (Du es e (xs.take k)):=by
 have:=A15 (es:=es) (e:=e) (xs:=xs) (l:=0) (h:=(k:Int)) (Int.le_refl _) Ac Ac
 simpa using this
theorem Lf {α:Type} [Inhabited α] {es:Nat}{e:α→List A8}{xs:List α}{k:Nat}(h:k≤xs.length):V4 xs.length es (fun i=>e (xs.getD i default)) (k:Int) (xs.length:Int) (Du es e (xs.drop k)):=by
 have:=A15 (es:=es) (e:=e) (xs:=xs) (l:=(k:Int)) (h:=(xs.length:Int)) Ac Ac Ac
 rwa [show (xs.drop (k:Int).toNat).take ((xs.length:Int)-(k:Int)).toNat=xs.drop k by rw [Int.toNat_natCast];exact List.take_of_length_le Bj] at this
theorem A9c (l:List A7)(x:A7)(k:Nat):Ut (l.take k++[x]).length (l.drop k).length 4 (fun i=>A7.c ((l.take k++[x]).getD i default)) (fun i=>A7.c ((l.drop k).getD i default)) (Ai (l.take k++x::l.drop k)):=by
 rw [show l.take k++x::l.drop k=(l.take k++[x])++l.drop k by simp]
 exact A14 4 A7.c _ _
set_option maxHeartbeats 1000000 in
theorem Ip (l:List A7)(x:A7)(hl:l.length≤16000000):B0 Tryz.prog 115 [.one (Ai l),.agg x.c] [.one (Ai (Cy l x))]:=by
 refine Ay A0 false Tryz.func115 rfl Bu fun W=>?_
 conv=>whnf
 refine Aw (U8 l x Ac) rfl (Al ?_)
 refine ⟨fun hc=>?_,fun hc=>?_⟩<;>conv=>whnf
 ·refine Dp A0 rfl rfl rfl rfl rfl rfl rfl rfl rfl rfl rfl (Ai l) (Eh) (fun _=>Eu l) Ac (Al ?_)
  refine Ao A0 rfl rfl ⟨?_,trivial⟩
  rw [Cy,if_pos hc]
  rfl
 ·refine Bw A0 false [] (fun k:Nat=>[(5,.c (vi k))]) (fun k=>[⟨0,[.c (vi x.op),.c (vi x.epoch),.c (vi x.key),.c (vi x.val)]⟩]) (fun k=>[])
   (fun k=>k≤l.length∧∀i,i<k→ltX x (l.getD i default)=false) (fun k=>l.length-k) 0 ⟨Nat.zero_le _,by first|rfl|assumption|simp⟩ ⟨by first|rfl|simp [Dl,ren2,ren1,ren0],trivial⟩ Dh trivial D0 Aa (fun k hk=>?_)
  obtain ⟨hk,he⟩:=hk
  conv=>whnf
  first|(refine B9 4 rfl [0,1,2,3,4,5,6,7,8,9,10,11,12] Aa (Al ?_))|(refine B9 6 rfl [1,2,3,5,0,4,6,7,8] Aa (Al ?_))
  refine G5 (fun h=>?_) fun h=>?_<;>conv=>whnf
  ·have h:k<l.length:=by omega
   repeat refine Bi ?_
   refine Aw (Yd (l.getD k default) x) rfl (Al ?_)
   repeat refine Bi ?_
   refine G5 (fun h2=>?_) fun h2=>?_<;>conv=>whnf
   ·(repeat refine Ar ?_)
    refine B5 [] (k+1) ⟨by omega,fun i hi=>(Nat.lt_succ_iff_lt_or_eq.1 hi).elim (fun h4=>he i h4) (fun h4=>by subst h4;simp only [ltX,Bool.not_eq_false',decide_eq_true_eq];exact h2)⟩ Ac ⟨rfl,trivial⟩ trivial Dh Aa D0 Aa
   ·refine Jc rfl ?_
    refine Ct A0 false 1 rfl rfl Aa rfl (Af F3) ?_
    refine Ct A0 false 2 rfl rfl Aa rfl (Af F3) ?_
    refine Do (s':=?_) 3 rfl Aa ?_ ?_
    rotate_left
    refine go A0 false ?_
    conv=>whnf
    refine Xi A0 rfl rfl rfl rfl rfl rfl rfl (l:=0) (h:=(k:Int)) rfl rfl ⟨by omega,by omega,by omega⟩ (Ai (l.take k)) (Zw Ac) (Al ?_)
    exact Bd
    refine S7 [4,5,6,7,8] [⟨0,28,.emp 4⟩] Aa ?_
    refine Pg (s1:=?_) (s2:=?_) A0 [4,5,6,7,8] 4 5 [5,6,7,8] [4,6,7,8] rfl rfl Aa Gp Bu Bu ?_ ?_ ?_ ?_
    rotate_left 2
    refine go A0 false ?_
    conv=>whnf
    refine Dp A0 rfl rfl rfl rfl rfl rfl rfl rfl rfl rfl rfl (Ai (l.take k)) (Eh) (fun _=>Eu _) (by (have:=List.length_take_le k l);omega) (Al ?_)
    exact Bd
    refine D5 (s':=?_) A0 rfl Aa Gp ?_ ?_
    rotate_left
    refine go A0 false ?_
    conv=>whnf
    (repeat refine Ar ?_)
    exact Bd
    refine D5 (s':=?_) A0 rfl Aa Gp ?_ ?_
    rotate_left
    refine go A0 false ?_
    conv=>whnf
    (repeat refine Ar ?_)
    exact Bd
    refine D5 (s':=?_) A0 rfl Aa Gp ?_ ?_
    rotate_left
    refine go A0 false ?_
    conv=>whnf
    refine Dp A0 rfl rfl rfl rfl rfl rfl rfl rfl rfl rfl rfl (Ai (l.take k++[x])) (Bf rfl) Kc (by (have:=List.length_take_le k l);omega) (Al ?_)
    exact Bd
    refine D5 (s':=?_) A0 rfl Aa Gp ?_ ?_
    rotate_left
    refine go A0 false ?_
    conv=>whnf
    (repeat refine Ar ?_)
    exact Bd
    refine P5 A0 Aa Gp (GW.out (Tt ?_))
    conv=>whnf
    rotate_left 1
    refine go A0 false ?_
    conv=>whnf
    (repeat refine Ar ?_)
    exact Bd
    refine Pg (s1:=?_) (s2:=?_) A0 [4,6,7,8] 4 6 [6,7,8] [4,7,8] rfl rfl Aa Gp Bu Bu ?_ ?_ ?_ ?_
    rotate_left 2
    refine go A0 false ?_
    conv=>whnf
    refine Dp A0 rfl rfl rfl rfl rfl rfl rfl rfl rfl rfl rfl (Ai (l.take k)) (Eh) (fun _=>Eu _) (by (have:=List.length_take_le k l);omega) (Al ?_)
    exact Bd
    refine D5 (s':=?_) A0 rfl Aa Gp ?_ ?_
    rotate_left
    refine go A0 false ?_
    conv=>whnf
    (repeat refine Ar ?_)
    exact Bd
    refine D5 (s':=?_) A0 rfl Aa Gp ?_ ?_
    rotate_left
    refine go A0 false ?_
    conv=>whnf
    refine Dp A0 rfl rfl rfl rfl rfl rfl rfl rfl rfl rfl rfl (Ai (l.take k++[x])) (Bf rfl) Kc (by (have:=List.length_take_le k l);omega) (Al ?_)
    exact Bd
    refine D5 (s':=?_) A0 rfl Aa Gp ?_ ?_
    rotate_left
    refine go A0 false ?_
    conv=>whnf
    (repeat refine Ar ?_)
    exact Bd
    refine P5 A0 Aa Gp (GW.out (Tt ?_))
    conv=>whnf
    rotate_left 1
    refine go A0 false ?_
    conv=>whnf
    (repeat refine Ar ?_)
    exact Bd
    refine D5 (s':=?_) A0 rfl Aa Gp ?_ ?_
    rotate_left
    refine go A0 false ?_
    conv=>whnf
    refine Dp A0 rfl rfl rfl rfl rfl rfl rfl rfl rfl rfl rfl (Ai (l.take k)) (Eh) (fun _=>Eu _) (by (have:=List.length_take_le k l);omega) (Al ?_)
    exact Bd
    refine D5 (s':=?_) A0 rfl Aa Gp ?_ ?_
    rotate_left
    refine go A0 false ?_
    conv=>whnf
    refine Dp A0 rfl rfl rfl rfl rfl rfl rfl rfl rfl rfl rfl (Ai (l.take k++[x])) (Bf rfl) Kc (by (have:=List.length_take_le k l);omega) (Al ?_)
    exact Bd
    refine D5 (s':=?_) A0 rfl Aa Gp ?_ ?_
    rotate_left
    refine go A0 false ?_
    conv=>whnf
    (repeat refine Ar ?_)
    exact Bd
    refine P5 A0 Aa Gp (GW.out (Tt ?_))
    conv=>whnf
    all_goals
     refine Xi A0 rfl rfl rfl rfl rfl rfl rfl (l:=(k:Int)) (h:=(l.length:Int)) rfl rfl ⟨by omega,by omega,by omega⟩ (Ai (l.drop k)) (Lf Ac) (Al ?_)
     refine Dp A0 rfl rfl rfl rfl rfl rfl rfl rfl rfl rfl rfl (Ai (l.take k++x::l.drop k)) (A9c l x k) (fun _=>Eu _) (by (have:=List.length_take_le k l;have:=List.length_drop (i:=k) (l:=l);simp only [List.length_append,List.length_singleton];omega)) (Al ?_)
     refine Ao A0 rfl rfl ⟨?_,trivial⟩
     rw [Cy,if_neg (by rw [hc];decide),A4j h he (by simp only [ltX,Bool.not_eq_true',decide_eq_false_iff_not];exact h2)]
     rfl
  ·repeat refine Bi ?_
   refine Jc rfl ?_
   refine Ct A0 false 1 rfl rfl Aa rfl (Af F3) ?_
   refine Ct A0 false 2 rfl rfl Aa rfl (Af F3) ?_
   refine Do (s':=?_) 3 rfl Aa ?_ ?_
   rotate_left
   refine go A0 false ?_
   conv=>whnf
   refine Xi A0 rfl rfl rfl rfl rfl rfl rfl (l:=0) (h:=(k:Int)) rfl rfl ⟨by omega,by omega,by omega⟩ (Ai (l.take k)) (Zw Ac) (Al ?_)
   exact Bd
   refine S7 [4,5,6,7,8] [⟨0,28,.emp 4⟩] Aa ?_
   refine Pg (s1:=?_) (s2:=?_) A0 [4,5,6,7,8] 4 5 [5,6,7,8] [4,6,7,8] rfl rfl Aa Gp Bu Bu ?_ ?_ ?_ ?_
   rotate_left 2
   refine go A0 false ?_
   conv=>whnf
   refine Dp A0 rfl rfl rfl rfl rfl rfl rfl rfl rfl rfl rfl (Ai (l.take k)) (Eh) (fun _=>Eu _) (by (have:=List.length_take_le k l);omega) (Al ?_)
   exact Bd
   refine D5 (s':=?_) A0 rfl Aa Gp ?_ ?_
   rotate_left
   refine go A0 false ?_
   conv=>whnf
   (repeat refine Ar ?_)
   exact Bd
   refine D5 (s':=?_) A0 rfl Aa Gp ?_ ?_
   rotate_left
   refine go A0 false ?_
   conv=>whnf
   (repeat refine Ar ?_)
   exact Bd
   refine D5 (s':=?_) A0 rfl Aa Gp ?_ ?_
   rotate_left
   refine go A0 false ?_
   conv=>whnf
   refine Dp A0 rfl rfl rfl rfl rfl rfl rfl rfl rfl rfl rfl (Ai (l.take k++[x])) (Bf rfl) Kc (by (have:=List.length_take_le k l);omega) (Al ?_)
   exact Bd
   refine D5 (s':=?_) A0 rfl Aa Gp ?_ ?_
   rotate_left
   refine go A0 false ?_
   conv=>whnf
   (repeat refine Ar ?_)
   exact Bd
   refine P5 A0 Aa Gp (GW.out (Tt ?_))
   conv=>whnf
   rotate_left 1
   refine go A0 false ?_
   conv=>whnf
   (repeat refine Ar ?_)
   exact Bd
   refine Pg (s1:=?_) (s2:=?_) A0 [4,6,7,8] 4 6 [6,7,8] [4,7,8] rfl rfl Aa Gp Bu Bu ?_ ?_ ?_ ?_
   rotate_left 2
   refine go A0 false ?_
   conv=>whnf
   refine Dp A0 rfl rfl rfl rfl rfl rfl rfl rfl rfl rfl rfl (Ai (l.take k)) (Eh) (fun _=>Eu _) (by (have:=List.length_take_le k l);omega) (Al ?_)
   exact Bd
   refine D5 (s':=?_) A0 rfl Aa Gp ?_ ?_
   rotate_left
   refine go A0 false ?_
   conv=>whnf
   (repeat refine Ar ?_)
   exact Bd
   refine D5 (s':=?_) A0 rfl Aa Gp ?_ ?_
   rotate_left
   refine go A0 false ?_
   conv=>whnf
   refine Dp A0 rfl rfl rfl rfl rfl rfl rfl rfl rfl rfl rfl (Ai (l.take k++[x])) (Bf rfl) Kc (by (have:=List.length_take_le k l);omega) (Al ?_)
   exact Bd
   refine D5 (s':=?_) A0 rfl Aa Gp ?_ ?_
   rotate_left
   refine go A0 false ?_
   conv=>whnf
   (repeat refine Ar ?_)
   exact Bd
   refine P5 A0 Aa Gp (GW.out (Tt ?_))
   conv=>whnf
   rotate_left 1
   refine go A0 false ?_
   conv=>whnf
   (repeat refine Ar ?_)
   exact Bd
   refine D5 (s':=?_) A0 rfl Aa Gp ?_ ?_
   rotate_left
   refine go A0 false ?_
   conv=>whnf
   refine Dp A0 rfl rfl rfl rfl rfl rfl rfl rfl rfl rfl rfl (Ai (l.take k)) (Eh) (fun _=>Eu _) (by (have:=List.length_take_le k l);omega) (Al ?_)
   exact Bd
   refine D5 (s':=?_) A0 rfl Aa Gp ?_ ?_
   rotate_left
   refine go A0 false ?_
   conv=>whnf
   refine Dp A0 rfl rfl rfl rfl rfl rfl rfl rfl rfl rfl rfl (Ai (l.take k++[x])) (Bf rfl) Kc (by (have:=List.length_take_le k l);omega) (Al ?_)
   exact Bd
   refine D5 (s':=?_) A0 rfl Aa Gp ?_ ?_
   rotate_left
   refine go A0 false ?_
   conv=>whnf
   (repeat refine Ar ?_)
   exact Bd
   refine P5 A0 Aa Gp (GW.out (Tt ?_))
   conv=>whnf
   all_goals
    refine Xi A0 rfl rfl rfl rfl rfl rfl rfl (l:=(k:Int)) (h:=(l.length:Int)) rfl rfl ⟨by omega,by omega,by omega⟩ (Ai (l.drop k)) (Lf Ac) (Al ?_)
    refine Dp A0 rfl rfl rfl rfl rfl rfl rfl rfl rfl rfl rfl (Ai (l.take k++x::l.drop k)) (A9c l x k) (fun _=>Eu _) (by (have:=List.length_take_le k l;have:=List.length_drop (i:=k) (l:=l);simp only [List.length_append,List.length_singleton];omega)) (Al ?_)
    refine Ao A0 rfl rfl ⟨?_,trivial⟩
    rw [Cy,if_neg (by rw [hc];decide),(show J2 l x=k by rw [Zj (fun i hi=>he i Ac)];omega)]
    rfl
set_option maxHeartbeats 1000000 in
theorem Ou (l:List A7)(x:A7)(hl:l.length≤16000000):B0 Tryz.prog 254 [.one (Ai l),.agg x.c] [.one (Ai (Cy l x))]:=by
 refine Ay A0 false Tryz.func254 rfl Bu fun W=>?_
 conv=>whnf
 refine B4 (Er l Ac) rfl (Al ?_)
 refine Aw (Tv l x Ac) rfl (Al ?_)
 refine ⟨fun hc=>?_,fun hc=>?_⟩<;>conv=>whnf
 ·refine Ao A0 rfl rfl ⟨?_,trivial⟩
  rw [Cy,if_pos hc]
  rfl
 ·refine Bw A0 false [] (fun k:Nat=>[(6,.c (vi k))]) (fun k=>[⟨0,[.c (vi x.op),.c (vi x.epoch),.c (vi x.key),.c (vi x.val)]⟩]) (fun k=>[⟨1,Ai l⟩])
   (fun k=>k≤l.length∧∀i,i<k→ltX x (l.getD i default)=false) (fun k=>l.length-k) 0 ⟨Nat.zero_le _,by first|rfl|assumption|simp⟩ ⟨by first|rfl|simp [Dl,ren2,ren1,ren0],trivial⟩ Dh ⟨by first|rfl|exact (congrArg (fun l=>Du _ _ l) (List.append_nil _)).symm|(show (_:A8)=_;simp)|simp,trivial⟩ D0 Aa (fun k hk=>?_)
  obtain ⟨hk,he⟩:=hk
  conv=>whnf
  first|(refine B9 5 rfl [0,1,2,3,4,5,6,7,8,9,10,11,12] Aa (Al ?_))
  refine G5 (fun h=>?_) fun h=>?_<;>conv=>whnf
  ·have h:k<l.length:=by omega
   repeat refine Bi ?_
   refine Aw (Qa (l.getD k default) x) rfl (Al ?_)
   repeat refine Bi ?_
   refine G5 (fun h2=>?_) fun h2=>?_<;>conv=>whnf
   ·(repeat refine Ar ?_)
    refine B5 [(0,0),(1,1)] (k+1) ⟨by omega,fun i hi=>(Nat.lt_succ_iff_lt_or_eq.1 hi).elim (fun h4=>he i h4) (fun h4=>by subst h4;simp only [ltX,Bool.not_eq_false',decide_eq_true_eq];exact h2)⟩ Ac ⟨rfl,trivial⟩ ⟨rfl,trivial⟩ Dh Aa D0 Aa
   ·refine O2 2 (Ai [x]) rfl (Db rfl Dh) ?_
    refine A2y [.own 1,.c (vi k),.own 2] (W9 l k x Ac Ac) (fun _ _=>trivial) (fun _ h=>by cases h) Ca rfl rfl (fun i _=>go A0 false ?_)
    conv=>whnf
    refine Ao A0 rfl rfl ⟨?_,trivial⟩
    rw [Cy,if_neg (by rw [hc];decide),(show J2 l x=k from A4j h he (by simp only [ltX,Bool.not_eq_true',decide_eq_false_iff_not];exact h2))]
    rfl
  ·repeat refine Bi ?_
   refine O2 2 (Ai [x]) rfl (Db rfl Dh) ?_
   refine A2y [.own 1,.c (vi k),.own 2] (W9 l k x Ac Ac) (fun _ _=>trivial) (fun _ h=>by cases h) Ca rfl rfl (fun i _=>go A0 false ?_)
   conv=>whnf
   refine Ao A0 rfl rfl ⟨?_,trivial⟩
   rw [Cy,if_neg (by rw [hc];decide),(show J2 l x=k by rw [Zj (fun i hi=>he i Ac)];omega)]
   rfl
end Go.Proofs.YtonodkjaoalfjaaGreat
