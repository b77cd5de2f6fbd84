/- Part 19 of the proof that each of the laws FnExactRunScriptOf, FnExactSpreadResult returns true for every input. No conditions. -/
import Derived.Test.YtlbmkgkmbjadcaaGreatP18
import Derived.Test.YtlbmkgkmbjadcaaGreatP14

set_option linter.unusedSimpArgs false
set_option linter.unusedVariables false
set_option maxRecDepth 100000
namespace Go.Proofs.YtlbmkgkmbjadcaaGreat
open Go.Sx
theorem Ui (l:List Aa)(x:Aa)(hl:l.length≤16777216):Aq Tryz.prog 237 [.one (Ao l),.agg x.c] [.one (vb (K0 l x))]:=by
 refine Aj A0 false Tryz.func237 rfl Bs fun W=>?_
 conv=>whnf
 refine B6 A0 false [] (fun k:Nat=>[(5,.c (vi k))]) (fun k=>[⟨0,[.c (vi x.op),.c (vi x.epoch),.c (vi x.key),.c (vi x.val)]⟩]) (fun k=>[])
  (fun k=>k≤l.length∧(l.take k).any (fun y=>decide (y=x))=false) (fun k=>l.length-k) 0 ⟨Nat.zero_le _,by first|rfl|assumption|simp⟩ ⟨by first|rfl|simp [Cr,ren2,ren1,ren0],trivial⟩ Cp trivial Cc A5 (fun k hk=>?_)
 obtain ⟨hk,he⟩:=hk
 conv=>whnf
 refine F2 (fun h=>?_) fun h=>?_<;>conv=>whnf
 ·have h:k<l.length:=by omega
  (repeat refine An ?_)
  first|(refine Ak 4 rfl [0,1,2,3,4,5] A5 (Ae ?_))
  (repeat refine An ?_)
  refine ⟨fun hc=>?_,fun hc=>?_⟩<;>conv=>whnf
  ·have hc:decide (l.getD k default=x)=true:=by rw [←Aa.eqv];exact hc
   exact Ah A0 rfl rfl ⟨congrArg vb (show K0 l x=true from List.any_eq_true.2 ⟨_,B2 h,hc⟩),trivial⟩
  ·have hc:decide (l.getD k default=x)=false:=by rw [←Aa.eqv];exact hc
   (repeat refine An ?_)
   refine At [] (k+1) ⟨by omega,Fc he h hc⟩ Ad ⟨rfl,trivial⟩ trivial Cp A5 Cc A5
 ·exact Ah A0 rfl rfl ⟨congrArg vb (show K0 l x=false by rw [K0,←Ee l k Ad];exact he),trivial⟩
theorem Ye (l:List Aa)(x:Aa)(hl:l.length≤16777216):Aq Tryz.prog 256 [.one (Ao l),.agg x.c] [.one (vi (Kt (fun y=>decide (y=x)) l))]:=by
 refine Aj A0 false Tryz.func256 rfl Bs fun W=>?_
 conv=>whnf
 refine B6 A0 false [5,9,10,11,12,13,14,15,16,17,18] (fun k:Nat=>[(8,.c (vi k))]) (fun k=>[⟨0,[.c (vi x.op),.c (vi x.epoch),.c (vi x.key),.c (vi x.val)]⟩]) (fun k=>[])
  (fun k=>k≤l.length∧(l.take k).any (fun y=>decide (y=x))=false) (fun k=>l.length-k) 0 ⟨Nat.zero_le _,by first|rfl|assumption|simp⟩ ⟨by first|rfl|simp [Cr,ren2,ren1,ren0],trivial⟩ Cp trivial Cc A5 (fun k hk=>?_)
 obtain ⟨hk,he⟩:=hk
 conv=>whnf
 refine F2 (fun h=>?_) fun h=>?_<;>conv=>whnf
 ·have h:k<l.length:=by omega
  (repeat refine An ?_)
  first|(refine Ak 4 rfl [0,1,2,3,4,5] A5 (Ae ?_))
  (repeat refine An ?_)
  refine ⟨fun hc=>?_,fun hc=>?_⟩<;>conv=>whnf
  ·have hc:decide (l.getD k default=x)=true:=by rw [←decide_eq_decide.2 (eq_comm (a:=x)),←Aa.eqv];exact hc
   exact Ah A0 rfl rfl ⟨congrArg vi (Mw _ l k he h hc),trivial⟩
  ·have hc:decide (l.getD k default=x)=false:=by rw [←decide_eq_decide.2 (eq_comm (a:=x)),←Aa.eqv];exact hc
   (repeat refine An ?_)
   refine At [] (k+1) ⟨by omega,Fc he h hc⟩ Ad ⟨rfl,trivial⟩ trivial Cp A5 Cc A5
 ·exact Ah A0 rfl rfl ⟨congrArg vi (Ii _ l (by rw [←Ee l k Ad];exact he)),trivial⟩
theorem T3 (l:List Aa)(x:Aa)(hl:l.length≤16777216):Aq Tryz.prog 251 [.one (Ao l),.agg x.c] [.one (vb (K0 l x))]:=by
 refine Aj A0 false Tryz.func251 rfl Bs fun W=>?_
 conv=>whnf
 refine Ai (Ye l x hl) rfl (Ae ?_)
 exact Ah A0 rfl rfl ⟨congrArg vb (T0 _ l).symm,trivial⟩
theorem U3 (l:List Aa)(x:Aa)(hl:l.length≤16777216):Aq Tryz.prog 239 [.one (Ao l),.agg x.c] [.one (vb (K0 l x))]:=by
 refine Aj A0 false Tryz.func239 rfl Bs fun W=>?_
 conv=>whnf
 refine Ai (T3 l x hl) rfl (Ae ?_)
 exact Ah A0 rfl rfl ⟨rfl,trivial⟩
theorem Nh {α:Type} [Inhabited α] (p:α→Bool):∀(xs:List α) (k:Nat),k<xs.length→(∀i,i<k→p (xs.getD i default)=false)→p (xs.getD k default)=true→Fm p xs=k
 | [],_,h,_,_=>absurd h (Nat.not_lt_zero _)
 |x::r,0,_,_,hp=>by
  have:p x=true:=hp
  simp [Fm,this]
 |x::r,k+1,h,hb,hp=>by
  have h0:p x=false:=hb 0 Ad
  have:=Nh p r k (by simpa using h) (fun i hi=>hb (i+1) Ad) hp
  simp [Fm,h0,this]
theorem Z6 {α:Type} [Inhabited α] (p:α→Bool):∀(xs:List α),(∀i,i<xs.length→p (xs.getD i default)=false)→Fm p xs=xs.length
 | [],_=>rfl
 |x::r,hb=>by
  have h0:p x=false:=hb 0 C7
  have:=Z6 p r (fun i hi=>hb (i+1) (by simpa using hi))
  simp [Fm,h0,this]
def ltX (x y:Aa):Bool:=!decide (J6 y x<0)
theorem A3v {l:List Aa}{x:Aa}{k:Nat}(h:k<l.length)(hb:∀i,i<k→ltX x (l.getD i default)=false)(hk:ltX x (l.getD k default)=true):Kf l x=k:=Nh _ l k h hb hk
theorem Zs {l:List Aa}{x:Aa}(hb:∀i,i<l.length→ltX x (l.getD i default)=false):Kf l x=l.length:=Z6 _ l hb
theorem B24 (l:List Aa)(x:Aa):Kf l x≤l.length:=by
 have:∀(p:Aa→Bool) (m:List Aa),Fm p m≤m.length:=by
  intro p m
  induction m with
  |nil=>simp [Fm]
  |cons y r ih=>simp only [Fm];split<;>simp<;>omega
 exact this _ l
theorem To {α:Type} [Inhabited α] {es:Nat}{e:α→List Ab}{xs:List α}{k:Nat}(h:k≤xs.length):Vd xs.length es (fun i=>e (xs.getD i default)) 0 (k:Int) (Cb es e (xs.take k)):=by
 have:=A1s (es:=es) (e:=e) (xs:=xs) (l:=0) (h:=(k:Int)) (Int.le_refl _) Ad Ad
 simpa using this
theorem G9 {α:Type} [Inhabited α] {es:Nat}{e:α→List Ab}{xs:List α}{k:Nat}(h:k≤xs.length):Vd xs.length es (fun i=>e (xs.getD i default)) (k:Int) (xs.length:Int) (Cb es e (xs.drop k)):=by
 have:=A1s (es:=es) (e:=e) (xs:=xs) (l:=(k:Int)) (h:=(xs.length:Int)) Ad Ad Ad
 rwa [show (xs.drop (k:Int).toNat).take ((xs.length:Int)-(k:Int)).toNat=xs.drop k by rw [Int.toNat_natCast];exact List.take_of_length_le C7] at this
theorem A77 (l:List Aa)(x:Aa)(k:Nat):Rf (l.take k++[x]).length (l.drop k).length 4 (fun i=>Aa.c ((l.take k++[x]).getD i default)) (fun i=>Aa.c ((l.drop k).getD i default)) (Ao (l.take k++x::l.drop k)):=by
 rw [show l.take k++x::l.drop k=(l.take k++[x])++l.drop k by simp]
 exact V3 4 Aa.c _ _
set_option maxHeartbeats 1000000 in
theorem Iu (l:List Aa)(x:Aa)(hl:l.length≤16000000):Aq Tryz.prog 217 [.one (Ao l),.agg x.c] [.one (Ao (Du l x))]:=by
 refine Aj A0 false Tryz.func217 rfl Bs fun W=>?_
 conv=>whnf
 refine Ai (Ui l x Ad) rfl (Ae ?_)
 refine ⟨fun hc=>?_,fun hc=>?_⟩<;>conv=>whnf
 ·refine Bm A0 rfl rfl rfl rfl rfl rfl rfl rfl rfl rfl rfl (Ao l) (B1) (fun _=>Fa l) Ad (Ae ?_)
  refine Ah A0 rfl rfl ⟨?_,trivial⟩
  rw [Du,if_pos hc]
  rfl
 ·refine B6 A0 false [] (fun k:Nat=>[(5,.c (vi k))]) (fun k=>[⟨0,[.c (vi x.op),.c (vi x.epoch),.c (vi x.key),.c (vi x.val)]⟩]) (fun k=>[])
   (fun k=>k≤l.length∧∀i,i<k→ltX x (l.getD i default)=false) (fun k=>l.length-k) 0 ⟨Nat.zero_le _,by first|rfl|assumption|simp⟩ ⟨by first|rfl|simp [Cr,ren2,ren1,ren0],trivial⟩ Cp trivial Cc A5 (fun k hk=>?_)
  obtain ⟨hk,he⟩:=hk
  conv=>whnf
  first|(refine Ak 4 rfl [0,1,2,3,4,5,6,7,8,9,10,11,12] A5 (Ae ?_))|(refine Ak 6 rfl [1,2,3,5,0,4,6,7,8] A5 (Ae ?_))
  refine F2 (fun h=>?_) fun h=>?_<;>conv=>whnf
  ·have h:k<l.length:=by omega
   repeat refine B9 ?_
   refine Ai (Qp (l.getD k default) x) rfl (Ae ?_)
   repeat refine B9 ?_
   refine F2 (fun h2=>?_) fun h2=>?_<;>conv=>whnf
   ·(repeat refine An ?_)
    refine At [] (k+1) ⟨by omega,fun i hi=>(Nat.lt_succ_iff_lt_or_eq.1 hi).elim (fun h4=>he i h4) (fun h4=>by subst h4;simp only [ltX,Bool.not_eq_false',decide_eq_true_eq];exact h2)⟩ Ad ⟨rfl,trivial⟩ trivial Cp A5 Cc A5
   ·refine Gl rfl ?_
    refine Bk A0 false 1 rfl rfl A5 rfl (Af D7) ?_
    refine Bk A0 false 2 rfl rfl A5 rfl (Af D7) ?_
    refine Cj (s':=?_) 3 rfl A5 ?_ ?_
    rotate_left
    refine go A0 false ?_
    conv=>whnf
    refine O0 A0 rfl rfl rfl rfl rfl rfl rfl (l:=0) (h:=(k:Int)) rfl rfl ⟨by omega,by omega,by omega⟩ (Ao (l.take k)) (To Ad) (Ae ?_)
    exact Ax
    refine Jo [4,5,6,7,8] [⟨0,28,.emp 4⟩] A5 ?_
    refine Jf (s1:=?_) (s2:=?_) A0 [4,5,6,7,8] 4 5 [5,6,7,8] [4,6,7,8] rfl rfl A5 F1 Bs Bs ?_ ?_ ?_ ?_
    rotate_left 2
    refine go A0 false ?_
    conv=>whnf
    refine Bm A0 rfl rfl rfl rfl rfl rfl rfl rfl rfl rfl rfl (Ao (l.take k)) (B1) (fun _=>Fa _) (by (have:=List.length_take_le k l);omega) (Ae ?_)
    exact Ax
    refine Bf (s':=?_) A0 rfl A5 F1 ?_ ?_
    rotate_left
    refine go A0 false ?_
    conv=>whnf
    (repeat refine An ?_)
    exact Ax
    refine Bf (s':=?_) A0 rfl A5 F1 ?_ ?_
    rotate_left
    refine go A0 false ?_
    conv=>whnf
    (repeat refine An ?_)
    exact Ax
    refine Bf (s':=?_) A0 rfl A5 F1 ?_ ?_
    rotate_left
    refine go A0 false ?_
    conv=>whnf
    refine Bm A0 rfl rfl rfl rfl rfl rfl rfl rfl rfl rfl rfl (Ao (l.take k++[x])) (Bh rfl) Ef (by (have:=List.length_take_le k l);omega) (Ae ?_)
    exact Ax
    refine Bf (s':=?_) A0 rfl A5 F1 ?_ ?_
    rotate_left
    refine go A0 false ?_
    conv=>whnf
    (repeat refine An ?_)
    exact Ax
    refine I7 A0 A5 F1 (GW.out (Iy ?_))
    conv=>whnf
    rotate_left 1
    refine go A0 false ?_
    conv=>whnf
    (repeat refine An ?_)
    exact Ax
    refine Jf (s1:=?_) (s2:=?_) A0 [4,6,7,8] 4 6 [6,7,8] [4,7,8] rfl rfl A5 F1 Bs Bs ?_ ?_ ?_ ?_
    rotate_left 2
    refine go A0 false ?_
    conv=>whnf
    refine Bm A0 rfl rfl rfl rfl rfl rfl rfl rfl rfl rfl rfl (Ao (l.take k)) (B1) (fun _=>Fa _) (by (have:=List.length_take_le k l);omega) (Ae ?_)
    exact Ax
    refine Bf (s':=?_) A0 rfl A5 F1 ?_ ?_
    rotate_left
    refine go A0 false ?_
    conv=>whnf
    (repeat refine An ?_)
    exact Ax
    refine Bf (s':=?_) A0 rfl A5 F1 ?_ ?_
    rotate_left
    refine go A0 false ?_
    conv=>whnf
    refine Bm A0 rfl rfl rfl rfl rfl rfl rfl rfl rfl rfl rfl (Ao (l.take k++[x])) (Bh rfl) Ef (by (have:=List.length_take_le k l);omega) (Ae ?_)
    exact Ax
    refine Bf (s':=?_) A0 rfl A5 F1 ?_ ?_
    rotate_left
    refine go A0 false ?_
    conv=>whnf
    (repeat refine An ?_)
    exact Ax
    refine I7 A0 A5 F1 (GW.out (Iy ?_))
    conv=>whnf
    rotate_left 1
    refine go A0 false ?_
    conv=>whnf
    (repeat refine An ?_)
    exact Ax
    refine Bf (s':=?_) A0 rfl A5 F1 ?_ ?_
    rotate_left
    refine go A0 false ?_
    conv=>whnf
    refine Bm A0 rfl rfl rfl rfl rfl rfl rfl rfl rfl rfl rfl (Ao (l.take k)) (B1) (fun _=>Fa _) (by (have:=List.length_take_le k l);omega) (Ae ?_)
    exact Ax
    refine Bf (s':=?_) A0 rfl A5 F1 ?_ ?_
    rotate_left
    refine go A0 false ?_
    conv=>whnf
    refine Bm A0 rfl rfl rfl rfl rfl rfl rfl rfl rfl rfl rfl (Ao (l.take k++[x])) (Bh rfl) Ef (by (have:=List.length_take_le k l);omega) (Ae ?_)
    exact Ax
    refine Bf (s':=?_) A0 rfl A5 F1 ?_ ?_
    rotate_left
    refine go A0 false ?_
    conv=>whnf
    (repeat refine An ?_)
    exact Ax
    refine I7 A0 A5 F1 (GW.out (Iy ?_))
    conv=>whnf
    all_goals
     refine O0 A0 rfl rfl rfl rfl rfl rfl rfl (l:=(k:Int)) (h:=(l.length:Int)) rfl rfl ⟨by omega,by omega,by omega⟩ (Ao (l.drop k)) (G9 Ad) (Ae ?_)
     refine Bm A0 rfl rfl rfl rfl rfl rfl rfl rfl rfl rfl rfl (Ao (l.take k++x::l.drop k)) (A77 l x k) (fun _=>Fa _) (by (have:=List.length_take_le k l;have:=List.length_drop (i:=k) (l:=l);simp only [List.length_append,List.length_singleton];omega)) (Ae ?_)
     refine Ah A0 rfl rfl ⟨?_,trivial⟩
     rw [Du,if_neg (by rw [hc];decide),A3v h he (by simp only [ltX,Bool.not_eq_true',decide_eq_false_iff_not];exact h2)]
     rfl
  ·repeat refine B9 ?_
   refine Gl rfl ?_
   refine Bk A0 false 1 rfl rfl A5 rfl (Af D7) ?_
   refine Bk A0 false 2 rfl rfl A5 rfl (Af D7) ?_
   refine Cj (s':=?_) 3 rfl A5 ?_ ?_
   rotate_left
   refine go A0 false ?_
   conv=>whnf
   refine O0 A0 rfl rfl rfl rfl rfl rfl rfl (l:=0) (h:=(k:Int)) rfl rfl ⟨by omega,by omega,by omega⟩ (Ao (l.take k)) (To Ad) (Ae ?_)
   exact Ax
   refine Jo [4,5,6,7,8] [⟨0,28,.emp 4⟩] A5 ?_
   refine Jf (s1:=?_) (s2:=?_) A0 [4,5,6,7,8] 4 5 [5,6,7,8] [4,6,7,8] rfl rfl A5 F1 Bs Bs ?_ ?_ ?_ ?_
   rotate_left 2
   refine go A0 false ?_
   conv=>whnf
   refine Bm A0 rfl rfl rfl rfl rfl rfl rfl rfl rfl rfl rfl (Ao (l.take k)) (B1) (fun _=>Fa _) (by (have:=List.length_take_le k l);omega) (Ae ?_)
   exact Ax
   refine Bf (s':=?_) A0 rfl A5 F1 ?_ ?_
   rotate_left
   refine go A0 false ?_
   conv=>whnf
   (repeat refine An ?_)
   exact Ax
   refine Bf (s':=?_) A0 rfl A5 F1 ?_ ?_
   rotate_left
   refine go A0 false ?_
   conv=>whnf
   (repeat refine An ?_)
   exact Ax
   refine Bf (s':=?_) A0 rfl A5 F1 ?_ ?_
   rotate_left
   refine go A0 false ?_
   conv=>whnf
   refine Bm A0 rfl rfl rfl rfl rfl rfl rfl rfl rfl rfl rfl (Ao (l.take k++[x])) (Bh rfl) Ef (by (have:=List.length_take_le k l);omega) (Ae ?_)
   exact Ax
   refine Bf (s':=?_) A0 rfl A5 F1 ?_ ?_
   rotate_left
   refine go A0 false ?_
   conv=>whnf
   (repeat refine An ?_)
   exact Ax
   refine I7 A0 A5 F1 (GW.out (Iy ?_))
   conv=>whnf
   rotate_left 1
   refine go A0 false ?_
   conv=>whnf
   (repeat refine An ?_)
   exact Ax
   refine Jf (s1:=?_) (s2:=?_) A0 [4,6,7,8] 4 6 [6,7,8] [4,7,8] rfl rfl A5 F1 Bs Bs ?_ ?_ ?_ ?_
   rotate_left 2
   refine go A0 false ?_
   conv=>whnf
   refine Bm A0 rfl rfl rfl rfl rfl rfl rfl rfl rfl rfl rfl (Ao (l.take k)) (B1) (fun _=>Fa _) (by (have:=List.length_take_le k l);omega) (Ae ?_)
   exact Ax
   refine Bf (s':=?_) A0 rfl A5 F1 ?_ ?_
   rotate_left
   refine go A0 false ?_
   conv=>whnf
   (repeat refine An ?_)
   exact Ax
   refine Bf (s':=?_) A0 rfl A5 F1 ?_ ?_
   rotate_left
   refine go A0 false ?_
   conv=>whnf
   refine Bm A0 rfl rfl rfl rfl rfl rfl rfl rfl rfl rfl rfl (Ao (l.take k++[x])) (Bh rfl) Ef (by (have:=List.length_take_le k l);omega) (Ae ?_)
   exact Ax
   refine Bf (s':=?_) A0 rfl A5 F1 ?_ ?_
   rotate_left
   refine go A0 false ?_
   conv=>whnf
   (repeat refine An ?_)
   exact Ax
   refine I7 A0 A5 F1 (GW.out (Iy ?_))
   conv=>whnf
   rotate_left 1
   refine go A0 false ?_
   conv=>whnf
   (repeat refine An ?_)
   exact Ax
   refine Bf (s':=?_) A0 rfl A5 F1 ?_ ?_
   rotate_left
   refine go A0 false ?_
   conv=>whnf
   refine Bm A0 rfl rfl rfl rfl rfl rfl rfl rfl rfl rfl rfl (Ao (l.take k)) (B1) (fun _=>Fa _) (by (have:=List.length_take_le k l);omega) (Ae ?_)
   exact Ax
   refine Bf (s':=?_) A0 rfl A5 F1 ?_ ?_
   rotate_left
   refine go A0 false ?_
   conv=>whnf
   refine Bm A0 rfl rfl rfl rfl rfl rfl rfl rfl rfl rfl rfl (Ao (l.take k++[x])) (Bh rfl) Ef (by (have:=List.length_take_le k l);omega) (Ae ?_)
   exact Ax
   refine Bf (s':=?_) A0 rfl A5 F1 ?_ ?_
   rotate_left
   refine go A0 false ?_
   conv=>whnf
   (repeat refine An ?_)
   exact Ax
   refine I7 A0 A5 F1 (GW.out (Iy ?_))
   conv=>whnf
   all_goals
    refine O0 A0 rfl rfl rfl rfl rfl rfl rfl (l:=(k:Int)) (h:=(l.length:Int)) rfl rfl ⟨by omega,by omega,by omega⟩ (Ao (l.drop k)) (G9 Ad) (Ae ?_)
    refine Bm A0 rfl rfl rfl rfl rfl rfl rfl rfl rfl rfl rfl (Ao (l.take k++x::l.drop k)) (A77 l x k) (fun _=>Fa _) (by (have:=List.length_take_le k l;have:=List.length_drop (i:=k) (l:=l);simp only [List.length_append,List.length_singleton];omega)) (Ae ?_)
    refine Ah A0 rfl rfl ⟨?_,trivial⟩
    rw [Du,if_neg (by rw [hc];decide),(show Kf l x=k by rw [Zs (fun i hi=>he i Ad)];omega)]
    rfl
set_option maxHeartbeats 1000000 in
theorem Md (l:List Aa)(x:Aa)(hl:l.length≤16000000):Aq Tryz.prog 219 [.one (Ao l),.agg x.c] [.one (Ao (Du l x))]:=by
 refine Aj A0 false Tryz.func219 rfl Bs fun W=>?_
 conv=>whnf
 refine Av (Ex l Ad) rfl (Ae ?_)
 refine Ai (U3 l x Ad) rfl (Ae ?_)
 refine ⟨fun hc=>?_,fun hc=>?_⟩<;>conv=>whnf
 ·refine Ah A0 rfl rfl ⟨?_,trivial⟩
  rw [Du,if_pos hc]
  rfl
 ·refine B6 A0 false [] (fun k:Nat=>[(6,.c (vi k))]) (fun k=>[⟨0,[.c (vi x.op),.c (vi x.epoch),.c (vi x.key),.c (vi x.val)]⟩]) (fun k=>[⟨1,Ao l⟩])
   (fun k=>k≤l.length∧∀i,i<k→ltX x (l.getD i default)=false) (fun k=>l.length-k) 0 ⟨Nat.zero_le _,by first|rfl|assumption|simp⟩ ⟨by first|rfl|simp [Cr,ren2,ren1,ren0],trivial⟩ Cp ⟨by first|rfl|exact (congrArg (fun l=>Cb _ _ l) (List.append_nil _)).symm|(show (_:Ab)=_;simp)|simp,trivial⟩ Cc A5 (fun k hk=>?_)
  obtain ⟨hk,he⟩:=hk
  conv=>whnf
  first|(refine Ak 5 rfl [0,1,2,3,4,5,6,7,8,9,10,11,12] A5 (Ae ?_))
  refine F2 (fun h=>?_) fun h=>?_<;>conv=>whnf
  ·have h:k<l.length:=by omega
   repeat refine B9 ?_
   refine Ai (Qb (l.getD k default) x) rfl (Ae ?_)
   repeat refine B9 ?_
   refine F2 (fun h2=>?_) fun h2=>?_<;>conv=>whnf
   ·(repeat refine An ?_)
    refine At [(0,0),(1,1)] (k+1) ⟨by omega,fun i hi=>(Nat.lt_succ_iff_lt_or_eq.1 hi).elim (fun h4=>he i h4) (fun h4=>by subst h4;simp only [ltX,Bool.not_eq_false',decide_eq_true_eq];exact h2)⟩ Ad ⟨rfl,trivial⟩ ⟨rfl,trivial⟩ Cp A5 Cc A5
   ·refine A68 2 (Ao [x]) rfl (L6 rfl Cp) ?_
    refine B06 [.own 1,.c (vi k),.own 2] (Wh l k x Ad Ad) (fun _ _=>trivial) (fun _ h=>by cases h) C1 rfl rfl (fun i _=>go A0 false ?_)
    conv=>whnf
    refine Ah A0 rfl rfl ⟨?_,trivial⟩
    rw [Du,if_neg (by rw [hc];decide),(show Kf l x=k from A3v h he (by simp only [ltX,Bool.not_eq_true',decide_eq_false_iff_not];exact h2))]
    rfl
  ·repeat refine B9 ?_
   refine A68 2 (Ao [x]) rfl (L6 rfl Cp) ?_
   refine B06 [.own 1,.c (vi k),.own 2] (Wh l k x Ad Ad) (fun _ _=>trivial) (fun _ h=>by cases h) C1 rfl rfl (fun i _=>go A0 false ?_)
   conv=>whnf
   refine Ah A0 rfl rfl ⟨?_,trivial⟩
   rw [Du,if_neg (by rw [hc];decide),(show Kf l x=k by rw [Zs (fun i hi=>he i Ad)];omega)]
   rfl
end Go.Proofs.YtlbmkgkmbjadcaaGreat
