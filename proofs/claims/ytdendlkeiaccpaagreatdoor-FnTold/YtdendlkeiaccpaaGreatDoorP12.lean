/- Part 12 of the proof that each of the laws FnTold returns true for every input. No conditions. -/
import Derived.Test.YtdendlkeiaccpaaGreatDoorP11
import Derived.Test.YtdendlkeiaccpaaGreatDoorP9

set_option linter.unusedSimpArgs false
set_option linter.unusedVariables false
set_option maxRecDepth 100000
namespace Go.Proofs.YtdendlkeiaccpaaGreatDoor
open Go.Sx
theorem St (l:List Ag)(x:Ag)(hl:l.length≤16777216):Bo Tryz.prog 179 [.one (Ak l),.agg x.c] [.one (vb (Ix l x))]:=by
 refine Bh A0 false Tryz.func179 rfl Aw fun W=>?_
 conv=>whnf
 refine C0 A0 false [] (fun k:Nat=>[(5,.c (vi k))]) (fun k=>[⟨0,[.c (vi x.op),.c (vi x.epoch),.c (vi x.key),.c (vi x.val)]⟩]) (fun k=>[])
  (fun k=>k≤l.length∧(l.take k).any (fun y=>decide (y=x))=false) (fun k=>l.length-k) 0 ⟨Nat.zero_le _,by first|rfl|assumption|simp⟩ ⟨G9,trivial⟩ Cf trivial Cr A7 (fun k hk=>?_)
 obtain ⟨hk,he⟩:=hk
 conv=>whnf
 refine Fi (fun h=>?_) fun h=>?_<;>conv=>whnf
 ·have h:k<l.length:=by omega
  (repeat refine An ?_)
  first|(refine B7 4 rfl [0,1,2,3,4,5] A7 (A8 ?_))
  (repeat refine An ?_)
  refine ⟨fun hc=>?_,fun hc=>?_⟩<;>conv=>whnf
  ·have hc:decide (l.getD k default=x)=true:=by rw [←Ag.eqv];exact hc
   exact B3 A0 rfl rfl ⟨congrArg vb (show Ix l x=true from List.any_eq_true.2 ⟨_,B8 h,hc⟩),trivial⟩
  have hc:decide (l.getD k default=x)=false:=by rw [←Ag.eqv];exact hc
  (repeat refine An ?_)
  refine B9 [] (k+1) ⟨by omega,I7 he h hc⟩ Ab ⟨rfl,trivial⟩ trivial Cf A7 Cr A7
 exact B3 A0 rfl rfl ⟨congrArg vb (show Ix l x=false by rw [Ix,←Fv l k Ab];exact he),trivial⟩
theorem Wb (l:List Ag)(x:Ag)(hl:l.length≤16777216):Bo Tryz.prog 215 [.one (Ak l),.agg x.c] [.one (vi (U2 (fun y=>decide (y=x)) l))]:=by
 refine Bh A0 false Tryz.func215 rfl Aw fun W=>?_
 conv=>whnf
 refine C0 A0 false [5,9,10,11,12,13,14,15,16,17,18] (fun k:Nat=>[(8,.c (vi k))]) (fun k=>[⟨0,[.c (vi x.op),.c (vi x.epoch),.c (vi x.key),.c (vi x.val)]⟩]) (fun k=>[])
  (fun k=>k≤l.length∧(l.take k).any (fun y=>decide (y=x))=false) (fun k=>l.length-k) 0 ⟨Nat.zero_le _,by first|rfl|assumption|simp⟩ ⟨G9,trivial⟩ Cf trivial Cr A7 (fun k hk=>?_)
 obtain ⟨hk,he⟩:=hk
 conv=>whnf
 refine Fi (fun h=>?_) fun h=>?_<;>conv=>whnf
 ·have h:k<l.length:=by omega
  (repeat refine An ?_)
  first|(refine B7 4 rfl [0,1,2,3,4,5] A7 (A8 ?_))
  (repeat refine An ?_)
  refine ⟨fun hc=>?_,fun hc=>?_⟩<;>conv=>whnf
  ·have hc:decide (l.getD k default=x)=true:=by rw [←decide_eq_decide.2 (eq_comm (a:=x)),←Ag.eqv];exact hc
   exact B3 A0 rfl rfl ⟨congrArg vi (A9u _ l k he h hc),trivial⟩
  have hc:decide (l.getD k default=x)=false:=by rw [←decide_eq_decide.2 (eq_comm (a:=x)),←Ag.eqv];exact hc
  (repeat refine An ?_)
  refine B9 [] (k+1) ⟨by omega,I7 he h hc⟩ Ab ⟨rfl,trivial⟩ trivial Cf A7 Cr A7
 exact B3 A0 rfl rfl ⟨congrArg vi (A3i _ l (by rw [←Fv l k Ab];exact he)),trivial⟩
theorem Rk (l:List Ag)(x:Ag)(hl:l.length≤16777216):Bo Tryz.prog 200 [.one (Ak l),.agg x.c] [.one (vb (Ix l x))]:=by
 refine Bh A0 false Tryz.func200 rfl Aw fun W=>?_
 conv=>whnf
 refine B5 (Wb l x hl) rfl (A8 ?_)
 exact B3 A0 rfl rfl ⟨congrArg vb (A68 _ l).symm,trivial⟩
theorem A1g (l:List Ag)(x:Ag)(hl:l.length≤16777216):Bo Tryz.prog 174 [.one (Ak l),.agg x.c] [.one (vb (Ix l x))]:=by
 refine Bh A0 false Tryz.func174 rfl Aw fun W=>?_
 conv=>whnf
 refine B5 (Rk l x hl) rfl (A8 ?_)
 exact B3 A0 rfl rfl ⟨rfl,trivial⟩
theorem P9 {α:Type} [Inhabited α] (p:α→Bool):∀(xs:List α) (k:Nat),k<xs.length→(∀i,i<k→p (xs.getD i default)=false)→p (xs.getD k default)=true→Ga p xs=k
 | [],_,h,_,_=>absurd h (Nat.not_lt_zero _)
 |x::r,0,_,_,hp=>by
  have:p x=true:=hp
  simp [Ga,this]
 |x::r,k+1,h,hb,hp=>by
  have h0:p x=false:=hb 0 Ab
  have:=P9 p r k (by simpa using h) (fun i hi=>hb (i+1) Ab) hp
  simp [Ga,h0,this]
theorem Xd {α:Type} [Inhabited α] (p:α→Bool):∀(xs:List α),(∀i,i<xs.length→p (xs.getD i default)=false)→Ga p xs=xs.length
 | [],_=>rfl
 |x::r,hb=>by
  have h0:p x=false:=hb 0 Bw
  have:=Xd p r (fun i hi=>hb (i+1) (by simpa using hi))
  simp [Ga,h0,this]
def ltX (x y:Ag):Bool:=!decide (Iv y x<0)
theorem A14 {l:List Ag}{x:Ag}{k:Nat}(h:k<l.length)(hb:∀i,i<k→ltX x (l.getD i default)=false)(hk:ltX x (l.getD k default)=true):Ie l x=k:=P9 _ l k h hb hk
theorem Xz {l:List Ag}{x:Ag}(hb:∀i,i<l.length→ltX x (l.getD i default)=false):Ie l x=l.length:=Xd _ l hb
theorem B1f (l:List Ag)(x:Ag):Ie l x≤l.length:=by
 have:∀(p:Ag→Bool) (m:List Ag),Ga p m≤m.length:=by
  intro p m
  induction m with
  |nil=>simp [Ga]
  |cons y r ih=>simp only [Ga];split<;>simp<;>omega
 exact this _ l
theorem S2 {α:Type} [Inhabited α] {es:Nat}{e:α→List Ac}{xs:List α}{k:Nat}(h:k≤xs.length):X2 xs.length es (fun i=>e (xs.getD i default)) 0 (k:Int) (Is es e (xs.take k)):=by
 have:=A56 (es:=es) (e:=e) (xs:=xs) (l:=0) (h:=(k:Int)) (Int.le_refl _) Ab Ab
 simpa using this
theorem G8 {α:Type} [Inhabited α] {es:Nat}{e:α→List Ac}{xs:List α}{k:Nat}(h:k≤xs.length):X2 xs.length es (fun i=>e (xs.getD i default)) (k:Int) (xs.length:Int) (Is es e (xs.drop k)):=by
 have:=A56 (es:=es) (e:=e) (xs:=xs) (l:=(k:Int)) (h:=(xs.length:Int)) Ab Ab Ab
 rwa [show (xs.drop (k:Int).toNat).take ((xs.length:Int)-(k:Int)).toNat=xs.drop k by rw [Int.toNat_natCast];exact List.take_of_length_le Bw] at this
theorem A55 (l:List Ag)(x:Ag)(k:Nat):Pt (l.take k++[x]).length (l.drop k).length 4 (fun i=>Ag.c ((l.take k++[x]).getD i default)) (fun i=>Ag.c ((l.drop k).getD i default)) (Ak (l.take k++x::l.drop k)):=by
 rw [show l.take k++x::l.drop k=(l.take k++[x])++l.drop k by simp]
 exact O5 4 Ag.c _ _
set_option maxHeartbeats 1000000 in
theorem I1 (l:List Ag)(x:Ag)(hl:l.length≤16000000):Bo Tryz.prog 146 [.one (Ak l),.agg x.c] [.one (Ak (Cs l x))]:=by
 refine Bh A0 false Tryz.func146 rfl Aw fun W=>?_
 conv=>whnf
 refine B5 (St l x Ab) rfl (A8 ?_)
 refine ⟨fun hc=>?_,fun hc=>?_⟩<;>conv=>whnf
 ·refine B1 A0 rfl rfl rfl rfl rfl rfl rfl rfl rfl rfl rfl (Ak l) (Ci) (fun _=>Eo l) Ab (A8 ?_)
  refine B3 A0 rfl rfl ⟨?_,trivial⟩
  rw [Cs,if_pos hc]
  rfl
 refine C0 A0 false [] (fun k:Nat=>[(5,.c (vi k))]) (fun k=>[⟨0,[.c (vi x.op),.c (vi x.epoch),.c (vi x.key),.c (vi x.val)]⟩]) (fun k=>[])
  (fun k=>k≤l.length∧∀i,i<k→ltX x (l.getD i default)=false) (fun k=>l.length-k) 0 ⟨Nat.zero_le _,by first|rfl|assumption|simp⟩ ⟨G9,trivial⟩ Cf trivial Cr A7 (fun k hk=>?_)
 obtain ⟨hk,he⟩:=hk
 conv=>whnf
 first|(refine B7 4 rfl [0,1,2,3,4,5,6,7,8,9,10,11,12] A7 (A8 ?_))|(refine B7 6 rfl [1,2,3,5,0,4,6,7,8] A7 (A8 ?_))
 refine Fi (fun h=>?_) fun h=>?_<;>conv=>whnf
 ·have h:k<l.length:=by omega
  repeat refine Bj ?_
  refine B5 (On (l.getD k default) x) rfl (A8 ?_)
  repeat refine Bj ?_
  refine Fi (fun h2=>?_) fun h2=>?_<;>conv=>whnf
  ·(repeat refine An ?_)
   refine B9 [] (k+1) ⟨by omega,fun i hi=>(Nat.lt_succ_iff_lt_or_eq.1 hi).elim (fun h4=>he i h4) (fun h4=>by subst h4;simp only [ltX,Bool.not_eq_false',decide_eq_true_eq];exact h2)⟩ Ab ⟨rfl,trivial⟩ trivial Cf A7 Cr A7
  refine J8 rfl ?_
  refine Bu A0 false 1 rfl rfl A7 rfl (A4 B2) ?_
  refine Bu A0 false 2 rfl rfl A7 rfl (A4 B2) ?_
  refine Ej (s':=?_) 3 rfl A7 ?_ ?_
  rotate_left
  refine A8 ?_
  refine Nn A0 rfl rfl rfl rfl rfl rfl rfl (l:=0) (h:=(k:Int)) rfl rfl ⟨by omega,by omega,by omega⟩ (Ak (l.take k)) (S2 Ab) (A8 ?_)
  exact Bf
  refine Lf [4,5,6,7,8] [⟨0,28,.emp 4⟩] A7 ?_
  refine L4 (s1:=?_) (s2:=?_) A0 [4,5,6,7,8] 4 5 [5,6,7,8] [4,6,7,8] rfl rfl A7 E5 Aw Aw ?_ ?_ ?_ ?_
  rotate_left 2
  refine A8 ?_
  refine B1 A0 rfl rfl rfl rfl rfl rfl rfl rfl rfl rfl rfl (Ak (l.take k)) (Ci) (fun _=>Eo _) (by (have:=List.length_take_le k l);omega) (A8 ?_)
  exact Bf
  refine Bm (s':=?_) A0 rfl A7 E5 ?_ ?_
  rotate_left
  refine A8 ?_
  (repeat refine An ?_)
  exact Bf
  refine Bm (s':=?_) A0 rfl A7 E5 ?_ ?_
  rotate_left
  refine A8 ?_
  (repeat refine An ?_)
  exact Bf
  refine Bm (s':=?_) A0 rfl A7 E5 ?_ ?_
  rotate_left
  refine A8 ?_
  refine B1 A0 rfl rfl rfl rfl rfl rfl rfl rfl rfl rfl rfl (Ak (l.take k++[x])) (Aa rfl) Bg (by (have:=List.length_take_le k l);omega) (A8 ?_)
  exact Bf
  refine Bm (s':=?_) A0 rfl A7 E5 ?_ ?_
  rotate_left
  refine A8 ?_
  (repeat refine An ?_)
  exact Bf
  refine K3 A0 A7 E5 (GW.out (Ji ?_))
  conv=>whnf
  rotate_left 1
  refine A8 ?_
  (repeat refine An ?_)
  exact Bf
  refine L4 (s1:=?_) (s2:=?_) A0 [4,6,7,8] 4 6 [6,7,8] [4,7,8] rfl rfl A7 E5 Aw Aw ?_ ?_ ?_ ?_
  rotate_left 2
  refine A8 ?_
  refine B1 A0 rfl rfl rfl rfl rfl rfl rfl rfl rfl rfl rfl (Ak (l.take k)) (Ci) (fun _=>Eo _) (by (have:=List.length_take_le k l);omega) (A8 ?_)
  exact Bf
  refine Bm (s':=?_) A0 rfl A7 E5 ?_ ?_
  rotate_left
  refine A8 ?_
  (repeat refine An ?_)
  exact Bf
  refine Bm (s':=?_) A0 rfl A7 E5 ?_ ?_
  rotate_left
  refine A8 ?_
  refine B1 A0 rfl rfl rfl rfl rfl rfl rfl rfl rfl rfl rfl (Ak (l.take k++[x])) (Aa rfl) Bg (by (have:=List.length_take_le k l);omega) (A8 ?_)
  exact Bf
  refine Bm (s':=?_) A0 rfl A7 E5 ?_ ?_
  rotate_left
  refine A8 ?_
  (repeat refine An ?_)
  exact Bf
  refine K3 A0 A7 E5 (GW.out (Ji ?_))
  conv=>whnf
  rotate_left 1
  refine A8 ?_
  (repeat refine An ?_)
  exact Bf
  refine Bm (s':=?_) A0 rfl A7 E5 ?_ ?_
  rotate_left
  refine A8 ?_
  refine B1 A0 rfl rfl rfl rfl rfl rfl rfl rfl rfl rfl rfl (Ak (l.take k)) (Ci) (fun _=>Eo _) (by (have:=List.length_take_le k l);omega) (A8 ?_)
  exact Bf
  refine Bm (s':=?_) A0 rfl A7 E5 ?_ ?_
  rotate_left
  refine A8 ?_
  refine B1 A0 rfl rfl rfl rfl rfl rfl rfl rfl rfl rfl rfl (Ak (l.take k++[x])) (Aa rfl) Bg (by (have:=List.length_take_le k l);omega) (A8 ?_)
  exact Bf
  refine Bm (s':=?_) A0 rfl A7 E5 ?_ ?_
  rotate_left
  refine A8 ?_
  (repeat refine An ?_)
  exact Bf
  refine K3 A0 A7 E5 (GW.out (Ji ?_))
  conv=>whnf
  all_goals
   refine Nn A0 rfl rfl rfl rfl rfl rfl rfl (l:=(k:Int)) (h:=(l.length:Int)) rfl rfl ⟨by omega,by omega,by omega⟩ (Ak (l.drop k)) (G8 Ab) (A8 ?_)
   refine B1 A0 rfl rfl rfl rfl rfl rfl rfl rfl rfl rfl rfl (Ak (l.take k++x::l.drop k)) (A55 l x k) (fun _=>Eo _) (by (have:=List.length_take_le k l;have:=List.length_drop (i:=k) (l:=l);simp only [List.length_append,List.length_singleton];omega)) (A8 ?_)
   refine B3 A0 rfl rfl ⟨?_,trivial⟩
   rw [Cs,if_neg (by rw [hc];decide),A14 h he (by simp only [ltX,Bool.not_eq_true',decide_eq_false_iff_not];exact h2)]
   rfl
 repeat refine Bj ?_
 refine J8 rfl ?_
 refine Bu A0 false 1 rfl rfl A7 rfl (A4 B2) ?_
 refine Bu A0 false 2 rfl rfl A7 rfl (A4 B2) ?_
 refine Ej (s':=?_) 3 rfl A7 ?_ ?_
 rotate_left
 refine A8 ?_
 refine Nn A0 rfl rfl rfl rfl rfl rfl rfl (l:=0) (h:=(k:Int)) rfl rfl ⟨by omega,by omega,by omega⟩ (Ak (l.take k)) (S2 Ab) (A8 ?_)
 exact Bf
 refine Lf [4,5,6,7,8] [⟨0,28,.emp 4⟩] A7 ?_
 refine L4 (s1:=?_) (s2:=?_) A0 [4,5,6,7,8] 4 5 [5,6,7,8] [4,6,7,8] rfl rfl A7 E5 Aw Aw ?_ ?_ ?_ ?_
 rotate_left 2
 refine A8 ?_
 refine B1 A0 rfl rfl rfl rfl rfl rfl rfl rfl rfl rfl rfl (Ak (l.take k)) (Ci) (fun _=>Eo _) (by (have:=List.length_take_le k l);omega) (A8 ?_)
 exact Bf
 refine Bm (s':=?_) A0 rfl A7 E5 ?_ ?_
 rotate_left
 refine A8 ?_
 (repeat refine An ?_)
 exact Bf
 refine Bm (s':=?_) A0 rfl A7 E5 ?_ ?_
 rotate_left
 refine A8 ?_
 (repeat refine An ?_)
 exact Bf
 refine Bm (s':=?_) A0 rfl A7 E5 ?_ ?_
 rotate_left
 refine A8 ?_
 refine B1 A0 rfl rfl rfl rfl rfl rfl rfl rfl rfl rfl rfl (Ak (l.take k++[x])) (Aa rfl) Bg (by (have:=List.length_take_le k l);omega) (A8 ?_)
 exact Bf
 refine Bm (s':=?_) A0 rfl A7 E5 ?_ ?_
 rotate_left
 refine A8 ?_
 (repeat refine An ?_)
 exact Bf
 refine K3 A0 A7 E5 (GW.out (Ji ?_))
 conv=>whnf
 rotate_left 1
 refine A8 ?_
 (repeat refine An ?_)
 exact Bf
 refine L4 (s1:=?_) (s2:=?_) A0 [4,6,7,8] 4 6 [6,7,8] [4,7,8] rfl rfl A7 E5 Aw Aw ?_ ?_ ?_ ?_
 rotate_left 2
 refine A8 ?_
 refine B1 A0 rfl rfl rfl rfl rfl rfl rfl rfl rfl rfl rfl (Ak (l.take k)) (Ci) (fun _=>Eo _) (by (have:=List.length_take_le k l);omega) (A8 ?_)
 exact Bf
 refine Bm (s':=?_) A0 rfl A7 E5 ?_ ?_
 rotate_left
 refine A8 ?_
 (repeat refine An ?_)
 exact Bf
 refine Bm (s':=?_) A0 rfl A7 E5 ?_ ?_
 rotate_left
 refine A8 ?_
 refine B1 A0 rfl rfl rfl rfl rfl rfl rfl rfl rfl rfl rfl (Ak (l.take k++[x])) (Aa rfl) Bg (by (have:=List.length_take_le k l);omega) (A8 ?_)
 exact Bf
 refine Bm (s':=?_) A0 rfl A7 E5 ?_ ?_
 rotate_left
 refine A8 ?_
 (repeat refine An ?_)
 exact Bf
 refine K3 A0 A7 E5 (GW.out (Ji ?_))
 conv=>whnf
 rotate_left 1
 refine A8 ?_
 (repeat refine An ?_)
 exact Bf
 refine Bm (s':=?_) A0 rfl A7 E5 ?_ ?_
 rotate_left
 refine A8 ?_
 refine B1 A0 rfl rfl rfl rfl rfl rfl rfl rfl rfl rfl rfl (Ak (l.take k)) (Ci) (fun _=>Eo _) (by (have:=List.length_take_le k l);omega) (A8 ?_)
 exact Bf
 refine Bm (s':=?_) A0 rfl A7 E5 ?_ ?_
 rotate_left
 refine A8 ?_
 refine B1 A0 rfl rfl rfl rfl rfl rfl rfl rfl rfl rfl rfl (Ak (l.take k++[x])) (Aa rfl) Bg (by (have:=List.length_take_le k l);omega) (A8 ?_)
 exact Bf
 refine Bm (s':=?_) A0 rfl A7 E5 ?_ ?_
 rotate_left
 refine A8 ?_
 (repeat refine An ?_)
 exact Bf
 refine K3 A0 A7 E5 (GW.out (Ji ?_))
 conv=>whnf
 all_goals
  refine Nn A0 rfl rfl rfl rfl rfl rfl rfl (l:=(k:Int)) (h:=(l.length:Int)) rfl rfl ⟨by omega,by omega,by omega⟩ (Ak (l.drop k)) (G8 Ab) (A8 ?_)
  refine B1 A0 rfl rfl rfl rfl rfl rfl rfl rfl rfl rfl rfl (Ak (l.take k++x::l.drop k)) (A55 l x k) (fun _=>Eo _) (by (have:=List.length_take_le k l;have:=List.length_drop (i:=k) (l:=l);simp only [List.length_append,List.length_singleton];omega)) (A8 ?_)
  refine B3 A0 rfl rfl ⟨?_,trivial⟩
  rw [Cs,if_neg (by rw [hc];decide),(show Ie l x=k by rw [Xz (fun i hi=>he i Ab)];omega)]
  rfl
set_option maxHeartbeats 1000000 in
theorem A1i (l:List Ag)(x:Ag)(hl:l.length≤16000000):Bo Tryz.prog 141 [.one (Ak l),.agg x.c] [.one (Ak (Cs l x))]:=by
 refine Bh A0 false Tryz.func141 rfl Aw fun W=>?_
 conv=>whnf
 refine Cq (W9 l Ab) rfl (A8 ?_)
 refine B5 (A1g l x Ab) rfl (A8 ?_)
 refine ⟨fun hc=>?_,fun hc=>?_⟩<;>conv=>whnf
 ·refine B3 A0 rfl rfl ⟨?_,trivial⟩
  rw [Cs,if_pos hc]
  rfl
 refine C0 A0 false [] (fun k:Nat=>[(6,.c (vi k))]) (fun k=>[⟨0,[.c (vi x.op),.c (vi x.epoch),.c (vi x.key),.c (vi x.val)]⟩]) (fun k=>[⟨1,Ak l⟩])
  (fun k=>k≤l.length∧∀i,i<k→ltX x (l.getD i default)=false) (fun k=>l.length-k) 0 ⟨Nat.zero_le _,by first|rfl|assumption|simp⟩ ⟨G9,trivial⟩ Cf ⟨Eu,trivial⟩ Cr A7 (fun k hk=>?_)
 obtain ⟨hk,he⟩:=hk
 conv=>whnf
 first|(refine B7 5 rfl [0,1,2,3,4,5,6,7,8,9,10,11,12] A7 (A8 ?_))
 refine Fi (fun h=>?_) fun h=>?_<;>conv=>whnf
 ·have h:k<l.length:=by omega
  repeat refine Bj ?_
  refine B5 (W8 (l.getD k default) x) rfl (A8 ?_)
  repeat refine Bj ?_
  refine Fi (fun h2=>?_) fun h2=>?_<;>conv=>whnf
  ·(repeat refine An ?_)
   refine B9 [(0,0),(1,1)] (k+1) ⟨by omega,fun i hi=>(Nat.lt_succ_iff_lt_or_eq.1 hi).elim (fun h4=>he i h4) (fun h4=>by subst h4;simp only [ltX,Bool.not_eq_false',decide_eq_true_eq];exact h2)⟩ Ab ⟨rfl,trivial⟩ ⟨rfl,trivial⟩ Cf A7 Cr A7
  refine Ev 2 (Ak [x]) rfl (Bd rfl Cf) ?_
  refine A44 [.own 1,.c (vi k),.own 2] (Uh l k x Ab Ab) (fun _ _=>trivial) (fun _ h=>by cases h) Ay rfl rfl (fun i _=>go A0 false ?_)
  conv=>whnf
  refine B3 A0 rfl rfl ⟨?_,trivial⟩
  rw [Cs,if_neg (by rw [hc];decide),(show Ie l x=k from A14 h he (by simp only [ltX,Bool.not_eq_true',decide_eq_false_iff_not];exact h2))]
  rfl
 repeat refine Bj ?_
 refine Ev 2 (Ak [x]) rfl (Bd rfl Cf) ?_
 refine A44 [.own 1,.c (vi k),.own 2] (Uh l k x Ab Ab) (fun _ _=>trivial) (fun _ h=>by cases h) Ay rfl rfl (fun i _=>go A0 false ?_)
 conv=>whnf
 refine B3 A0 rfl rfl ⟨?_,trivial⟩
 rw [Cs,if_neg (by rw [hc];decide),(show Ie l x=k by rw [Xz (fun i hi=>he i Ab)];omega)]
 rfl
end Go.Proofs.YtdendlkeiaccpaaGreatDoor
