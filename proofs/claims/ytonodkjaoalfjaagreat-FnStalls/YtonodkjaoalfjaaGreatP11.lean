/- Part 11 of the proof that each of the laws FnStalls returns true for every input. No conditions. -/
import Derived.Test.YtonodkjaoalfjaaGreatP10
import Derived.Test.YtonodkjaoalfjaaGreatP9
import Derived.Test.YtonodkjaoalfjaaGreatP5
import Derived.Test.YtonodkjaoalfjaaGreatP7

set_option linter.unusedSimpArgs false
set_option linter.unusedVariables false
set_option maxRecDepth 100000
namespace Go.Proofs.YtonodkjaoalfjaaGreat
open Go.Sx
theorem U8 (l:List A7)(x:A7)(hl:l.length≤16777216):B0 Tryz.prog 143 [.one (Ai l),.agg x.c] [.one (vb (I2 l x))]:=by
 refine Ay A0 false Tryz.func143 rfl Bu fun W=>?_
 conv=>whnf
 refine Bw A0 false [] (fun k:Nat=>[(5,.c (vi k))]) (fun k=>[⟨0,[.c (vi x.op),.c (vi x.epoch),.c (vi x.key),.c (vi x.val)]⟩]) (fun k=>[])
  (fun k=>k≤l.length∧(l.take k).any (fun y=>decide (y=x))=false) (fun k=>l.length-k) 0 ⟨Nat.zero_le _,by first|rfl|assumption|simp⟩ ⟨by first|rfl|simp [Dl,ren2,ren1,ren0],trivial⟩ F3 trivial Dh Aa (fun k hk=>?_)
 obtain ⟨hk,he⟩:=hk
 conv=>whnf
 refine G5 (fun h=>?_) fun h=>?_<;>conv=>whnf
 ·have h:k<l.length:=by omega
  (repeat refine Ar ?_)
  first|(refine B9 4 rfl [0,1,2,3,4,5] Aa (Al ?_))
  (repeat refine Ar ?_)
  refine ⟨fun hc=>?_,fun hc=>?_⟩<;>conv=>whnf
  ·have hc:decide (l.getD k default=x)=true:=by rw [←A7.eqv];exact hc
   exact Ao A0 rfl rfl ⟨congrArg vb (show I2 l x=true from List.any_eq_true.2 ⟨_,Aq h,hc⟩),trivial⟩
  ·have hc:decide (l.getD k default=x)=false:=by rw [←A7.eqv];exact hc
   (repeat refine Ar ?_)
   refine B5 [] (k+1) ⟨by omega,Gd he h hc⟩ Ac ⟨rfl,trivial⟩ trivial F3 Aa Dh Aa
 ·exact Ao A0 rfl rfl ⟨congrArg vb (show I2 l x=false by rw [I2,←Fi l k Ac];exact he),trivial⟩
theorem Qw {α:Type} [Inhabited α] (p:α→Bool):∀(xs:List α) (k:Nat),k<xs.length→(∀i,i<k→p (xs.getD i default)=false)→p (xs.getD k default)=true→Ek p xs=k
 | [],_,h,_,_=>absurd h (Nat.not_lt_zero _)
 |x::r,0,_,_,hp=>by
  have:p x=true:=hp
  simp [Ek,this]
 |x::r,k+1,h,hb,hp=>by
  have h0:p x=false:=hb 0 Ac
  have:=Qw p r k (by simpa using h) (fun i hi=>hb (i+1) Ac) hp
  simp [Ek,h0,this]
theorem Yw {α:Type} [Inhabited α] (p:α→Bool):∀(xs:List α),(∀i,i<xs.length→p (xs.getD i default)=false)→Ek p xs=xs.length
 | [],_=>rfl
 |x::r,hb=>by
  have h0:p x=false:=hb 0 A9h
  have:=Yw p r (fun i hi=>hb (i+1) (by simpa using hi))
  simp [Ek,h0,this]
def ltX (x y:A7):Bool:=!decide (Jr y x<0)
theorem A4j {l:List A7}{x:A7}{k:Nat}(h:k<l.length)(hb:∀i,i<k→ltX x (l.getD i default)=false)(hk:ltX x (l.getD k default)=true):J2 l x=k:=Qw _ l k h hb hk
theorem Zj {l:List A7}{x:A7}(hb:∀i,i<l.length→ltX x (l.getD i default)=false):J2 l x=l.length:=Yw _ l hb
theorem Zw {α:Type} [Inhabited α] {es:Nat}{e:α→List A8}{xs:List α}{k:Nat}(h:k≤xs.length):V4 xs.length es (fun i=>e (xs.getD i default)) 0 (k:Int) (Du es e (xs.take k)):=by
 have:=A15 (es:=es) (e:=e) (xs:=xs) (l:=0) (h:=(k:Int)) (Int.le_refl _) Ac Ac
 simpa using this
theorem Lf {α:Type} [Inhabited α] {es:Nat}{e:α→List A8}{xs:List α}{k:Nat}(h:k≤xs.length):V4 xs.length es (fun i=>e (xs.getD i default)) (k:Int) (xs.length:Int) (Du es e (xs.drop k)):=by
 have:=A15 (es:=es) (e:=e) (xs:=xs) (l:=(k:Int)) (h:=(xs.length:Int)) Ac Ac Ac
 rwa [show (xs.drop (k:Int).toNat).take ((xs.length:Int)-(k:Int)).toNat=xs.drop k by rw [Int.toNat_natCast];exact List.take_of_length_le A9h] at this
theorem A9c (l:List A7)(x:A7)(k:Nat):Ut (l.take k++[x]).length (l.drop k).length 4 (fun i=>A7.c ((l.take k++[x]).getD i default)) (fun i=>A7.c ((l.drop k).getD i default)) (Ai (l.take k++x::l.drop k)):=by
 rw [show l.take k++x::l.drop k=(l.take k++[x])++l.drop k by simp]
 exact A14 4 A7.c _ _
set_option maxHeartbeats 1000000 in
theorem Ip (l:List A7)(x:A7)(hl:l.length≤16000000):B0 Tryz.prog 115 [.one (Ai l),.agg x.c] [.one (Ai (Cy l x))]:=by
 refine Ay A0 false Tryz.func115 rfl Bu fun W=>?_
 conv=>whnf
 refine Aw (U8 l x Ac) rfl (Al ?_)
 refine ⟨fun hc=>?_,fun hc=>?_⟩<;>conv=>whnf
 ·refine Dp A0 rfl rfl rfl rfl rfl rfl rfl rfl rfl rfl rfl (Ai l) (Eh) (fun _=>Eu l) Ac (Al ?_)
  refine Ao A0 rfl rfl ⟨?_,trivial⟩
  rw [Cy,if_pos hc]
  rfl
 ·refine Bw A0 false [] (fun k:Nat=>[(5,.c (vi k))]) (fun k=>[⟨0,[.c (vi x.op),.c (vi x.epoch),.c (vi x.key),.c (vi x.val)]⟩]) (fun k=>[])
   (fun k=>k≤l.length∧∀i,i<k→ltX x (l.getD i default)=false) (fun k=>l.length-k) 0 ⟨Nat.zero_le _,by first|rfl|assumption|simp⟩ ⟨by first|rfl|simp [Dl,ren2,ren1,ren0],trivial⟩ F3 trivial Dh Aa (fun k hk=>?_)
  obtain ⟨hk,he⟩:=hk
  conv=>whnf
  first|(refine B9 4 rfl [0,1,2,3,4,5,6,7,8,9,10,11,12] Aa (Al ?_))|(refine B9 6 rfl [1,2,3,5,0,4,6,7,8] Aa (Al ?_))
  refine G5 (fun h=>?_) fun h=>?_<;>conv=>whnf
  ·have h:k<l.length:=by omega
   repeat refine Bi ?_
   refine Aw (Yd (l.getD k default) x) rfl (Al ?_)
   repeat refine Bi ?_
   refine G5 (fun h2=>?_) fun h2=>?_<;>conv=>whnf
   ·(repeat refine Ar ?_)
    refine B5 [] (k+1) ⟨by omega,fun i hi=>(Nat.lt_succ_iff_lt_or_eq.1 hi).elim (fun h4=>he i h4) (fun h4=>by subst h4;simp only [ltX,Bool.not_eq_false',decide_eq_true_eq];exact h2)⟩ Ac ⟨rfl,trivial⟩ trivial F3 Aa Dh Aa
   ·refine Jc rfl ?_
    refine Ct A0 false 1 rfl rfl Aa rfl (Af D0) ?_
    refine Ct A0 false 2 rfl rfl Aa rfl (Af D0) ?_
    refine Do (s':=?_) 3 rfl Aa ?_ ?_
    rotate_left
    refine go A0 false ?_
    conv=>whnf
    refine Xi A0 rfl rfl rfl rfl rfl rfl rfl (l:=0) (h:=(k:Int)) rfl rfl ⟨by omega,by omega,by omega⟩ (Ai (l.take k)) (Zw Ac) (Al ?_)
    exact Bd
    refine S7 [4,5,6,7,8] [⟨0,28,.emp 4⟩] Aa ?_
    refine Pg (s1:=?_) (s2:=?_) A0 [4,5,6,7,8] 4 5 [5,6,7,8] [4,6,7,8] rfl rfl Aa Gp Bu Bu ?_ ?_ ?_ ?_
    rotate_left 2
    refine go A0 false ?_
    conv=>whnf
    refine Dp A0 rfl rfl rfl rfl rfl rfl rfl rfl rfl rfl rfl (Ai (l.take k)) (Eh) (fun _=>Eu _) (by (have:=List.length_take_le k l);omega) (Al ?_)
    exact Bd
    refine D5 (s':=?_) A0 rfl Aa Gp ?_ ?_
    rotate_left
    refine go A0 false ?_
    conv=>whnf
    (repeat refine Ar ?_)
    exact Bd
    refine D5 (s':=?_) A0 rfl Aa Gp ?_ ?_
    rotate_left
    refine go A0 false ?_
    conv=>whnf
    (repeat refine Ar ?_)
    exact Bd
    refine D5 (s':=?_) A0 rfl Aa Gp ?_ ?_
    rotate_left
    refine go A0 false ?_
    conv=>whnf
    refine Dp A0 rfl rfl rfl rfl rfl rfl rfl rfl rfl rfl rfl (Ai (l.take k++[x])) (Bf rfl) M1 (by (have:=List.length_take_le k l);omega) (Al ?_)
    exact Bd
    refine D5 (s':=?_) A0 rfl Aa Gp ?_ ?_
    rotate_left
    refine go A0 false ?_
    conv=>whnf
    (repeat refine Ar ?_)
    exact Bd
    refine P5 A0 Aa Gp (GW.out (Tt ?_))
    conv=>whnf
    rotate_left 1
    refine go A0 false ?_
    conv=>whnf
    (repeat refine Ar ?_)
    exact Bd
    refine Pg (s1:=?_) (s2:=?_) A0 [4,6,7,8] 4 6 [6,7,8] [4,7,8] rfl rfl Aa Gp Bu Bu ?_ ?_ ?_ ?_
    rotate_left 2
    refine go A0 false ?_
    conv=>whnf
    refine Dp A0 rfl rfl rfl rfl rfl rfl rfl rfl rfl rfl rfl (Ai (l.take k)) (Eh) (fun _=>Eu _) (by (have:=List.length_take_le k l);omega) (Al ?_)
    exact Bd
    refine D5 (s':=?_) A0 rfl Aa Gp ?_ ?_
    rotate_left
    refine go A0 false ?_
    conv=>whnf
    (repeat refine Ar ?_)
    exact Bd
    refine D5 (s':=?_) A0 rfl Aa Gp ?_ ?_
    rotate_left
    refine go A0 false ?_
    conv=>whnf
    refine Dp A0 rfl rfl rfl rfl rfl rfl rfl rfl rfl rfl rfl (Ai (l.take k++[x])) (Bf rfl) M1 (by (have:=List.length_take_le k l);omega) (Al ?_)
    exact Bd
    refine D5 (s':=?_) A0 rfl Aa Gp ?_ ?_
    rotate_left
    refine go A0 false ?_
    conv=>whnf
    (repeat refine Ar ?_)
    exact Bd
    refine P5 A0 Aa Gp (GW.out (Tt ?_))
    conv=>whnf
    rotate_left 1
    refine go A0 false ?_
    conv=>whnf
    (repeat refine Ar ?_)
    exact Bd
    refine D5 (s':=?_) A0 rfl Aa Gp ?_ ?_
    rotate_left
    refine go A0 false ?_
    conv=>whnf
    refine Dp A0 rfl rfl rfl rfl rfl rfl rfl rfl rfl rfl rfl (Ai (l.take k)) (Eh) (fun _=>Eu _) (by (have:=List.length_take_le k l);omega) (Al ?_)
    exact Bd
    refine D5 (s':=?_) A0 rfl Aa Gp ?_ ?_
    rotate_left
    refine go A0 false ?_
    conv=>whnf
    refine Dp A0 rfl rfl rfl rfl rfl rfl rfl rfl rfl rfl rfl (Ai (l.take k++[x])) (Bf rfl) M1 (by (have:=List.length_take_le k l);omega) (Al ?_)
    exact Bd
    refine D5 (s':=?_) A0 rfl Aa Gp ?_ ?_
    rotate_left
    refine go A0 false ?_
    conv=>whnf
    (repeat refine Ar ?_)
    exact Bd
    refine P5 A0 Aa Gp (GW.out (Tt ?_))
    conv=>whnf
    all_goals
     refine Xi A0 rfl rfl rfl rfl rfl rfl rfl (l:=(k:Int)) (h:=(l.length:Int)) rfl rfl ⟨by omega,by omega,by omega⟩ (Ai (l.drop k)) (Lf Ac) (Al ?_)
     refine Dp A0 rfl rfl rfl rfl rfl rfl rfl rfl rfl rfl rfl (Ai (l.take k++x::l.drop k)) (A9c l x k) (fun _=>Eu _) (by (have:=List.length_take_le k l;have:=List.length_drop (i:=k) (l:=l);simp only [List.length_append,List.length_singleton];omega)) (Al ?_)
     refine Ao A0 rfl rfl ⟨?_,trivial⟩
     rw [Cy,if_neg (by rw [hc];decide),A4j h he (by simp only [ltX,Bool.not_eq_true',decide_eq_false_iff_not];exact h2)]
     rfl
  ·repeat refine Bi ?_
   refine Jc rfl ?_
   refine Ct A0 false 1 rfl rfl Aa rfl (Af D0) ?_
   refine Ct A0 false 2 rfl rfl Aa rfl (Af D0) ?_
   refine Do (s':=?_) 3 rfl Aa ?_ ?_
   rotate_left
   refine go A0 false ?_
   conv=>whnf
   refine Xi A0 rfl rfl rfl rfl rfl rfl rfl (l:=0) (h:=(k:Int)) rfl rfl ⟨by omega,by omega,by omega⟩ (Ai (l.take k)) (Zw Ac) (Al ?_)
   exact Bd
   refine S7 [4,5,6,7,8] [⟨0,28,.emp 4⟩] Aa ?_
   refine Pg (s1:=?_) (s2:=?_) A0 [4,5,6,7,8] 4 5 [5,6,7,8] [4,6,7,8] rfl rfl Aa Gp Bu Bu ?_ ?_ ?_ ?_
   rotate_left 2
   refine go A0 false ?_
   conv=>whnf
   refine Dp A0 rfl rfl rfl rfl rfl rfl rfl rfl rfl rfl rfl (Ai (l.take k)) (Eh) (fun _=>Eu _) (by (have:=List.length_take_le k l);omega) (Al ?_)
   exact Bd
   refine D5 (s':=?_) A0 rfl Aa Gp ?_ ?_
   rotate_left
   refine go A0 false ?_
   conv=>whnf
   (repeat refine Ar ?_)
   exact Bd
   refine D5 (s':=?_) A0 rfl Aa Gp ?_ ?_
   rotate_left
   refine go A0 false ?_
   conv=>whnf
   (repeat refine Ar ?_)
   exact Bd
   refine D5 (s':=?_) A0 rfl Aa Gp ?_ ?_
   rotate_left
   refine go A0 false ?_
   conv=>whnf
   refine Dp A0 rfl rfl rfl rfl rfl rfl rfl rfl rfl rfl rfl (Ai (l.take k++[x])) (Bf rfl) M1 (by (have:=List.length_take_le k l);omega) (Al ?_)
   exact Bd
   refine D5 (s':=?_) A0 rfl Aa Gp ?_ ?_
   rotate_left
   refine go A0 false ?_
   conv=>whnf
   (repeat refine Ar ?_)
   exact Bd
   refine P5 A0 Aa Gp (GW.out (Tt ?_))
   conv=>whnf
   rotate_left 1
   refine go A0 false ?_
   conv=>whnf
   (repeat refine Ar ?_)
   exact Bd
   refine Pg (s1:=?_) (s2:=?_) A0 [4,6,7,8] 4 6 [6,7,8] [4,7,8] rfl rfl Aa Gp Bu Bu ?_ ?_ ?_ ?_
   rotate_left 2
   refine go A0 false ?_
   conv=>whnf
   refine Dp A0 rfl rfl rfl rfl rfl rfl rfl rfl rfl rfl rfl (Ai (l.take k)) (Eh) (fun _=>Eu _) (by (have:=List.length_take_le k l);omega) (Al ?_)
   exact Bd
   refine D5 (s':=?_) A0 rfl Aa Gp ?_ ?_
   rotate_left
   refine go A0 false ?_
   conv=>whnf
   (repeat refine Ar ?_)
   exact Bd
   refine D5 (s':=?_) A0 rfl Aa Gp ?_ ?_
   rotate_left
   refine go A0 false ?_
   conv=>whnf
   refine Dp A0 rfl rfl rfl rfl rfl rfl rfl rfl rfl rfl rfl (Ai (l.take k++[x])) (Bf rfl) M1 (by (have:=List.length_take_le k l);omega) (Al ?_)
   exact Bd
   refine D5 (s':=?_) A0 rfl Aa Gp ?_ ?_
   rotate_left
   refine go A0 false ?_
   conv=>whnf
   (repeat refine Ar ?_)
   exact Bd
   refine P5 A0 Aa Gp (GW.out (Tt ?_))
   conv=>whnf
   rotate_left 1
   refine go A0 false ?_
   conv=>whnf
   (repeat refine Ar ?_)
   exact Bd
   refine D5 (s':=?_) A0 rfl Aa Gp ?_ ?_
   rotate_left
   refine go A0 false ?_
   conv=>whnf
   refine Dp A0 rfl rfl rfl rfl rfl rfl rfl rfl rfl rfl rfl (Ai (l.take k)) (Eh) (fun _=>Eu _) (by (have:=List.length_take_le k l);omega) (Al ?_)
   exact Bd
   refine D5 (s':=?_) A0 rfl Aa Gp ?_ ?_
   rotate_left
   refine go A0 false ?_
   conv=>whnf
   refine Dp A0 rfl rfl rfl rfl rfl rfl rfl rfl rfl rfl rfl (Ai (l.take k++[x])) (Bf rfl) M1 (by (have:=List.length_take_le k l);omega) (Al ?_)
   exact Bd
   refine D5 (s':=?_) A0 rfl Aa Gp ?_ ?_
   rotate_left
   refine go A0 false ?_
   conv=>whnf
   (repeat refine Ar ?_)
   exact Bd
   refine P5 A0 Aa Gp (GW.out (Tt ?_))
   conv=>whnf
   all_goals
    refine Xi A0 rfl rfl rfl rfl rfl rfl rfl (l:=(k:Int)) (h:=(l.length:Int)) rfl rfl ⟨by omega,by omega,by omega⟩ (Ai (l.drop k)) (Lf Ac) (Al ?_)
    refine Dp A0 rfl rfl rfl rfl rfl rfl rfl rfl rfl rfl rfl (Ai (l.take k++x::l.drop k)) (A9c l x k) (fun _=>Eu _) (by (have:=List.length_take_le k l;have:=List.length_drop (i:=k) (l:=l);simp only [List.length_append,List.length_singleton];omega)) (Al ?_)
    refine Ao A0 rfl rfl ⟨?_,trivial⟩
    rw [Cy,if_neg (by rw [hc];decide),(show J2 l x=k by rw [Zj (fun i hi=>he i Ac)];omega)]
    rfl
def A9 (g:Ad) (op:Int):Cb:=g.nodes.getD op.toNat default
def inN (ws:List Ab):List A7:=ws.foldl (fun l w=>w.cells.foldl Cy l) []
def Np (g:Ad) (op:Int):Cb×Bool:=if Eg op 0 (g.nodes.length-1)=true then (A9 g op,true) else (⟨0,0,0,[]⟩,false)
theorem B8n {g:Ad}{n:Nat}(h:g.w≤n)(op:Int)(hk:op.toNat<g.nodes.length):(A9 g op).w≤n:=by
 have:=Hg Cb.w g.nodes op.toNat hk
 simp only [Ad.w,wS] at h
 simp only [A9]
 omega
theorem R9 (g:Ad)(op:Int)(hg:g.w≤16777216):B0 Tryz.prog 114 [.agg g.c,.one (vi op)] [.agg (Np g op).1.c,.one (vb (Np g op).2)]:=by
 have hl:g.nodes.length≤16777216:=by simp only [Ad.w,wS] at hg;omega
 refine Ay A0 false Tryz.func114 rfl Bu fun W=>?_
 conv=>whnf
 (repeat refine Ar ?_)
 refine Aw (Jo op 0 (g.nodes.length-1)) rfl (Al ?_)
 by_cases h1:Eg op 0 (g.nodes.length-1)=true
 ·have h2:=Go.Sx.Am.1 h1
  have hk:op.toNat<g.nodes.length:=by omega
  have hw:=B8n hg op hk
  have ho:(A9 g op).outs.length≤16777216:=by simp only [Cb.w] at hw;omega
  rw [h1,Np,if_pos h1]
  repeat refine Bi ?_
  (repeat refine Ar ?_)
  refine Dp A0 rfl rfl rfl rfl rfl rfl rfl rfl rfl rfl rfl (F1 (A9 g op).outs) (Eh) (fun _=>Sy _) (by (simp only [A9] at ho;omega)) (Al ?_)
  repeat refine Bi ?_
  refine Ao A0 rfl rfl ?_
  exact Ca
 ·have h3:Eg op 0 (g.nodes.length-1)=false:=by simpa using h1
  rw [h3,Np,if_neg h1]
  repeat refine Bi ?_
  refine Ao A0 rfl rfl ?_
  exact Ca
theorem Ui {x:A3}{n:Nat}(h:x.w≤n):x.graph.w≤n:=by simp only [A3.w] at h;omega
def Jd (k v:Int):Prop:=(0≤k∧k≤99)∧(0≤v∧v≤999)
instance (k v:Int):Decidable (Jd k v):=by unfold Jd;infer_instance
def As (x:Cb) (k v:Int):Int×Int×Bool:=
 if Iw x∧Jd k v then
  (if x.kind=2 then (k,if v+x.a<999 then v+x.a else 999,true)
  else if x.kind=4 then ((k+x.a).tmod 100,v,true)
  else if x.kind=3 then (k,v,k.tmod x.a==x.b)
  else (k,v,x.kind !=8))
 else (k,v,false)
def Cc (s:F5):F5×Bool:=if Ho s=true∧s.turn<6 then (⟨s.epoch,s.turn+1⟩,true) else (s,false)
def Jx (g:Ad) (r:A5):Prop:=E7 g∧Ja r∧r.op<g.nodes.length
instance (g:Ad) (r:A5):Decidable (Jx g r):=by unfold Jx;infer_instance
def Gf (g:Ad) (r:A5):List A5:=
 if (A9 g r.op).kind=7∧(Cc r.stamp).2=false then []
 else (A9 g r.op).outs.map fun k=>⟨k,if (A9 g r.op).kind=7 then (Cc r.stamp).1 else r.stamp,(As (A9 g r.op) r.key r.val).1,(As (A9 g r.op) r.key r.val).2.1⟩
def Cq (r:A5):A7:=⟨r.op,r.stamp.epoch,r.key,r.val⟩
def Bv (g:Ad) (cs:List A7) (r:A5):List A7×List A5×Bool:=
 if Jx g r then
  (if (As (A9 g r.op) r.key r.val).2.2=false∧(A9 g r.op).kind≠8 then (cs,[],true)
  else if (Bb (A9 g r.op).kind cs (Cq r)).2=false then ((Bb (A9 g r.op).kind cs (Cq r)).1,[],true)
  else ((Bb (A9 g r.op).kind cs (Cq r)).1,Gf g r,true))
 else (cs,[],false)
def capped (g:Ad) (r:A5):Bool:=decide (Jx g r∧(A9 g r.op).kind=7∧(A9 g r.op).outs.length>0∧(Cc r.stamp).2=false)
def A2s (l:C2) (r:A5):Prop:=Gy l∧Ja r∧l.credits≠0∧l.sent≠1000000000
instance (l:C2) (r:A5):Decidable (A2s l r):=by unfold A2s;infer_instance
def Dn (l:C2) (r:A5):C2×Bool:=if A2s l r then (⟨l.cap,l.queue++[r],l.credits-1,l.back,l.sent+1,l.got⟩,true) else (l,false)
def At (l:C2):C2×A5×Bool:=
 if Gy l∧0<l.queue.length then (⟨l.cap,l.queue.drop 1,l.credits,l.back+1,l.sent,l.got+1⟩,l.queue.getD 0 default,true) else (l,default,false)
def Bn (l:C2):C2×Bool:=if Gy l∧l.back≠0 then (⟨l.cap,l.queue,l.credits+1,l.back-1,l.sent,l.got⟩,true) else (l,false)
def V5 (g:Ad) (w:Ab):Prop:=E7 g∧D8 g.nodes.length w∧w.staged.length=0∧0<w.queue.length
instance (g:Ad) (w:Ab):Decidable (V5 g w):=by unfold V5;infer_instance
def Fx (g:Ad) (w:Ab):Ab:=
 ⟨w.queue.drop 1,(Bv g w.cells (w.queue.getD 0 default)).2.1,w.inputs,(Bv g w.cells (w.queue.getD 0 default)).1,w.sums,w.black,if capped g (w.queue.getD 0 default)=true then w.caps.set (w.queue.getD 0 default).stamp.epoch.toNat true else w.caps,w.dones⟩
def Fk (g:Ad) (w:Ab):Ab×Bool:=if V5 g w then (Fx g w,true) else (w,false)
def Sl (g:Ad) (w:Ab):Prop:=E7 g∧D8 g.nodes.length w∧w.staged.length=0∧w.queue.length=0∧0<w.inputs.length
instance (g:Ad) (w:Ab):Decidable (Sl g w):=by unfold Sl;infer_instance
def Jz (w:Ab):Ab:=⟨w.queue++[w.inputs.getD 0 default],w.staged,w.inputs.drop 1,w.cells,w.sums,w.black,w.caps,w.dones⟩
def Dg (g:Ad) (w:Ab):Ab×Bool:=if Sl g w then (Jz w,true) else (w,false)
def Bt (w:Ab):Ab:=⟨w.queue,w.staged.drop 1,w.inputs,w.cells,w.sums,w.black,w.caps,w.dones⟩
def Pk (w:Ab):Ab×A5×Bool:=if 0<w.staged.length then (Bt w,w.staged.getD 0 default,true) else (w,default,false)
def kept (w:Ab) (r:A5):Ab:=⟨w.queue++[r],w.staged,w.inputs,w.cells,w.sums,w.black,w.caps,w.dones⟩
def Ib (w:Ab) (e n:Int):Ab:=⟨w.queue,w.staged,w.inputs,w.cells,w.sums.set e.toNat (w.sums.getD e.toNat default+n),w.black,w.caps,w.dones⟩
def N2 (w:Ab) (e:Int):Ab:=⟨w.queue,w.staged,w.inputs,w.cells,w.sums,w.black.set e.toNat true,w.caps,w.dones⟩
def Cj (w:Ab) (r:A5):Ab:=
 if 0≤r.stamp.epoch∧r.stamp.epoch<w.sums.length∧r.stamp.epoch<w.black.length then N2 (Ib (kept w r) r.stamp.epoch (-1)) r.stamp.epoch else kept w r
def Cs (w:Ab) (e:Int):Ab:=if 0≤e∧e<w.sums.length then Ib w e 1 else w
def B6 (c:A3) (k:Int) (l:C2):A3:=⟨c.graph,c.workers,c.links.set k.toNat l,c.tokens,c.news⟩
def An (c:A3) (k:Int):C2:=c.links.getD k.toNat default
def Hh (c:A3) (w:Int):Prop:=Ap c∧0≤w∧w<c.workers.length
instance (c:A3) (w:Int):Decidable (Hh c w):=by unfold Hh;infer_instance
def Cr (c:A3) (w:Int):A3×Bool:=if Hh c w then (Av c w (Fk c.graph (A6 c w)).1,(Fk c.graph (A6 c w)).2) else (c,false)
def Cg (c:A3) (w:Int):A3×Bool:=if Hh c w then (Av c w (Dg c.graph (A6 c w)).1,(Dg c.graph (A6 c w)).2) else (c,false)
def B7 (c:A3) (w:Int):A5:=(A6 c w).staged.getD 0 default
def B8 (c:A3) (w:Int):Int:=Cf (B7 c w).key c.graph.workers
def Ae (c:A3) (f t:Int):Int:=f * c.graph.workers+t
def C6 (c:A3) (w:Int):A3×Bool:=
 if Hh c w∧0<(A6 c w).staged.length then
  (if B8 c w=w then (Av c w (kept (Bt (A6 c w)) (B7 c w)),true)
  else if (Dn (An c (Ae c w (B8 c w))) (B7 c w)).2=true then
   (Av (B6 c (Ae c w (B8 c w)) (Dn (An c (Ae c w (B8 c w))) (B7 c w)).1) w (Cs (Bt (A6 c w)) (B7 c w).stamp.epoch),true)
  else (c,false))
 else (c,false)
def Jw (c:A3) (f t:Int):Prop:=Ap c∧f≠t∧(0≤f∧f<c.graph.workers)∧(0≤t∧t<c.graph.workers)
instance (c:A3) (f t:Int):Decidable (Jw c f t):=by unfold Jw;infer_instance
def Cd (c:A3) (f t:Int):A3×Bool:=
 if Jw c f t∧(At (An c (Ae c f t))).2.2=true then
  (Av (B6 c (Ae c f t) (At (An c (Ae c f t))).1) t (Cj (A6 c t) (At (An c (Ae c f t))).2.1),true)
 else (c,false)
def Br (c:A3) (f t:Int):A3×Bool:=
 if Jw c f t then (B6 c (Ae c f t) (Bn (An c (Ae c f t))).1,(Bn (An c (Ae c f t))).2) else (c,false)
def Is (w:Int) (x:Cn):Bool:=x.to_==w
def Ej (c:A3) (w:Int):Nat:=Ek (Is w) c.news
def Ih (c:A3) (w:Int):A3:=⟨c.graph,c.workers,c.links,c.tokens,c.news.eraseIdx (Ej c w)⟩
def Dd (c:A3) (w:Int):Cn:=c.news.getD (Ej c w) default
def D4 (c:A3) (w:Int):A3×Bool:=
 if Ap c∧c.news.any (Is w)=true then
  (if B1 (A6 c w) (Dd c w).epoch=true then Ih c w else Av (Ih c w) w (Cx (A6 c w) ⟨(Dd c w).epoch,(Dd c w).capped⟩),true)
 else (c,false)
def Ag (c:A3) (p:Bl):A3×Bool:=
 if p.kind=1 then Cr c p.a else if p.kind=2 then Cg c p.a else if p.kind=3 then C6 c p.a else if p.kind=4 then Cd c p.a p.b
 else if p.kind=5 then Br c p.a p.b else if p.kind=6 then Bo c p.a else if p.kind=7 then D4 c p.a else (c,false)
def Cl (s:A3×List Bool) (p:Bl):A3×List Bool:=((Ag s.1 p).1,s.2++[(Ag s.1 p).2])
def Bh (c:A3) (l:List Bl):A3×List Bool:=l.foldl Cl (c,[])
def Co (c:A3):Nat:=(En c.graph.workers 0 4).toNat
def Ba (c:A3):A3×Nat:=((Bh c (Gz (Co c))).1,((Bh c (Gz (Co c))).2.filter id).length)
def Di:Nat→A3→A3×Nat
 | 0,c=>(c,0)
 |n+1,c=>if (Ba c).2=0 then ((Ba c).1,1) else ((Di n (Ba c).1).1,(Di n (Ba c).1).2+1)
def K6 (g:Ad) (l:List A5):Prop:=E7 g∧l.length≤20∧∀r∈l,Ja r∧r.op=0∧r.stamp.turn=0
instance (g:Ad) (l:List A5):Decidable (K6 g l):=by unfold K6;infer_instance
def Nr (n:Int) (l:List A5) (w:Nat):List A5:=(List.range 4).flatMap fun (e:Nat)=>(Bs l e).filter fun r=>Cf r.key n==w
def Gv (n:Int):C2:=⟨En n 1 4,[],En n 1 4,0,0,0⟩
def E8 (n:Int) (l:List A5) (k:Nat):List Ab:=(List.range k).map fun w=>⟨[],[],Nr n l w,[],List.replicate 4 0,List.replicate 4 false,List.replicate 4 false,[]⟩
def Pw:A3:=⟨⟨[],0,0⟩,[],[],[],[]⟩
def Ah (g:Ad) (l:List A5):A3×Bool:=
 if K6 g l then (⟨g,E8 g.workers l g.workers.toNat,List.replicate (g.workers.toNat * g.workers.toNat) (Gv g.cap),List.replicate 4 default,[]⟩,true) else (Pw,false)
end Go.Proofs.YtonodkjaoalfjaaGreat
