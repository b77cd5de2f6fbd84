/- Part 11 of the proof that each of the laws FnTight returns true for every input. No conditions. -/
import Derived.Test.YtonodkjaoalfjaaP10
import Derived.Test.YtonodkjaoalfjaaP9
import Derived.Test.YtonodkjaoalfjaaP5
import Derived.Test.YtonodkjaoalfjaaP7
import Derived.Test.YtonodkjaoalfjaaP3
import Derived.Test.YtonodkjaoalfjaaP6

set_option linter.unusedSimpArgs false
set_option linter.unusedVariables false
set_option maxRecDepth 100000
namespace Go.Proofs.Ytonodkjaoalfjaa
open Go.Sx
theorem P5 (l:List Ax)(x:Ax)(hl:l.length≤16777216):Bp Try.prog 90 [.one (Aw l),.agg x.c] [.one (vb (Io l x))]:=by
 refine Bm A0 false Try.func90 rfl Cb fun W=>?_
 conv=>whnf
 refine Cc A0 false [] (fun k:Nat=>[(5,.c (vi k))]) (fun k=>[⟨0,[.c (vi x.op),.c (vi x.epoch),.c (vi x.key),.c (vi x.val)]⟩]) (fun k=>[])
  (fun k=>k≤l.length∧(l.take k).any (fun y=>decide (y=x))=false) (fun k=>l.length-k) 0 ⟨Nat.zero_le _,by first|rfl|assumption|simp⟩ ⟨by first|rfl|simp [Dc,ren2,ren1,ren0],trivial⟩ D8 trivial Dg A6 (fun k hk=>?_)
 obtain ⟨hk,he⟩:=hk
 conv=>whnf
 refine G2 (fun h=>?_) fun h=>?_<;>conv=>whnf
 ·have h:k<l.length:=by omega
  (repeat refine Ak ?_)
  first|(refine At 4 rfl [0,1,2,3,4,5] A6 (Af ?_))
  (repeat refine Ak ?_)
  refine ⟨fun hc=>?_,fun hc=>?_⟩<;>conv=>whnf
  ·have hc:decide (l.getD k default=x)=true:=by rw [←Ax.eqv];exact hc
   exact B1 A0 rfl rfl ⟨congrArg vb (show Io l x=true from List.any_eq_true.2 ⟨_,B9 h,hc⟩),trivial⟩
  ·have hc:decide (l.getD k default=x)=false:=by rw [←Ax.eqv];exact hc
   (repeat refine Ak ?_)
   refine B8 [] (k+1) ⟨by omega,I0 he h hc⟩ Ag ⟨rfl,trivial⟩ trivial D8 A6 Dg A6
 ·exact B1 A0 rfl rfl ⟨congrArg vb (show Io l x=false by rw [Io,←Gr l k Ag];exact he),trivial⟩
theorem M0 {α:Type} [Inhabited α] (p:α→Bool):∀(xs:List α) (k:Nat),k<xs.length→(∀i,i<k→p (xs.getD i default)=false)→p (xs.getD k default)=true→Gj p xs=k
 | [],_,h,_,_=>absurd h (Nat.not_lt_zero _)
 |x::r,0,_,_,hp=>by
  have:p x=true:=hp
  simp [Gj,this]
 |x::r,k+1,h,hb,hp=>by
  have h0:p x=false:=hb 0 Ag
  have:=M0 p r k (by simpa using h) (fun i hi=>hb (i+1) Ag) hp
  simp [Gj,h0,this]
theorem Sm {α:Type} [Inhabited α] (p:α→Bool):∀(xs:List α),(∀i,i<xs.length→p (xs.getD i default)=false)→Gj p xs=xs.length
 | [],_=>rfl
 |x::r,hb=>by
  have h0:p x=false:=hb 0 Bq
  have:=Sm p r (fun i hi=>hb (i+1) (by simpa using hi))
  simp [Gj,h0,this]
def ltX (x y:Ax):Bool:=!decide (Hj y x<0)
theorem A3g {l:List Ax}{x:Ax}{k:Nat}(h:k<l.length)(hb:∀i,i<k→ltX x (l.getD i default)=false)(hk:ltX x (l.getD k default)=true):Ir l x=k:=M0 _ l k h hb hk
theorem A0u {l:List Ax}{x:Ax}(hb:∀i,i<l.length→ltX x (l.getD i default)=false):Ir l x=l.length:=Sm _ l hb
theorem Ob {α:Type} [Inhabited α] {es:Nat}{e:α→List A7}{xs:List α}{k:Nat}(h:k≤xs.length):Sg xs.length es (fun i=>e (xs.getD i default)) 0 (k:Int) (Dz es e (xs.take k)):=by
 have:=Z5 (es:=es) (e:=e) (xs:=xs) (l:=0) (h:=(k:Int)) (Int.le_refl _) Ag Ag
 simpa using this
theorem G5 {α:Type} [Inhabited α] {es:Nat}{e:α→List A7}{xs:List α}{k:Nat}(h:k≤xs.length):Sg xs.length es (fun i=>e (xs.getD i default)) (k:Int) (xs.length:Int) (Dz es e (xs.drop k)):=by
 have:=Z5 (es:=es) (e:=e) (xs:=xs) (l:=(k:Int)) (h:=(xs.length:Int)) Ag Ag Ag
 rwa [show (xs.drop (k:Int).toNat).take ((xs.length:Int)-(k:Int)).toNat=xs.drop k by rw [Int.toNat_natCast];exact List.take_of_length_le Bq] at this
theorem Z4 (l:List Ax)(x:Ax)(k:Nat):Od (l.take k++[x]).length (l.drop k).length 4 (fun i=>Ax.c ((l.take k++[x]).getD i default)) (fun i=>Ax.c ((l.drop k).getD i default)) (Aw (l.take k++x::l.drop k)):=by
 rw [show l.take k++x::l.drop k=(l.take k++[x])++l.drop k by simp]
 exact Ph 4 Ax.c _ _
set_option maxHeartbeats 1000000 in
theorem Hh (l:List Ax)(x:Ax)(hl:l.length≤16000000):Bp Try.prog 91 [.one (Aw l),.agg x.c] [.one (Aw (Ff l x))]:=by
 refine Bm A0 false Try.func91 rfl Cb fun W=>?_
 conv=>whnf
 refine B7 (P5 l x Ag) rfl (Af ?_)
 refine ⟨fun hc=>?_,fun hc=>?_⟩<;>conv=>whnf
 ·refine B4 A0 rfl rfl rfl rfl rfl rfl rfl rfl rfl rfl rfl (Aw l) (Ah) (fun _=>Dr l) Ag (Af ?_)
  refine B1 A0 rfl rfl ⟨?_,trivial⟩
  rw [Ff,if_pos hc]
  rfl
 ·refine Cc A0 false [] (fun k:Nat=>[(5,.c (vi k))]) (fun k=>[⟨0,[.c (vi x.op),.c (vi x.epoch),.c (vi x.key),.c (vi x.val)]⟩]) (fun k=>[])
   (fun k=>k≤l.length∧∀i,i<k→ltX x (l.getD i default)=false) (fun k=>l.length-k) 0 ⟨Nat.zero_le _,by first|rfl|assumption|simp⟩ ⟨by first|rfl|simp [Dc,ren2,ren1,ren0],trivial⟩ D8 trivial Dg A6 (fun k hk=>?_)
  obtain ⟨hk,he⟩:=hk
  conv=>whnf
  first|(refine At 4 rfl [0,1,2,3,4,5,6,7,8,9,10,11,12] A6 (Af ?_))|(refine At 6 rfl [1,2,3,5,0,4,6,7,8] A6 (Af ?_))
  refine G2 (fun h=>?_) fun h=>?_<;>conv=>whnf
  ·have h:k<l.length:=by omega
   repeat refine Bg ?_
   refine B7 (Ll (l.getD k default) x) rfl (Af ?_)
   repeat refine Bg ?_
   refine G2 (fun h2=>?_) fun h2=>?_<;>conv=>whnf
   ·(repeat refine Ak ?_)
    refine B8 [] (k+1) ⟨by omega,fun i hi=>(Nat.lt_succ_iff_lt_or_eq.1 hi).elim (fun h4=>he i h4) (fun h4=>by subst h4;simp only [ltX,Bool.not_eq_false',decide_eq_true_eq];exact h2)⟩ Ag ⟨rfl,trivial⟩ trivial D8 A6 Dg A6
   ·refine J7 rfl ?_
    refine Bi A0 false 1 rfl rfl A6 rfl (Aa D3) ?_
    refine Bi A0 false 2 rfl rfl A6 rfl (Aa D3) ?_
    refine Eh (s':=?_) 3 rfl A6 ?_ ?_
    rotate_left
    refine go A0 false ?_
    conv=>whnf
    refine Kx A0 rfl rfl rfl rfl rfl rfl rfl (l:=0) (h:=(k:Int)) rfl rfl ⟨by omega,by omega,by omega⟩ (Aw (l.take k)) (Ob Ag) (Af ?_)
    exact Ay
    refine Kt [4,5,6,7,8] [⟨0,28,.emp 4⟩] A6 ?_
    refine J2 (s1:=?_) (s2:=?_) A0 [4,5,6,7,8] 4 5 [5,6,7,8] [4,6,7,8] rfl rfl A6 Db Cb Cb ?_ ?_ ?_ ?_
    rotate_left 2
    refine go A0 false ?_
    conv=>whnf
    refine B4 A0 rfl rfl rfl rfl rfl rfl rfl rfl rfl rfl rfl (Aw (l.take k)) (Ah) (fun _=>Dr _) (by (have:=List.length_take_le k l);omega) (Af ?_)
    exact Ay
    refine B2 (s':=?_) A0 rfl A6 Db ?_ ?_
    rotate_left
    refine go A0 false ?_
    conv=>whnf
    (repeat refine Ak ?_)
    exact Ay
    refine B2 (s':=?_) A0 rfl A6 Db ?_ ?_
    rotate_left
    refine go A0 false ?_
    conv=>whnf
    (repeat refine Ak ?_)
    exact Ay
    refine B2 (s':=?_) A0 rfl A6 Db ?_ ?_
    rotate_left
    refine go A0 false ?_
    conv=>whnf
    refine B4 A0 rfl rfl rfl rfl rfl rfl rfl rfl rfl rfl rfl (Aw (l.take k++[x])) (B5 rfl) Rt (by (have:=List.length_take_le k l);omega) (Af ?_)
    exact Ay
    refine B2 (s':=?_) A0 rfl A6 Db ?_ ?_
    rotate_left
    refine go A0 false ?_
    conv=>whnf
    (repeat refine Ak ?_)
    exact Ay
    refine Ix A0 A6 Db (GW.out (J4 ?_))
    conv=>whnf
    rotate_left 1
    refine go A0 false ?_
    conv=>whnf
    (repeat refine Ak ?_)
    exact Ay
    refine J2 (s1:=?_) (s2:=?_) A0 [4,6,7,8] 4 6 [6,7,8] [4,7,8] rfl rfl A6 Db Cb Cb ?_ ?_ ?_ ?_
    rotate_left 2
    refine go A0 false ?_
    conv=>whnf
    refine B4 A0 rfl rfl rfl rfl rfl rfl rfl rfl rfl rfl rfl (Aw (l.take k)) (Ah) (fun _=>Dr _) (by (have:=List.length_take_le k l);omega) (Af ?_)
    exact Ay
    refine B2 (s':=?_) A0 rfl A6 Db ?_ ?_
    rotate_left
    refine go A0 false ?_
    conv=>whnf
    (repeat refine Ak ?_)
    exact Ay
    refine B2 (s':=?_) A0 rfl A6 Db ?_ ?_
    rotate_left
    refine go A0 false ?_
    conv=>whnf
    refine B4 A0 rfl rfl rfl rfl rfl rfl rfl rfl rfl rfl rfl (Aw (l.take k++[x])) (B5 rfl) Rt (by (have:=List.length_take_le k l);omega) (Af ?_)
    exact Ay
    refine B2 (s':=?_) A0 rfl A6 Db ?_ ?_
    rotate_left
    refine go A0 false ?_
    conv=>whnf
    (repeat refine Ak ?_)
    exact Ay
    refine Ix A0 A6 Db (GW.out (J4 ?_))
    conv=>whnf
    rotate_left 1
    refine go A0 false ?_
    conv=>whnf
    (repeat refine Ak ?_)
    exact Ay
    refine B2 (s':=?_) A0 rfl A6 Db ?_ ?_
    rotate_left
    refine go A0 false ?_
    conv=>whnf
    refine B4 A0 rfl rfl rfl rfl rfl rfl rfl rfl rfl rfl rfl (Aw (l.take k)) (Ah) (fun _=>Dr _) (by (have:=List.length_take_le k l);omega) (Af ?_)
    exact Ay
    refine B2 (s':=?_) A0 rfl A6 Db ?_ ?_
    rotate_left
    refine go A0 false ?_
    conv=>whnf
    refine B4 A0 rfl rfl rfl rfl rfl rfl rfl rfl rfl rfl rfl (Aw (l.take k++[x])) (B5 rfl) Rt (by (have:=List.length_take_le k l);omega) (Af ?_)
    exact Ay
    refine B2 (s':=?_) A0 rfl A6 Db ?_ ?_
    rotate_left
    refine go A0 false ?_
    conv=>whnf
    (repeat refine Ak ?_)
    exact Ay
    refine Ix A0 A6 Db (GW.out (J4 ?_))
    conv=>whnf
    all_goals
     refine Kx A0 rfl rfl rfl rfl rfl rfl rfl (l:=(k:Int)) (h:=(l.length:Int)) rfl rfl ⟨by omega,by omega,by omega⟩ (Aw (l.drop k)) (G5 Ag) (Af ?_)
     refine B4 A0 rfl rfl rfl rfl rfl rfl rfl rfl rfl rfl rfl (Aw (l.take k++x::l.drop k)) (Z4 l x k) (fun _=>Dr _) (by (have:=List.length_take_le k l;have:=List.length_drop (i:=k) (l:=l);simp only [List.length_append,List.length_singleton];omega)) (Af ?_)
     refine B1 A0 rfl rfl ⟨?_,trivial⟩
     rw [Ff,if_neg (by rw [hc];decide),A3g h he (by simp only [ltX,Bool.not_eq_true',decide_eq_false_iff_not];exact h2)]
     rfl
  ·repeat refine Bg ?_
   refine J7 rfl ?_
   refine Bi A0 false 1 rfl rfl A6 rfl (Aa D3) ?_
   refine Bi A0 false 2 rfl rfl A6 rfl (Aa D3) ?_
   refine Eh (s':=?_) 3 rfl A6 ?_ ?_
   rotate_left
   refine go A0 false ?_
   conv=>whnf
   refine Kx A0 rfl rfl rfl rfl rfl rfl rfl (l:=0) (h:=(k:Int)) rfl rfl ⟨by omega,by omega,by omega⟩ (Aw (l.take k)) (Ob Ag) (Af ?_)
   exact Ay
   refine Kt [4,5,6,7,8] [⟨0,28,.emp 4⟩] A6 ?_
   refine J2 (s1:=?_) (s2:=?_) A0 [4,5,6,7,8] 4 5 [5,6,7,8] [4,6,7,8] rfl rfl A6 Db Cb Cb ?_ ?_ ?_ ?_
   rotate_left 2
   refine go A0 false ?_
   conv=>whnf
   refine B4 A0 rfl rfl rfl rfl rfl rfl rfl rfl rfl rfl rfl (Aw (l.take k)) (Ah) (fun _=>Dr _) (by (have:=List.length_take_le k l);omega) (Af ?_)
   exact Ay
   refine B2 (s':=?_) A0 rfl A6 Db ?_ ?_
   rotate_left
   refine go A0 false ?_
   conv=>whnf
   (repeat refine Ak ?_)
   exact Ay
   refine B2 (s':=?_) A0 rfl A6 Db ?_ ?_
   rotate_left
   refine go A0 false ?_
   conv=>whnf
   (repeat refine Ak ?_)
   exact Ay
   refine B2 (s':=?_) A0 rfl A6 Db ?_ ?_
   rotate_left
   refine go A0 false ?_
   conv=>whnf
   refine B4 A0 rfl rfl rfl rfl rfl rfl rfl rfl rfl rfl rfl (Aw (l.take k++[x])) (B5 rfl) Rt (by (have:=List.length_take_le k l);omega) (Af ?_)
   exact Ay
   refine B2 (s':=?_) A0 rfl A6 Db ?_ ?_
   rotate_left
   refine go A0 false ?_
   conv=>whnf
   (repeat refine Ak ?_)
   exact Ay
   refine Ix A0 A6 Db (GW.out (J4 ?_))
   conv=>whnf
   rotate_left 1
   refine go A0 false ?_
   conv=>whnf
   (repeat refine Ak ?_)
   exact Ay
   refine J2 (s1:=?_) (s2:=?_) A0 [4,6,7,8] 4 6 [6,7,8] [4,7,8] rfl rfl A6 Db Cb Cb ?_ ?_ ?_ ?_
   rotate_left 2
   refine go A0 false ?_
   conv=>whnf
   refine B4 A0 rfl rfl rfl rfl rfl rfl rfl rfl rfl rfl rfl (Aw (l.take k)) (Ah) (fun _=>Dr _) (by (have:=List.length_take_le k l);omega) (Af ?_)
   exact Ay
   refine B2 (s':=?_) A0 rfl A6 Db ?_ ?_
   rotate_left
   refine go A0 false ?_
   conv=>whnf
   (repeat refine Ak ?_)
   exact Ay
   refine B2 (s':=?_) A0 rfl A6 Db ?_ ?_
   rotate_left
   refine go A0 false ?_
   conv=>whnf
   refine B4 A0 rfl rfl rfl rfl rfl rfl rfl rfl rfl rfl rfl (Aw (l.take k++[x])) (B5 rfl) Rt (by (have:=List.length_take_le k l);omega) (Af ?_)
   exact Ay
   refine B2 (s':=?_) A0 rfl A6 Db ?_ ?_
   rotate_left
   refine go A0 false ?_
   conv=>whnf
   (repeat refine Ak ?_)
   exact Ay
   refine Ix A0 A6 Db (GW.out (J4 ?_))
   conv=>whnf
   rotate_left 1
   refine go A0 false ?_
   conv=>whnf
   (repeat refine Ak ?_)
   exact Ay
   refine B2 (s':=?_) A0 rfl A6 Db ?_ ?_
   rotate_left
   refine go A0 false ?_
   conv=>whnf
   refine B4 A0 rfl rfl rfl rfl rfl rfl rfl rfl rfl rfl rfl (Aw (l.take k)) (Ah) (fun _=>Dr _) (by (have:=List.length_take_le k l);omega) (Af ?_)
   exact Ay
   refine B2 (s':=?_) A0 rfl A6 Db ?_ ?_
   rotate_left
   refine go A0 false ?_
   conv=>whnf
   refine B4 A0 rfl rfl rfl rfl rfl rfl rfl rfl rfl rfl rfl (Aw (l.take k++[x])) (B5 rfl) Rt (by (have:=List.length_take_le k l);omega) (Af ?_)
   exact Ay
   refine B2 (s':=?_) A0 rfl A6 Db ?_ ?_
   rotate_left
   refine go A0 false ?_
   conv=>whnf
   (repeat refine Ak ?_)
   exact Ay
   refine Ix A0 A6 Db (GW.out (J4 ?_))
   conv=>whnf
   all_goals
    refine Kx A0 rfl rfl rfl rfl rfl rfl rfl (l:=(k:Int)) (h:=(l.length:Int)) rfl rfl ⟨by omega,by omega,by omega⟩ (Aw (l.drop k)) (G5 Ag) (Af ?_)
    refine B4 A0 rfl rfl rfl rfl rfl rfl rfl rfl rfl rfl rfl (Aw (l.take k++x::l.drop k)) (Z4 l x k) (fun _=>Dr _) (by (have:=List.length_take_le k l;have:=List.length_drop (i:=k) (l:=l);simp only [List.length_append,List.length_singleton];omega)) (Af ?_)
    refine B1 A0 rfl rfl ⟨?_,trivial⟩
    rw [Ff,if_neg (by rw [hc];decide),(show Ir l x=k by rw [A0u (fun i hi=>he i Ag)];omega)]
    rfl
def Ae (g:An) (op:Int):C3:=g.nodes.getD op.toNat default
def inN (ws:List Ad):List Ax:=ws.foldl (fun l w=>w.cells.foldl Ff l) []
def O1 (g:An) (op:Int):C3×Bool:=if Ek op 0 (g.nodes.length-1)=true then (Ae g op,true) else (⟨0,0,0,[]⟩,false)
theorem A6q {g:An}{n:Nat}(h:g.w≤n)(op:Int)(hk:op.toNat<g.nodes.length):(Ae g op).w≤n:=by
 have:=Fm C3.w g.nodes op.toNat hk
 simp only [An.w,wS] at h
 simp only [Ae]
 omega
theorem Rf (g:An)(op:Int)(hg:g.w≤16777216):Bp Try.prog 82 [.agg g.c,.one (vi op)] [.agg (O1 g op).1.c,.one (vb (O1 g op).2)]:=by
 have hl:g.nodes.length≤16777216:=by simp only [An.w,wS] at hg;omega
 refine Bm A0 false Try.func82 rfl Cb fun W=>?_
 conv=>whnf
 (repeat refine Ak ?_)
 refine B7 (Er op 0 (g.nodes.length-1)) rfl (Af ?_)
 by_cases h1:Ek op 0 (g.nodes.length-1)=true
 ·have h2:=Go.Sx.Al.1 h1
  have hk:op.toNat<g.nodes.length:=by omega
  have hw:=A6q hg op hk
  have ho:(Ae g op).outs.length≤16777216:=by simp only [C3.w] at hw;omega
  rw [h1,O1,if_pos h1]
  repeat refine Bg ?_
  (repeat refine Ak ?_)
  refine B4 A0 rfl rfl rfl rfl rfl rfl rfl rfl rfl rfl rfl (Ds (Ae g op).outs) (Ah) (fun _=>Nr _) (by (simp only [Ae] at ho;omega)) (Af ?_)
  repeat refine Bg ?_
  refine B1 A0 rfl rfl ?_
  exact C1
 ·have h3:Ek op 0 (g.nodes.length-1)=false:=by simpa using h1
  rw [h3,O1,if_neg h1]
  repeat refine Bg ?_
  refine B1 A0 rfl rfl ?_
  exact C1
theorem Yf {x:A3}{n:Nat}(h:x.w≤n):x.graph.w≤n:=by simp only [A3.w] at h;omega
def K5 (k v:Int):Prop:=(0≤k∧k≤99)∧(0≤v∧v≤999)
instance (k v:Int):Decidable (K5 k v):=by unfold K5;infer_instance
def Bh (x:C3) (k v:Int):Int×Int×Bool:=
 if Hw x∧K5 k v then
  (if x.kind=2 then (k,if v+x.a<999 then v+x.a else 999,true)
  else if x.kind=4 then ((k+x.a).tmod 100,v,true)
  else if x.kind=3 then (k,v,k.tmod x.a==x.b)
  else (k,v,x.kind !=8))
 else (k,v,false)
def Cd (s:E9):E9×Bool:=if Hr s=true∧s.turn<6 then (⟨s.epoch,s.turn+1⟩,true) else (s,false)
def Ig (g:An) (r:Ac):Prop:=Fh g∧Gt r∧r.op<g.nodes.length
instance (g:An) (r:Ac):Decidable (Ig g r):=by unfold Ig;infer_instance
def K4 (g:An) (r:Ac):List Ac:=
 if (Ae g r.op).kind=7∧(Cd r.stamp).2=false then []
 else (Ae g r.op).outs.map fun k=>⟨k,if (Ae g r.op).kind=7 then (Cd r.stamp).1 else r.stamp,(Bh (Ae g r.op) r.key r.val).1,(Bh (Ae g r.op) r.key r.val).2.1⟩
def F9 (r:Ac):Ax:=⟨r.op,r.stamp.epoch,r.key,r.val⟩
def Es (g:An) (cs:List Ax) (r:Ac):List Ax×List Ac×Bool:=
 if Ig g r then
  (if (Bh (Ae g r.op) r.key r.val).2.2=false∧(Ae g r.op).kind≠8 then (cs,[],true)
  else if (Cz (Ae g r.op).kind cs (F9 r)).2=false then ((Cz (Ae g r.op).kind cs (F9 r)).1,[],true)
  else ((Cz (Ae g r.op).kind cs (F9 r)).1,K4 g r,true))
 else (cs,[],false)
def capped (g:An) (r:Ac):Bool:=decide (Ig g r∧(Ae g r.op).kind=7∧(Ae g r.op).outs.length>0∧(Cd r.stamp).2=false)
def Uv (l:C0) (r:Ac):Prop:=Fc l∧Gt r∧l.credits≠0∧l.sent≠1000000000
instance (l:C0) (r:Ac):Decidable (Uv l r):=by unfold Uv;infer_instance
def C6 (l:C0) (r:Ac):C0×Bool:=if Uv l r then (⟨l.cap,l.queue++[r],l.credits-1,l.back,l.sent+1,l.got⟩,true) else (l,false)
def Bn (l:C0):C0×Ac×Bool:=
 if Fc l∧0<l.queue.length then (⟨l.cap,l.queue.drop 1,l.credits,l.back+1,l.sent,l.got+1⟩,l.queue.getD 0 default,true) else (l,default,false)
def D4 (l:C0):C0×Bool:=if Fc l∧l.back≠0 then (⟨l.cap,l.queue,l.credits+1,l.back-1,l.sent,l.got⟩,true) else (l,false)
def Of (g:An) (w:Ad):Prop:=Fh g∧Cf g.nodes.length w∧w.staged.length=0∧0<w.queue.length
instance (g:An) (w:Ad):Decidable (Of g w):=by unfold Of;infer_instance
def J3 (g:An) (w:Ad):Ad:=
 ⟨w.queue.drop 1,(Es g w.cells (w.queue.getD 0 default)).2.1,w.inputs,(Es g w.cells (w.queue.getD 0 default)).1,w.sums,w.black,if capped g (w.queue.getD 0 default)=true then w.caps.set (w.queue.getD 0 default).stamp.epoch.toNat true else w.caps,w.dones⟩
def H4 (g:An) (w:Ad):Ad×Bool:=if Of g w then (J3 g w,true) else (w,false)
def Kc (g:An) (w:Ad):Prop:=Fh g∧Cf g.nodes.length w∧w.staged.length=0∧w.queue.length=0∧0<w.inputs.length
instance (g:An) (w:Ad):Decidable (Kc g w):=by unfold Kc;infer_instance
def Hy (w:Ad):Ad:=⟨w.queue++[w.inputs.getD 0 default],w.staged,w.inputs.drop 1,w.cells,w.sums,w.black,w.caps,w.dones⟩
def Et (g:An) (w:Ad):Ad×Bool:=if Kc g w then (Hy w,true) else (w,false)
def Dv (w:Ad):Ad:=⟨w.queue,w.staged.drop 1,w.inputs,w.cells,w.sums,w.black,w.caps,w.dones⟩
def kept (w:Ad) (r:Ac):Ad:=⟨w.queue++[r],w.staged,w.inputs,w.cells,w.sums,w.black,w.caps,w.dones⟩
def Em (w:Ad) (e n:Int):Ad:=⟨w.queue,w.staged,w.inputs,w.cells,w.sums.set e.toNat (w.sums.getD e.toNat default+n),w.black,w.caps,w.dones⟩
def I1 (w:Ad) (e:Int):Ad:=⟨w.queue,w.staged,w.inputs,w.cells,w.sums,w.black.set e.toNat true,w.caps,w.dones⟩
def F1 (w:Ad) (r:Ac):Ad:=
 if 0≤r.stamp.epoch∧r.stamp.epoch<w.sums.length∧r.stamp.epoch<w.black.length then I1 (Em (kept w r) r.stamp.epoch (-1)) r.stamp.epoch else kept w r
def G3 (w:Ad) (e:Int):Ad:=if 0≤e∧e<w.sums.length then Em w e 1 else w
def Bo (c:A3) (k:Int) (l:C0):A3:=⟨c.graph,c.workers,c.links.set k.toNat l,c.tokens,c.news⟩
def Bc (c:A3) (k:Int):C0:=c.links.getD k.toNat default
def Fi (c:A3) (w:Int):Prop:=Ar c∧0≤w∧w<c.workers.length
instance (c:A3) (w:Int):Decidable (Fi c w):=by unfold Fi;infer_instance
def Df (c:A3) (w:Int):A3×Bool:=if Fi c w then (Av c w (H4 c.graph (A9 c w)).1,(H4 c.graph (A9 c w)).2) else (c,false)
def Ct (c:A3) (w:Int):A3×Bool:=if Fi c w then (Av c w (Et c.graph (A9 c w)).1,(Et c.graph (A9 c w)).2) else (c,false)
def Au (c:A3) (w:Int):Ac:=(A9 c w).staged.getD 0 default
def As (c:A3) (w:Int):Int:=De (Au c w).key c.graph.workers
def Ai (c:A3) (f t:Int):Int:=f * c.graph.workers+t
def Br (c:A3) (w:Int):A3×Bool:=
 if Fi c w∧0<(A9 c w).staged.length then
  (if As c w=w then (Av c w (kept (Dv (A9 c w)) (Au c w)),true)
  else if (C6 (Bc c (Ai c w (As c w))) (Au c w)).2=true then
   (Av (Bo c (Ai c w (As c w)) (C6 (Bc c (Ai c w (As c w))) (Au c w)).1) w (G3 (Dv (A9 c w)) (Au c w).stamp.epoch),true)
  else (c,false))
 else (c,false)
def Jb (c:A3) (f t:Int):Prop:=Ar c∧f≠t∧(0≤f∧f<c.graph.workers)∧(0≤t∧t<c.graph.workers)
instance (c:A3) (f t:Int):Decidable (Jb c f t):=by unfold Jb;infer_instance
def Ck (c:A3) (f t:Int):A3×Bool:=
 if Jb c f t∧(Bn (Bc c (Ai c f t))).2.2=true then
  (Av (Bo c (Ai c f t) (Bn (Bc c (Ai c f t))).1) t (F1 (A9 c t) (Bn (Bc c (Ai c f t))).2.1),true)
 else (c,false)
def Cq (c:A3) (f t:Int):A3×Bool:=
 if Jb c f t then (Bo c (Ai c f t) (D4 (Bc c (Ai c f t))).1,(D4 (Bc c (Ai c f t))).2) else (c,false)
def Iv (w:Int) (x:Ez):Bool:=x.to_==w
def M6 (c:A3) (w:Int):Nat:=Gj (Iv w) c.news
def Ip (c:A3) (w:Int):A3:=⟨c.graph,c.workers,c.links,c.tokens,c.news.eraseIdx (M6 c w)⟩
def Fa (c:A3) (w:Int):Ez:=c.news.getD (M6 c w) default
def D9 (c:A3) (w:Int):A3×Bool:=
 if Ar c∧c.news.any (Iv w)=true then
  (if En (A9 c w) (Fa c w).epoch=true then Ip c w else Av (Ip c w) w (Fj (A9 c w) ⟨(Fa c w).epoch,(Fa c w).capped⟩),true)
 else (c,false)
def Ao (c:A3) (p:Bl):A3×Bool:=
 if p.kind=1 then Df c p.a else if p.kind=2 then Ct c p.a else if p.kind=3 then Br c p.a else if p.kind=4 then Ck c p.a p.b
 else if p.kind=5 then Cq c p.a p.b else if p.kind=6 then C2 c p.a else if p.kind=7 then D9 c p.a else (c,false)
def F2 (s:A3×List Bool) (p:Bl):A3×List Bool:=((Ao s.1 p).1,s.2++[(Ao s.1 p).2])
def Ce (c:A3) (l:List Bl):A3×List Bool:=l.foldl F2 (c,[])
def Ou (c:A3):Nat:=(Dn c.graph.workers 0 4).toNat
def A4a (c:A3):A3×Nat:=((Ce c (Ru (Ou c))).1,((Ce c (Ru (Ou c))).2.filter id).length)
def A46:Nat→A3→A3×Nat
 | 0,c=>(c,0)
 |n+1,c=>if (A4a c).2=0 then ((A4a c).1,1) else ((A46 n (A4a c).1).1,(A46 n (A4a c).1).2+1)
def Rs (g:An) (l:List Ac):Prop:=Fh g∧l.length≤20∧∀r∈l,Gt r∧r.op=0∧r.stamp.turn=0
instance (g:An) (l:List Ac):Decidable (Rs g l):=by unfold Rs;infer_instance
def A6t (n:Int) (l:List Ac) (w:Nat):List Ac:=(List.range 4).flatMap fun (e:Nat)=>(G7 l e).filter fun r=>De r.key n==w
def Gm (n:Int):C0:=⟨Dn n 1 4,[],Dn n 1 4,0,0,0⟩
def D6 (n:Int) (l:List Ac) (k:Nat):List Ad:=(List.range k).map fun w=>⟨[],[],A6t n l w,[],List.replicate 4 0,List.replicate 4 false,List.replicate 4 false,[]⟩
def L4:A3:=⟨⟨[],0,0⟩,[],[],[],[]⟩
def Ej (g:An) (l:List Ac):A3×Bool:=
 if Rs g l then (⟨g,D6 g.workers l g.workers.toNat,List.replicate (g.workers.toNat * g.workers.toNat) (Gm g.cap),List.replicate 4 default,[]⟩,true) else (L4,false)
def A6i (w:Ad) (e:Int):Fv×Bool:=if En w e=true then (w.dones.getD (Gj (fun d=>d.epoch==e) w.dones) default,true) else (default,false)
theorem P4 (n lo hi:Int):Bp Try.prog 42 [.one (vi n),.one (vi lo),.one (vi hi)] [.one (vi (Dn n lo hi))]:=by
 refine Bm A0 false Try.func42 rfl Cb fun W=>?_
 conv=>whnf
 repeat' (first|(refine L9 ?_;conv=>whnf)|(refine La ?_;conv=>whnf)|(refine ⟨fun h=>?_,fun h=>?_⟩<;>conv=>whnf)|(refine B1 A0 rfl rfl ⟨?_,trivial⟩;conv=>whnf)|(refine He ?_;conv=>whnf)|fail)
 all_goals (refine congrArg vi ?_;simp only [decide_eq_true_eq,decide_eq_false_iff_not] at *;unfold Dn;repeat' split)<;>first|contradiction|omega
end Go.Proofs.Ytonodkjaoalfjaa
