/- Part 13 of the proof that each of the laws FnExactWhoIsDone, FnExactResultText, FnExactRunText returns true for every input. No conditions. -/
import Derived.Test.YtmhcebdkjgkmlaaGreatDoorP12

set_option linter.unusedSimpArgs false
set_option linter.unusedVariables false
set_option maxRecDepth 100000
namespace Go.Proofs.YtmhcebdkjgkmlaaGreatDoor
open Go.Sx
theorem A41 (l:List Ad)(x:Ad)(hl:l.length≤16777216):Dj 259 [.one (Ai l),.agg x.c] [.one (vb (O6 l x))]:=by
 refine E3 Tryz.func259 fun W=>?_;refine Fv [] (fun k:Nat=>[(5,.c (vi k))]) (fun k=>[⟨0,[.c (vi x.op),.c (vi x.ab),.c (vi x.key),.c (vi x.val)]⟩]) (fun k=>[]) (fun k=>k≤l.length∧(l.take k).any (fun y=>decide (y=x))=false) (fun k=>l.length-k) fun k hk=>?_;obtain ⟨hk,he⟩:=hk;refine Eh (fun h=>?_) fun h=>?_
 ·have h:k<l.length:=by omega
  refine B8 ?_
  first|(refine Al 4 rfl [0,1,2,3,4,5] Ah (Aj ?_))
  refine B8 ?_;refine Cc (fun hc=>?_) fun hc=>?_
  ·have hc:decide (l.getD k default=x)=true:=by rw [←Ad.eqv];exact hc
   exact An A0 rfl rfl ⟨A6 vb (show O6 l x=true from Tf.2 ⟨_,Am h,hc⟩),trivial⟩
  have hc:decide (l.getD k default=x)=false:=by rw [←Ad.eqv];exact hc
  refine B8 ?_;refine Ci [] (k+1) ⟨by omega,Gn he h hc⟩ A7 ⟨rfl,trivial⟩ trivial
 exact An A0 rfl rfl ⟨A6 vb (show O6 l x=false by rw [O6,←F9 l k A7];exact he),trivial⟩
theorem A98 (l:List Ad)(x:Ad)(hl:l.length≤16777216):Dj 320 [.one (Ai l),.agg x.c] [.one (vi (P8 (fun y=>decide (y=x)) l))]:=by
 refine E3 Tryz.func320 fun W=>?_;refine Fv [5,9,10,11,12,13,14,15,16,17,18] (fun k:Nat=>[(8,.c (vi k))]) (fun k=>[⟨0,[.c (vi x.op),.c (vi x.ab),.c (vi x.key),.c (vi x.val)]⟩]) (fun k=>[]) (fun k=>k≤l.length∧(l.take k).any (fun y=>decide (y=x))=false) (fun k=>l.length-k) fun k hk=>?_;obtain ⟨hk,he⟩:=hk;refine Eh (fun h=>?_) fun h=>?_
 ·have h:k<l.length:=by omega
  refine B8 ?_
  first|(refine Al 4 rfl [0,1,2,3,4,5] Ah (Aj ?_))
  refine B8 ?_;refine Cc (fun hc=>?_) fun hc=>?_
  ·have hc:decide (l.getD k default=x)=true:=by rw [←Uv.2 (eq_comm (a:=x)),←Ad.eqv];exact hc
   exact An A0 rfl rfl ⟨A6 vi (Sp _ l k he h hc),trivial⟩
  have hc:decide (l.getD k default=x)=false:=by rw [←Uv.2 (eq_comm (a:=x)),←Ad.eqv];exact hc
  refine B8 ?_;refine Ci [] (k+1) ⟨by omega,Gn he h hc⟩ A7 ⟨rfl,trivial⟩ trivial
 exact An A0 rfl rfl ⟨A6 vi (M4 _ l (by rw [←F9 l k A7];exact he)),trivial⟩
theorem A2s (l:List Ad)(x:Ad)(hl:l.length≤16777216):Dj 296 [.one (Ai l),.agg x.c] [.one (vb (O6 l x))]:=by
 refine E3 Tryz.func296 fun W=>?_;refine F0 (A98 l x hl) ?_;exact An A0 rfl rfl ⟨A6 vb (A2p _ l).symm,trivial⟩
theorem A39 (l:List Ad)(x:Ad)(hl:l.length≤16777216):Dj 261 [.one (Ai l),.agg x.c] [.one (vb (O6 l x))]:=by
 refine E3 Tryz.func261 fun W=>?_;refine F0 (A2s l x hl) ?_;exact An A0 rfl rfl ⟨rfl,trivial⟩
variable {α : Type}
theorem Z4 [Inhabited α] (p:α→Bool):∀(xs:List α) (k:Nat),k<xs.length→(∀i,i<k→p (xs.getD i default)=false)→p (xs.getD k default)=true→Hq p xs=k
 | [],_,h,_,_=>absurd h (Kt _)
 |x::r,0,_,_,hp=>by
  have:p x=true:=hp
  simp [Hq,this]
 |x::r,k+1,h,hb,hp=>by
  have h0:p x=false:=hb 0 A7
  have:=Z4 p r k (by simpa using h) (fun i hi=>hb (i+1) A7) hp
  simp [Hq,h0,this]
theorem B1h [Inhabited α] (p:α→Bool):∀(xs:List α),(∀i,i<xs.length→p (xs.getD i default)=false)→Hq p xs=xs.length
 | [],_=>rfl
 |x::r,hb=>by
  have h0:p x=false:=hb 0 Bi
  have:=B1h p r (fun i hi=>hb (i+1) (by simpa using hi))
  simp [Hq,h0,this]
def ltX (x y:Ad):Bool:=!decide (Mw y x<0)
theorem B7c {l:List Ad}{x:Ad}{k:Nat}(h:k<l.length)(hb:∀i,i<k→ltX x (l.getD i default)=false)(hk:ltX x (l.getD k default)=true):N4 l x=k:=Z4 _ l k h hb hk
theorem B2b {l:List Ad}{x:Ad}(hb:∀i,i<l.length→ltX x (l.getD i default)=false):N4 l x=l.length:=B1h _ l hb
theorem C71 (l:List Ad)(x:Ad):N4 l x≤l.length:=by
 have:∀(p:Ad→Bool) (m:List Ad),Hq p m≤m.length:=by
  intro p m
  induction m with
  |nil=>simp [Hq]
  |cons y r ih=>simp only [Hq];split<;>simp<;>omega
 exact this _ l
theorem A3d [Inhabited α] {es:Nat}{e:α→List Ag}{xs:List α}{k:Nat}(h:k≤xs.length):Xz xs.length es (fun i=>e (xs.getD i default)) 0 (k:Int) (Mr es e (xs.take k)):=by
 have:=Xr (es:=es) (e:=e) (xs:=xs) (l:=0) (h:=(k:Int)) (A0r _) A7 A7
 simpa using this
theorem Il [Inhabited α] {es:Nat}{e:α→List Ag}{xs:List α}{k:Nat}(h:k≤xs.length):Xz xs.length es (fun i=>e (xs.getD i default)) (k:Int) (xs.length:Int) (Mr es e (xs.drop k)):=by
 have:=Xr (es:=es) (e:=e) (xs:=xs) (l:=(k:Int)) (h:=(xs.length:Int)) A7 A7 A7
 rwa [show (xs.drop (k:Int).toNat).take ((xs.length:Int)-(k:Int)).toNat=xs.drop k by rw [Bu];exact K0 Bi] at this
theorem C2c (l:List Ad)(x:Ad)(k:Nat):A0t (l.take k++[x]).length (l.drop k).length 4 (fun i=>Ad.c ((l.take k++[x]).getD i default)) (fun i=>Ad.c ((l.drop k).getD i default)) (Ai (l.take k++x::l.drop k)):=by
 rw [show l.take k++x::l.drop k=(l.take k++[x])++l.drop k by simp]
 exact Ob 4 Ad.c _ _
set_option maxHeartbeats 1000000 in
theorem Mj (l:List Ad)(x:Ad)(hl:l.length≤16000000):Dj 215 [.one (Ai l),.agg x.c] [.one (Ai (Dc l x))]:=by
 refine E3 Tryz.func215 fun W=>?_;refine F0 (A41 l x A7) ?_;refine Cc (fun hc=>?_) fun hc=>?_
 ·refine B9 A0 rfl (Ai l) (Bs) (fun _=>Gb l) A7 (Aj ?_)
  refine An A0 rfl rfl ⟨?_,trivial⟩;rw [Dc,Ak hc];rfl
 refine Fv [] (fun k:Nat=>[(5,.c (vi k))]) (fun k=>[⟨0,[.c (vi x.op),.c (vi x.ab),.c (vi x.key),.c (vi x.val)]⟩]) (fun k=>[]) (fun k=>k≤l.length∧∀i,i<k→ltX x (l.getD i default)=false) (fun k=>l.length-k) fun k hk=>?_;obtain ⟨hk,he⟩:=hk
 first|(refine Al 4 rfl [0,1,2,3,4,5,6,7,8,9,10,11,12] Ah (Aj ?_))|(refine Al 6 rfl [1,2,3,5,0,4,6,7,8] Ah (Aj ?_))
 refine Eh (fun h=>?_) fun h=>?_
 ·have h:k<l.length:=by omega
  refine Ar ?_;refine As (Yr (l.getD k default) x) rfl (Hd ?_);refine Eh (fun h2=>?_) fun h2=>?_
  ·refine B8 ?_
   refine Ci [] (k+1) ⟨by omega,fun i hi=>(X3.1 hi).elim (fun h4=>he i h4) (fun h4=>by subst h4;simp only [ltX,Ur,J7];exact h2)⟩ A7 ⟨rfl,trivial⟩ trivial
  refine Iy rfl (Dw 1 rfl (Dw 2 rfl ?_));refine Lq (s':=?_) 3 rfl Ah ?_ ?_;rotate_left;refine Aj ?_;refine P3 A0 rfl ⟨by omega,by omega,by omega⟩ (Ai (l.take k)) (A3d A7) (Aj ?_);exact C0
  refine Nl [4,5,6,7,8] [⟨0,28,.emp 4⟩] Ah ?_;refine Nb (s1:=?_) (s2:=?_) A0 [4,5,6,7,8] 4 5 [5,6,7,8] [4,6,7,8] rfl rfl Ah Dq Cw Cw ?_ ?_ ?_ ?_;rotate_left 2;refine Aj ?_;refine B9 A0 rfl (Ai (l.take k)) (Bs) (fun _=>Gb _) (by (have:=Lv k l);omega) (Aj ?_);exact C0
  refine Ms rfl Dq ?_;refine Ms rfl Dq ?_;refine L9 (s':=?_) rfl Dq ?_ ?_;rotate_left;refine Aj ?_;refine B9 A0 rfl (Ai (l.take k++[x])) (Ao rfl) Hy (by (have:=Lv k l);omega) (Aj ?_);exact C0
  refine Ms rfl Dq ?_;refine Ln A0 Ah Dq (GW.out (Iv ?_));conv=>whnf
  rotate_left 1;refine Er ?_;exact C0
  refine Nb (s1:=?_) (s2:=?_) A0 [4,6,7,8] 4 6 [6,7,8] [4,7,8] rfl rfl Ah Dq Cw Cw ?_ ?_ ?_ ?_;rotate_left 2;refine Aj ?_;refine B9 A0 rfl (Ai (l.take k)) (Bs) (fun _=>Gb _) (by (have:=Lv k l);omega) (Aj ?_);exact C0
  refine Ms rfl Dq ?_;refine L9 (s':=?_) rfl Dq ?_ ?_;rotate_left;refine Aj ?_;refine B9 A0 rfl (Ai (l.take k++[x])) (Ao rfl) Hy (by (have:=Lv k l);omega) (Aj ?_);exact C0
  refine Ms rfl Dq ?_;refine Ln A0 Ah Dq (GW.out (Iv ?_));conv=>whnf
  rotate_left 1;refine Er ?_;exact C0
  refine L9 (s':=?_) rfl Dq ?_ ?_;rotate_left;refine Aj ?_;refine B9 A0 rfl (Ai (l.take k)) (Bs) (fun _=>Gb _) (by (have:=Lv k l);omega) (Aj ?_);exact C0
  refine L9 (s':=?_) rfl Dq ?_ ?_;rotate_left;refine Aj ?_;refine B9 A0 rfl (Ai (l.take k++[x])) (Ao rfl) Hy (by (have:=Lv k l);omega) (Aj ?_);exact C0
  refine Ms rfl Dq ?_;refine Ln A0 Ah Dq (GW.out (Iv ?_));conv=>whnf
  all_goals
   refine P3 A0 rfl ⟨by omega,by omega,by omega⟩ (Ai (l.drop k)) (Il A7) (Aj ?_);refine B9 A0 rfl (Ai (l.take k++x::l.drop k)) (C2c l x k) (fun _=>Gb _) (by (have:=Lv k l;have:=G4 (i:=k) (l:=l);simp only [D7,Lu];omega)) (Aj ?_);refine An A0 rfl rfl ⟨?_,trivial⟩;rw [Dc,Ab (by rw [hc];decide),B7c h he (by simp only [ltX,Ml,Mk];exact h2)];rfl
 refine Ar ?_;refine Iy rfl (Dw 1 rfl (Dw 2 rfl ?_));refine Lq (s':=?_) 3 rfl Ah ?_ ?_;rotate_left;refine Aj ?_;refine P3 A0 rfl ⟨by omega,by omega,by omega⟩ (Ai (l.take k)) (A3d A7) (Aj ?_);exact C0
 refine Nl [4,5,6,7,8] [⟨0,28,.emp 4⟩] Ah ?_;refine Nb (s1:=?_) (s2:=?_) A0 [4,5,6,7,8] 4 5 [5,6,7,8] [4,6,7,8] rfl rfl Ah Dq Cw Cw ?_ ?_ ?_ ?_;rotate_left 2;refine Aj ?_;refine B9 A0 rfl (Ai (l.take k)) (Bs) (fun _=>Gb _) (by (have:=Lv k l);omega) (Aj ?_);exact C0
 refine Ms rfl Dq ?_;refine Ms rfl Dq ?_;refine L9 (s':=?_) rfl Dq ?_ ?_;rotate_left;refine Aj ?_;refine B9 A0 rfl (Ai (l.take k++[x])) (Ao rfl) Hy (by (have:=Lv k l);omega) (Aj ?_);exact C0
 refine Ms rfl Dq ?_;refine Ln A0 Ah Dq (GW.out (Iv ?_));conv=>whnf
 rotate_left 1;refine Er ?_;exact C0
 refine Nb (s1:=?_) (s2:=?_) A0 [4,6,7,8] 4 6 [6,7,8] [4,7,8] rfl rfl Ah Dq Cw Cw ?_ ?_ ?_ ?_;rotate_left 2;refine Aj ?_;refine B9 A0 rfl (Ai (l.take k)) (Bs) (fun _=>Gb _) (by (have:=Lv k l);omega) (Aj ?_);exact C0
 refine Ms rfl Dq ?_;refine L9 (s':=?_) rfl Dq ?_ ?_;rotate_left;refine Aj ?_;refine B9 A0 rfl (Ai (l.take k++[x])) (Ao rfl) Hy (by (have:=Lv k l);omega) (Aj ?_);exact C0
 refine Ms rfl Dq ?_;refine Ln A0 Ah Dq (GW.out (Iv ?_));conv=>whnf
 rotate_left 1;refine Er ?_;exact C0
 refine L9 (s':=?_) rfl Dq ?_ ?_;rotate_left;refine Aj ?_;refine B9 A0 rfl (Ai (l.take k)) (Bs) (fun _=>Gb _) (by (have:=Lv k l);omega) (Aj ?_);exact C0
 refine L9 (s':=?_) rfl Dq ?_ ?_;rotate_left;refine Aj ?_;refine B9 A0 rfl (Ai (l.take k++[x])) (Ao rfl) Hy (by (have:=Lv k l);omega) (Aj ?_);exact C0
 refine Ms rfl Dq ?_;refine Ln A0 Ah Dq (GW.out (Iv ?_));conv=>whnf
 all_goals
  refine P3 A0 rfl ⟨by omega,by omega,by omega⟩ (Ai (l.drop k)) (Il A7) (Aj ?_);refine B9 A0 rfl (Ai (l.take k++x::l.drop k)) (C2c l x k) (fun _=>Gb _) (by (have:=Lv k l;have:=G4 (i:=k) (l:=l);simp only [D7,Lu];omega)) (Aj ?_);refine An A0 rfl rfl ⟨?_,trivial⟩;rw [Dc,Ab (by rw [hc];decide),(show N4 l x=k by rw [B2b (fun i hi=>he i A7)];omega)]
  rfl
set_option maxHeartbeats 1000000 in
theorem Rh (l:List Ad)(x:Ad)(hl:l.length≤16000000):Dj 218 [.one (Ai l),.agg x.c] [.one (Ai (Dc l x))]:=by
 refine E3 Tryz.func218 fun W=>?_;refine Gg (Fw l A7) ?_;refine F0 (A39 l x A7) ?_;refine Cc (fun hc=>?_) fun hc=>?_
 ·refine An A0 rfl rfl ⟨?_,trivial⟩
  rw [Dc,Ak hc];rfl
 refine Fv [] (fun k:Nat=>[(6,.c (vi k))]) (fun k=>[⟨0,[.c (vi x.op),.c (vi x.ab),.c (vi x.key),.c (vi x.val)]⟩]) (fun k=>[⟨1,Ai l⟩]) (fun k=>k≤l.length∧∀i,i<k→ltX x (l.getD i default)=false) (fun k=>l.length-k) fun k hk=>?_;obtain ⟨hk,he⟩:=hk
 first|(refine Al 5 rfl [0,1,2,3,4,5,6,7,8,9,10,11,12] Ah (Aj ?_))
 refine Eh (fun h=>?_) fun h=>?_
 ·have h:k<l.length:=by omega
  refine Ar ?_;refine As (Y6 (l.getD k default) x) rfl (Hd ?_);refine Eh (fun h2=>?_) fun h2=>?_
  ·refine B8 ?_
   refine Ci [(0,0),(1,1)] (k+1) ⟨by omega,fun i hi=>(X3.1 hi).elim (fun h4=>he i h4) (fun h4=>by subst h4;simp only [ltX,Ur,J7];exact h2)⟩ A7 ⟨rfl,trivial⟩ ⟨rfl,trivial⟩
  refine C1c 2 (Ai [x]) rfl (Nu rfl A2j) ?_;refine B5i [.own 1,.c (vi k),.own 2] (A7l l k x A7 A7) (fun _ _=>trivial) (fun _ h=>by cases h) Mm rfl rfl (fun i _=>go A0 false ?_);conv=>whnf
  refine An A0 rfl rfl ⟨?_,trivial⟩;rw [Dc,Ab (by rw [hc];decide),(show N4 l x=k from B7c h he (by simp only [ltX,Ml,Mk];exact h2))]
  rfl
 refine Ar ?_;refine C1c 2 (Ai [x]) rfl (Nu rfl A2j) ?_;refine B5i [.own 1,.c (vi k),.own 2] (A7l l k x A7 A7) (fun _ _=>trivial) (fun _ h=>by cases h) Mm rfl rfl (fun i _=>go A0 false ?_);conv=>whnf
 refine An A0 rfl rfl ⟨?_,trivial⟩;rw [Dc,Ab (by rw [hc];decide),(show N4 l x=k by rw [B2b (fun i hi=>he i A7)];omega)]
 rfl
def Ac (g:B2) (op:Int):D5:=g.ak.getD op.toNat default
def E4 (c:A3):List Ad:=c.aq.foldl (fun l w=>w.cells.foldl Dc l) []
def Ed (g:B2) (l:List Ad):List Ad:=l.filter fun x=>decide ((0≤x.op∧x.op<g.ak.length)∧(Ac g x.op).kind=8)
def Ec (c:A3) (e:Int):List Ad:=(Ed c.az (E4 c)).filter fun x=>x.ab==e
def inN (ws:List Ae):List Ad:=ws.foldl (fun l w=>w.cells.foldl Dc l) []
theorem A0y (x:A3):E4 x=inN x.aq:=rfl
theorem Z6 {α β:Type} [Inhabited α] (f:β→α→β)(b:β){l:List α}{k:Nat}(hk:k<l.length):(l.take (k+1)).foldl f b=f ((l.take k).foldl f b) (l.getD k default):=by
 have:l.take (k+1)=l.take k++[l.getD k default]:=by
  rw [A3u hk]
  simp [List.getD,hk]
 rw [this,A3r];rfl
theorem B6e {ws:List Ae}{k:Nat}(hk:k<ws.length):inN (ws.take (k+1))=(ws.getD k default).cells.foldl Dc (inN (ws.take k)):=Z6 _ _ hk
theorem B7d (l:List Ad)(x:Ad):(Dc l x).length≤l.length+1:=by
 unfold Dc
 split
 ·omega
 have:=C71 l x
 simp only [D7,Eo,Gi,G4];omega
theorem Vu (cs:List Ad):∀l:List Ad,(cs.foldl Dc l).length≤l.length+cs.length:=by
 induction cs with
 |nil=>intro l;simp
 |cons c r ih=>
  intro l
  have:=ih (Dc l c)
  have:=B7d l c
  simp only [A0g,Gi];omega
theorem B2z (w:Ae):w.cells.length≤w.w:=by simp only [Ae.w];omega
theorem C6v (ws:List Ae):∀l:List Ad,(ws.foldl (fun l w=>w.cells.foldl Dc l) l).length≤l.length+(ws.map Ae.w).sum:=by
 induction ws with
 |nil=>intro l;simp
 |cons w r ih=>
  intro l;have h1:=ih (w.cells.foldl Dc l);have h2:=Vu w.cells l;have h3:=B2z w;simp only [A0g,Gz,V9];omega
theorem A5v (ws:List Ae):(inN ws).length≤(ws.map Ae.w).sum:=by
 have:=C6v ws []
 simpa [inN] using this
variable {n : Nat}
theorem Mb {x:A3}(h:x.w≤n):(E4 x).length≤n:=by
 have:=A5v x.aq
 rw [A0y];simp only [A3.w,wS] at h;omega
set_option maxHeartbeats 1000000 in
theorem B7w (x:A3)(hx:x.w≤16000000):Dj 159 [.agg x.c] [.one (Ai (E4 x))]:=by
 have hl:=A3.workers_le hx;refine E3 Tryz.func159 fun W=>?_;refine H5 1 (Ai []) rfl C3 ?_;refine Fv [5,6] (fun k:Nat=>[(4,.c (vi k))]) (fun k=>[⟨0,[.c (Ax x.az.ak),.c (vi x.az.aq),.c (vi x.az.cap),.c (Af x.aq),.c (B7 x.ay),.c (Au x.ap),.c (Bd x.ac)]⟩]) (fun k=>[⟨1,Ai (inN (x.aq.take k))⟩]) (fun k=>k≤x.aq.length) (fun k=>x.aq.length-k) fun k hk=>?_;refine B8 ?_;refine Eh (fun h=>?_) fun h=>?_
 ·have h:k<x.aq.length:=by omega
  have hw:=Go.Sx.A3.worker_le hx h;have hc:=B2z (x.aq.getD k default);have hi:=A5v (x.aq.take k);refine Fv [] (fun j:Nat=>[(5,.c (vi j))]) (fun j=>[⟨0,[.c (Ax x.az.ak),.c (vi x.az.aq),.c (vi x.az.cap),.c (Af x.aq),.c (B7 x.ay),.c (Au x.ap),.c (Bd x.ac)]⟩]) (fun j=>[⟨1,Ai (((x.aq.getD k default).cells.take j).foldl Dc (inN (x.aq.take k)))⟩]) (fun j=>j≤(x.aq.getD k default).cells.length) (fun j=>(x.aq.getD k default).cells.length-j) fun j hj=>?_;refine B8 ?_;refine Eh (fun h=>?_) fun h=>?_
  ·have h:j<(x.aq.getD k default).cells.length:=by rw [Bu] at h;omega
   have hf:=Vu ((x.aq.getD k default).cells.take j) (inN (x.aq.take k));have ht:=Lv j (x.aq.getD k default).cells;refine B8 ?_;refine Ll (Mj (((x.aq.getD k default).cells.take j).foldl Dc (inN (x.aq.take k))) ((x.aq.getD k default).cells.getD j default) A7) rfl (Er ?_);refine Ci [(1,2)] (j+1) A7 A7 ⟨rfl,trivial⟩ ⟨A6 Ai (Z6 _ _ h).symm,trivial⟩
  refine B8 ?_;refine Ci [] (k+1) A7 A7 ⟨rfl,trivial⟩ ⟨A6 Ai (by rw [Bu] at h;rw [B6e ‹_›,F9 (x.aq.getD k default).cells j A7]),trivial⟩
 refine B8 ?_;refine An A0 rfl rfl ⟨?_,trivial⟩;exact A6 Ai (by rw [A0y,K0 A7])
set_option maxHeartbeats 1000000 in
theorem B56 (x:A3)(hx:x.w≤16000000):Dj 164 [.agg x.c] [.one (Ai (E4 x))]:=by
 have hl:=A3.workers_le hx;refine E3 Tryz.func164 fun W=>?_;refine U4 3 4 (fun i=>Ad.c (([]:List Ad).getD i default)) rfl ?_;refine Fv [] (fun k:Nat=>[(11,.c (vi k))]) (fun k=>[⟨0,[.c (Ax x.az.ak),.c (vi x.az.aq),.c (vi x.az.cap),.c (Af x.aq),.c (B7 x.ay),.c (Au x.ap),.c (Bd x.ac)]⟩]) (fun k=>[⟨1,Ai (inN (x.aq.take k))⟩]) (fun k=>k≤x.aq.length) (fun k=>x.aq.length-k) fun k hk=>?_;conv=>whnf
 refine Eh (fun h=>?_) fun h=>?_
 ·have h:k<x.aq.length:=by omega
  have hw:=Go.Sx.A3.worker_le hx h;have hc:=B2z (x.aq.getD k default);have hi:=A5v (x.aq.take k);refine B8 ?_;refine Fv [] (fun j:Nat=>[(18,.c (vi j))]) (fun j=>[⟨0,[.c (Ax x.az.ak),.c (vi x.az.aq),.c (vi x.az.cap),.c (Af x.aq),.c (B7 x.ay),.c (Au x.ap),.c (Bd x.ac)]⟩]) (fun j=>[⟨1,Ai (((x.aq.getD k default).cells.take j).foldl Dc (inN (x.aq.take k)))⟩]) (fun j=>j≤(x.aq.getD k default).cells.length) (fun j=>(x.aq.getD k default).cells.length-j) fun j hj=>?_;conv=>whnf
  refine Eh (fun h=>?_) fun h=>?_
  ·have h:j<(x.aq.getD k default).cells.length:=by rw [Bu] at h;omega
   have hf:=Vu ((x.aq.getD k default).cells.take j) (inN (x.aq.take k));have ht:=Lv j (x.aq.getD k default).cells;refine B8 ?_;refine Ll (Rh (((x.aq.getD k default).cells.take j).foldl Dc (inN (x.aq.take k))) ((x.aq.getD k default).cells.getD j default) A7) rfl (Er ?_);refine Ci [(1,4)] (j+1) A7 A7 ⟨rfl,trivial⟩ ⟨A6 Ai (Z6 _ _ h).symm,trivial⟩
  refine B8 ?_;refine Ci [] (k+1) A7 A7 ⟨rfl,trivial⟩ ⟨A6 Ai (by rw [Bu] at h;rw [B6e ‹_›,F9 (x.aq.getD k default).cells j A7]),trivial⟩
 refine B8 ?_;refine An A0 rfl rfl ⟨?_,trivial⟩;exact A6 Ai (by rw [A0y,K0 A7])
def Qd (g:B2) (op:Int):D5×Bool:=if Dv op 0 (g.ak.length-1)=true then (Ac g op,true) else (⟨0,0,0,[]⟩,false)
theorem D1w {g:B2}(h:g.w≤n)(op:Int)(hk:op.toNat<g.ak.length):(Ac g op).w≤n:=by
 have:=Gf D5.w g.ak op.toNat hk
 simp only [B2.w,wS] at h;simp only [Ac];omega
theorem Ui (g:B2)(op:Int)(hg:g.w≤16777216):Dj 214 [.agg g.c,.one (vi op)] [.agg (Qd g op).1.c,.one (vb (Qd g op).2)]:=by
 have hl:g.ak.length≤16777216:=by simp only [B2.w,wS] at hg;omega
 refine E3 Tryz.func214 fun W=>?_;refine B8 ?_;refine F0 (H3 op 0 (g.ak.length-1)) ?_
 by_cases h1:Dv op 0 (g.ak.length-1)=true
 ·have h2:=Go.Sx.Ch.1 h1
  have hk:op.toNat<g.ak.length:=by omega
  have hw:=D1w hg op hk;have ho:(Ac g op).ax.length≤16777216:=by simp only [D5.w] at hw;omega
  rw [h1,Qd,Ak h1];refine Ar ?_;refine B9 A0 rfl (Ej (Ac g op).ax) (Bs) (fun _=>Sq _) (by (simp only [Ac] at ho;omega)) (Hd ?_);exact D0
 have h3:Dv op 0 (g.ak.length-1)=false:=by simpa using h1
 rw [h3,Qd,Ab h1];refine Ar ?_;exact D0
def B0i (g:B2) (x:Ad):Bool:=decide ((0≤x.op∧x.op<g.ak.length)∧(Ac g x.op).kind=8)
theorem C1z (g:B2)(x:Ad):B0i g x=((Qd g x.op).2&&((Qd g x.op).1.kind==8)):=by
 unfold B0i Qd
 by_cases h1:Dv x.op 0 (g.ak.length-1)=true
 ·have h2:=Go.Sx.Ch.1 h1
  rw [Ak h1,Th];simp only [J7,Bool.true_and,Qr];exact ⟨fun h=>h.2,fun h=>⟨⟨by omega,by omega⟩,h⟩⟩
 have h3:Dv x.op 0 (g.ak.length-1)=false:=by simpa using h1
 have h2:=Go.Sx.G8.1 h3;rw [Ab h1];simp only [Bool.false_and,Mk];exact fun h=>by omega
set_option maxHeartbeats 1000000 in
theorem B4n (g:B2)(l:List Ad)(hg:g.w≤16777216)(hl:l.length≤16777216):Dj 158 [.agg g.c,.one (Ai l)] [.one (Ai (Ed g l))]:=by
 refine E3 Tryz.func158 fun W=>?_;refine H5 1 (Ai []) rfl C3 ?_;refine Fv [9] (fun k:Nat=>[(6,.c (vi k))]) (fun k=>[⟨0,[.c (Ax g.ak),.c (vi g.aq),.c (vi g.cap)]⟩]) (fun k=>[⟨1,Ai ((l.take k).filter (B0i g))⟩]) (fun k=>k≤l.length) (fun k=>l.length-k) fun k hk=>?_;refine B8 ?_;refine Eh (fun h=>?_) fun h=>?_
 ·have h:k<l.length:=by omega
  have hs:=Em (B0i g) l k h;have hb:=Dx (B0i g) l k;rw [C1z g (l.getD k default)] at hs;refine Iy rfl (Dw 1 rfl (Dw 2 rfl ?_));refine Of 0 ?_;refine Of 3 ?_;refine Dw 4 rfl ?_;refine Of 5 ?_;refine zt2 6 10 ?_ ?_
  focus
   refine Gg (Ui g (l.getD k default).op hg) ?_;refine E6 (Dw 7 rfl ?_);refine zoF 8 ?_;refine zoF 9 ?_;refine splitB [10] Ah ⟨?_,trivial⟩;refine Er ?_;refine E6 ?_
  rotate_left 1
  focus
   refine B8 ?_;refine E6 ?_;refine splitB [6] Ah ⟨?_,trivial⟩;refine Aj ?_;refine Gg (Ui g (l.getD k default).op hg) ?_;refine E6 (Dw 7 rfl ?_);refine zoF 8 ?_;refine zoF 9 ?_
  all_goals
   refine splitB [11] Ah ⟨?_,trivial⟩;refine Er ?_;refine E6 (Dw 12 rfl ?_);refine A01 Ah (Aj ?_)
  all_goals
   refine Cc (fun h1=>?_) fun h1=>?_
   ·refine Ar ?_
    refine Cc (fun h8=>?_) fun h8=>?_
    ·refine B8 ?_
     refine B9 A0 rfl (Ai ((l.take k).filter (B0i g)++[l.getD k default])) (Ao rfl) Hy A7 (Er ?_);refine Ci [(1,5)] (k+1) A7 A7 ⟨rfl,trivial⟩ ⟨A6 Ai (by rw [hs,h1,h8];rfl),trivial⟩
    refine B8 ?_;refine Ci [] (k+1) A7 A7 ⟨rfl,trivial⟩ ⟨A6 Ai (by rw [hs,h1,h8];simp),trivial⟩
   refine Ar ?_;refine Ci [] (k+1) A7 A7 ⟨rfl,trivial⟩ ⟨A6 Ai (by rw [hs,h1];simp),trivial⟩
 refine B8 ?_;refine An A0 rfl rfl ⟨?_,trivial⟩;exact A6 (fun l=>Ai (List.filter _ l)) (F9 _ k A7)
set_option maxHeartbeats 1000000 in
theorem B3h (g:B2)(l:List Ad)(hg:g.w≤16777216)(hl:l.length≤16777216):Dj 163 [.agg g.c,.one (Ai l)] [.one (Ai (Ed g l))]:=by
 refine E3 Tryz.func163 fun W=>?_;refine U4 5 4 (fun i=>Ad.c (([]:List Ad).getD i default)) rfl ?_;refine Fv [] (fun k:Nat=>[(10,.c (vi k))]) (fun k=>[⟨0,[.c (Ax g.ak),.c (vi g.aq),.c (vi g.cap)]⟩]) (fun k=>[⟨1,Ai ((l.take k).filter (B0i g))⟩]) (fun k=>k≤l.length) (fun k=>l.length-k) fun k hk=>?_;conv=>whnf
 refine Eh (fun h=>?_) fun h=>?_
 ·have h:k<l.length:=by omega
  have hs:=Em (B0i g) l k h;have hb:=Dx (B0i g) l k;rw [C1z g (l.getD k default)] at hs;refine B8 ?_;refine F0 (Tv g (l.getD k default).op hg) ?_;refine Cc (fun h1=>?_) fun h1=>?_
  ·have h2:=Go.Sx.Ch.1 h1
   rw [Qd,Ak h1] at hs;refine Ar ?_;refine Cc (fun h8=>?_) fun h8=>?_
   ·have h8:((Ac g (l.getD k default).op).kind==8)=true:=h8
    refine B8 ?_;refine B9 A0 rfl (Ai ((l.take k).filter (B0i g)++[l.getD k default])) (Ao rfl) Hy A7 (Er ?_);refine Ci [(1,4)] (k+1) A7 A7 ⟨rfl,trivial⟩ ⟨A6 Ai (by rw [hs,h8];rfl),trivial⟩
   have h8:((Ac g (l.getD k default).op).kind==8)=false:=h8;refine B8 ?_;refine Ci [] (k+1) A7 A7 ⟨rfl,trivial⟩ ⟨A6 Ai (by rw [hs,h8];simp),trivial⟩
  have hn:¬ Dv (l.getD k default).op 0 (g.ak.length-1)=true:=by rw [h1];decide
  rw [Qd,Ab hn] at hs;refine Ar ?_;refine Ci [] (k+1) A7 A7 ⟨rfl,trivial⟩ ⟨A6 Ai (by rw [hs];simp),trivial⟩
 refine B8 ?_;refine An A0 rfl rfl ⟨?_,trivial⟩;exact A6 (fun l=>Ai (List.filter _ l)) (F9 _ k A7)
theorem Po {g:B2}{l:List Ad}(h:l.length≤n):(Ed g l).length≤n:=Ew (Ni _ _) h
theorem A4m (x:A3)(e:Int):Ec x e=(Ed x.az (E4 x)).filter (fun y=>y.ab==e):=rfl
theorem Tu {x:A3}(h:x.w≤n):x.az.w≤n:=by simp only [A3.w] at h;omega
set_option maxHeartbeats 1000000 in
theorem B4m (x:A3)(e:Int)(hx:x.w≤16000000):Dj 100 [.agg x.c,.one (vi e)] [.one (Ai (Ec x e))]:=by
 have hc:=Mb hx;have ho:=Po (g:=x.az) hc;have hg:=Tu hx;refine E3 Tryz.func100 fun W=>?_;refine H5 1 (Ai []) rfl C3 ?_
 first|(refine Al 2 rfl [0,1,2,3,4,5] Ah (Aj ?_))
 refine Gg (B7w x hx) ?_;refine Gg (B4n x.az (E4 x) A7 A7) ?_;rw [A4m];refine Fv [8] (fun k:Nat=>[(7,.c (vi k))]) (fun k=>[]) (fun k=>[⟨3,Ai (Ed x.az (E4 x))⟩,⟨1,Ai (((Ed x.az (E4 x)).take k).filter (fun y=>y.ab==e))⟩]) (fun k=>k≤(Ed x.az (E4 x)).length) (fun k=>(Ed x.az (E4 x)).length-k) fun k hk=>?_;refine B8 ?_;refine Eh (fun h=>?_) fun h=>?_
 ·have h:k<(Ed x.az (E4 x)).length:=by omega
  have hs:=Em (fun y:Ad=>y.ab==e) (Ed x.az (E4 x)) k h;have hb:=Dx (fun y:Ad=>y.ab==e) (Ed x.az (E4 x)) k;refine B8 ?_;refine Cc (fun h1=>?_) fun h1=>?_
  ·rw [Bu] at h1
   refine B8 ?_;refine B9 A0 rfl (Ai (((Ed x.az (E4 x)).take k).filter (fun y=>y.ab==e)++[(Ed x.az (E4 x)).getD k default])) (Ao rfl) Hy A7 (Er ?_);refine Ci [(1,5)] (k+1) A7 A7 ⟨rfl,trivial⟩ ⟨rfl,A6 Ai (by rw [hs,Ak h1]),trivial⟩
  rw [Bu] at h1;refine B8 ?_;refine Ci [] (k+1) A7 A7 ⟨rfl,trivial⟩ ⟨rfl,A6 Ai (by rw [hs,Ab (by rw [h1];decide),Hw]),trivial⟩
 refine B8 ?_;refine An A0 rfl rfl ⟨?_,trivial⟩;exact A6 (fun l=>Ai (List.filter _ l)) (F9 _ k A7)
set_option maxHeartbeats 1000000 in
theorem B3g (x:A3)(e:Int)(hx:x.w≤16000000):Dj 105 [.agg x.c,.one (vi e)] [.one (Ai (Ec x e))]:=by
 have hc:=Mb hx;have ho:=Po (g:=x.az) hc;have hg:=Tu hx;refine E3 Tryz.func105 fun W=>?_;refine U4 5 4 (fun i=>Ad.c (([]:List Ad).getD i default)) rfl ?_
 first|(refine Al 2 rfl [0,1,2,6,3,4,5] Ah (Aj ?_))
 refine Gg (B56 x hx) ?_;refine Gg (B3h x.az (E4 x) A7 A7) ?_;rw [A4m];refine Fv [] (fun k:Nat=>[(14,.c (vi k))]) (fun k=>[]) (fun k=>[⟨3,Ai (Ed x.az (E4 x))⟩,⟨1,Ai (((Ed x.az (E4 x)).take k).filter (fun y=>y.ab==e))⟩]) (fun k=>k≤(Ed x.az (E4 x)).length) (fun k=>(Ed x.az (E4 x)).length-k) fun k hk=>?_;conv=>whnf
 refine Eh (fun h=>?_) fun h=>?_
 ·have h:k<(Ed x.az (E4 x)).length:=by omega
  have hs:=Em (fun y:Ad=>y.ab==e) (Ed x.az (E4 x)) k h;have hb:=Dx (fun y:Ad=>y.ab==e) (Ed x.az (E4 x)) k;refine B8 ?_;refine Cc (fun h1=>?_) fun h1=>?_
  ·rw [Bu] at h1
   refine B8 ?_;refine B9 A0 rfl (Ai (((Ed x.az (E4 x)).take k).filter (fun y=>y.ab==e)++[(Ed x.az (E4 x)).getD k default])) (Ao rfl) Hy A7 (Er ?_);refine Ci [(1,6)] (k+1) A7 A7 ⟨rfl,trivial⟩ ⟨rfl,A6 Ai (by rw [hs,Ak h1]),trivial⟩
  rw [Bu] at h1;refine B8 ?_;refine Ci [] (k+1) A7 A7 ⟨rfl,trivial⟩ ⟨rfl,A6 Ai (by rw [hs,Ab (by rw [h1];decide),Hw]),trivial⟩
 refine B8 ?_;refine An A0 rfl rfl ⟨?_,trivial⟩;exact A6 (fun l=>Ai (List.filter _ l)) (F9 _ k A7)
def Ri (k v:Int):Prop:=(0≤k∧k≤99)∧(0≤v∧v≤999)
instance (k v:Int):Decidable (Ri k v):=by unfold Ri;infer_instance
def Bb (x:D5) (k v:Int):Int×Int×Bool:=
 if Jc x∧Ri k v then
  (if x.kind=2 then (k,if v+x.a<999 then v+x.a else 999,true)
  else if x.kind=4 then ((k+x.a).tmod 100,v,true)
  else if x.kind=3 then (k,v,k.tmod x.a==x.b)
  else (k,v,x.kind !=8))
 else (k,v,false)
def Br (s:Jg):Jg×Bool:=if Jp s=true∧s.turn<6 then (⟨s.ab,s.turn+1⟩,true) else (s,false)
def P6 (g:B2) (r:Aa):Prop:=I4 g∧Gu r∧r.op<g.ak.length
instance (g:B2) (r:Aa):Decidable (P6 g r):=by unfold P6;infer_instance
def Uz (g:B2) (r:Aa):List Aa:=
 if (Ac g r.op).kind=7∧(Br r.am).2=false then []
 else (Ac g r.op).ax.map fun k=>⟨k,if (Ac g r.op).kind=7 then (Br r.am).1 else r.am,(Bb (Ac g r.op) r.key r.val).1,(Bb (Ac g r.op) r.key r.val).2.1⟩
def Fh (r:Aa):Ad:=⟨r.op,r.am.ab,r.key,r.val⟩
def Gr (g:B2) (cs:List Ad) (r:Aa):List Ad×List Aa×Bool:=
 if P6 g r then
  (if (Bb (Ac g r.op) r.key r.val).2.2=false∧(Ac g r.op).kind≠8 then (cs,[],true)
  else if (Cs (Ac g r.op).kind cs (Fh r)).2=false then ((Cs (Ac g r.op).kind cs (Fh r)).1,[],true)
  else ((Cs (Ac g r.op).kind cs (Fh r)).1,Uz g r,true))
 else (cs,[],false)
def ao (g:B2) (r:Aa):Bool:=decide (P6 g r∧(Ac g r.op).kind=7∧(Ac g r.op).ax.length>0∧(Br r.am).2=false)
def B5a (l:D4) (r:Aa):Prop:=Hm l∧Gu r∧l.bv≠0∧l.bj≠1000000000
instance (l:D4) (r:Aa):Decidable (B5a l r):=by unfold B5a;infer_instance
def Cy (l:D4) (r:Aa):D4×Bool:=if B5a l r then (⟨l.cap,l.ar++[r],l.bv-1,l.back,l.bj+1,l.got⟩,true) else (l,false)
def Bo (l:D4):D4×Aa×Bool:=
 if Hm l∧0<l.ar.length then (⟨l.cap,l.ar.drop 1,l.bv,l.back+1,l.bj,l.got+1⟩,l.ar.getD 0 default,true) else (l,default,false)
def Ep (l:D4):D4×Bool:=if Hm l∧l.back≠0 then (⟨l.cap,l.ar,l.bv+1,l.back-1,l.bj,l.got⟩,true) else (l,false)
def A3x (g:B2) (w:Ae):Prop:=I4 g∧Cp g.ak.length w∧w.ae.length=0∧0<w.ar.length
instance (g:B2) (w:Ae):Decidable (A3x g w):=by unfold A3x;infer_instance
def P5 (g:B2) (w:Ae):Ae:=
 ⟨w.ar.drop 1,(Gr g w.cells (w.ar.getD 0 default)).2.1,w.au,(Gr g w.cells (w.ar.getD 0 default)).1,w.ah,w.al,if ao g (w.ar.getD 0 default)=true then w.an.set (w.ar.getD 0 default).am.ab.toNat true else w.an,w.ai⟩
def Ma (g:B2) (w:Ae):Ae×Bool:=if A3x g w then (P5 g w,true) else (w,false)
def Vg (g:B2) (w:Ae):Prop:=I4 g∧Cp g.ak.length w∧w.ae.length=0∧w.ar.length=0∧0<w.au.length
instance (g:B2) (w:Ae):Decidable (Vg g w):=by unfold Vg;infer_instance
def Pz (w:Ae):Ae:=⟨w.ar++[w.au.getD 0 default],w.ae,w.au.drop 1,w.cells,w.ah,w.al,w.an,w.ai⟩
def Gy (g:B2) (w:Ae):Ae×Bool:=if Vg g w then (Pz w,true) else (w,false)
def Et (w:Ae):Ae:=⟨w.ar,w.ae.drop 1,w.au,w.cells,w.ah,w.al,w.an,w.ai⟩
def Wu (w:Ae):Ae×Aa×Bool:=if 0<w.ae.length then (Et w,w.ae.getD 0 default,true) else (w,default,false)
def kept (w:Ae) (r:Aa):Ae:=⟨w.ar++[r],w.ae,w.au,w.cells,w.ah,w.al,w.an,w.ai⟩
def Is (w:Ae) (e n:Int):Ae:=⟨w.ar,w.ae,w.au,w.cells,w.ah.set e.toNat (w.ah.getD e.toNat default+n),w.al,w.an,w.ai⟩
def Q1 (w:Ae) (e:Int):Ae:=⟨w.ar,w.ae,w.au,w.cells,w.ah,w.al.set e.toNat true,w.an,w.ai⟩
def Ik (w:Ae) (r:Aa):Ae:=
 if 0≤r.am.ab∧r.am.ab<w.ah.length∧r.am.ab<w.al.length then Q1 (Is (kept w r) r.am.ab (-1)) r.am.ab else kept w r
def Jx (w:Ae) (e:Int):Ae:=if 0≤e∧e<w.ah.length then Is w e 1 else w
def D6 (c:A3) (k:Int) (l:D4):A3:=⟨c.az,c.aq,c.ay.set k.toNat l,c.ap,c.ac⟩
def Be (c:A3) (k:Int):D4:=c.ay.getD k.toNat default
def I0 (c:A3) (w:Int):Prop:=Av c∧0≤w∧w<c.aq.length
instance (c:A3) (w:Int):Decidable (I0 c w):=by unfold I0;infer_instance
def Fp (c:A3) (w:Int):A3×Bool:=if I0 c w then (Bc c w (Ma c.az (A8 c w)).1,(Ma c.az (A8 c w)).2) else (c,false)
def Eu (c:A3) (w:Int):A3×Bool:=if I0 c w then (Bc c w (Gy c.az (A8 c w)).1,(Gy c.az (A8 c w)).2) else (c,false)
def B1 (c:A3) (w:Int):Aa:=(A8 c w).ae.getD 0 default
def B0 (c:A3) (w:Int):Int:=Es (B1 c w).key c.az.aq
def Aq (c:A3) (f t:Int):Int:=f * c.az.aq+t
def Cg (c:A3) (w:Int):A3×Bool:=
 if I0 c w∧0<(A8 c w).ae.length then
  (if B0 c w=w then (Bc c w (kept (Et (A8 c w)) (B1 c w)),true)
  else if (Cy (Be c (Aq c w (B0 c w))) (B1 c w)).2=true then
   (Bc (D6 c (Aq c w (B0 c w)) (Cy (Be c (Aq c w (B0 c w))) (B1 c w)).1) w (Jx (Et (A8 c w)) (B1 c w).am.ab),true)
  else (c,false))
 else (c,false)
def Oy (c:A3) (f t:Int):Prop:=Av c∧f≠t∧(0≤f∧f<c.az.aq)∧(0≤t∧t<c.az.aq)
instance (c:A3) (f t:Int):Decidable (Oy c f t):=by unfold Oy;infer_instance
def Dz (c:A3) (f t:Int):A3×Bool:=
 if Oy c f t∧(Bo (Be c (Aq c f t))).2.2=true then
  (Bc (D6 c (Aq c f t) (Bo (Be c (Aq c f t))).1) t (Ik (A8 c t) (Bo (Be c (Aq c f t))).2.1),true)
 else (c,false)
def Ez (c:A3) (f t:Int):A3×Bool:=
 if Oy c f t then (D6 c (Aq c f t) (Ep (Be c (Aq c f t))).1,(Ep (Be c (Aq c f t))).2) else (c,false)
def K5 (w:Int) (x:D8):Bool:=x.to_==w
def P1 (c:A3) (w:Int):Nat:=Hq (K5 w) c.ac
def V1 (c:A3) (w:Int):A3:=⟨c.az,c.aq,c.ay,c.ap,c.ac.eraseIdx (P1 c w)⟩
def G6 (c:A3) (w:Int):D8:=c.ac.getD (P1 c w) default
def Fi (c:A3) (w:Int):A3×Bool:=
 if Av c∧c.ac.any (K5 w)=true then
  (if Kl (A8 c w) (G6 c w).ab=true then V1 c w else Bc (V1 c w) w (Ju (A8 c w) ⟨(G6 c w).ab,(G6 c w).ao⟩),true)
 else (c,false)
def Ap (c:A3) (p:Ea):A3×Bool:=
 if p.kind=1 then Fp c p.a else if p.kind=2 then Eu c p.a else if p.kind=3 then Cg c p.a else if p.kind=4 then Dz c p.a p.b
 else if p.kind=5 then Ez c p.a p.b else if p.kind=6 then Ct c p.a else if p.kind=7 then Fi c p.a else (c,false)
def J3 (s:A3×List Bool) (p:Ea):A3×List Bool:=((Ap s.1 p).1,s.2++[(Ap s.1 p).2])
def Aw (c:A3) (l:List Ea):A3×List Bool:=l.foldl J3 (c,[])
def It (c:A3):Nat:=(Dl c.az.aq 0 4).toNat
def C5 (c:A3):A3×Nat:=((Aw c (Qw (It c))).1,((Aw c (Qw (It c))).2.filter id).length)
def E5:Nat→A3→A3×Nat
 | 0,c=>(c,0)
 |n+1,c=>if (C5 c).2=0 then ((C5 c).1,1) else ((E5 n (C5 c).1).1,(E5 n (C5 c).1).2+1)
def A49 (g:B2) (l:List Aa):Prop:=I4 g∧l.length≤20∧∀r∈l,Gu r∧r.op=0∧r.am.turn=0
instance (g:B2) (l:List Aa):Decidable (A49 g l):=by unfold A49;infer_instance
def B9y (n:Int) (l:List Aa) (w:Nat):List Aa:=(List.range 4).flatMap fun (e:Nat)=>(F6 l e).filter fun r=>Es r.key n==w
def Gx (n:Int):D4:=⟨Dl n 1 4,[],Dl n 1 4,0,0,0⟩
def Ef (n:Int) (l:List Aa) (k:Nat):List Ae:=(List.range k).map fun w=>⟨[],[],B9y n l w,[],List.replicate 4 0,List.replicate 4 false,List.replicate 4 false,[]⟩
def L3:A3:=⟨⟨[],0,0⟩,[],[],[],[]⟩
def Bg (g:B2) (l:List Aa):A3×Bool:=
 if A49 g l then (⟨g,Ef g.aq l g.aq.toNat,List.replicate (g.aq.toNat * g.aq.toNat) (Gx g.cap),List.replicate 4 default,[]⟩,true) else (L3,false)
variable {s : Jg}
theorem A1o (h:Jp s=false):Br s=(s,false):=by
 unfold Br;rw [Ab (fun p=>by rw [p.1] at h;cases h)]
theorem A1p (h:¬ s.turn<6):Br s=(s,false):=by
 unfold Br;rw [Ab (fun p=>h p.2)]
theorem A1q (h1:Jp s=true)(h2:s.turn<6):Br s=(⟨s.ab,s.turn+1⟩,true):=by
 unfold Br;rw [Ak ⟨h1,h2⟩]
theorem B74 (h:Jp s=true):(0≤s.ab∧s.ab≤3)∧0≤s.turn∧s.turn≤6:=Bj h
theorem A17 (s:Jg):Dj 278 [.agg s.c] [.agg (Br s).1.c,.one (vb (Br s).2)]:=by
 refine E3 Tryz.func278 fun W=>?_;refine F0 (A45 s) ?_;refine Cc (fun h1=>?_) fun h1=>?_
 ·have h1:Jp s=false:=by simpa using h1
  refine Ar ?_;rw [A1o h1];exact D0
 have h1:Jp s=true:=by simpa using h1
 have hb:=B74 h1;refine Ar ?_;refine Cc (fun h2=>?_) fun h2=>?_
 ·have h2:s.turn≥6:=Bj h2
  refine Ar ?_;rw [A1p A7];exact D0
 have h2:¬ s.turn≥6:=Cr h2;refine Ar ?_;rw [A1q h1 A7];exact D0
theorem Tx (s:Jg):Dj 308 [.agg s.c] [.agg (Br s).1.c,.one (vb (Br s).2)]:=by
 refine E3 Tryz.func308 fun W=>?_;refine F0 (A4b s) ?_;refine Cc (fun h1=>?_) fun h1=>?_
 ·have h1:Jp s=false:=by simpa using h1
  refine Ar ?_;rw [A1o h1];exact D0
 have h1:Jp s=true:=by simpa using h1
 have hb:=B74 h1;refine Ar ?_;refine L8 (fun h2=>?_) fun h2=>?_
 ·refine Ar ?_
  rw [A1p A7];exact D0
 refine Ar ?_;rw [A1q h1 A7];exact D0
theorem C8b (a b:Int):Dj 312 [.one (vi a),.one (vi b)] [.one (vi (if b<a then b else a))]:=by
 refine E3 Tryz.func312 fun W=>?_;refine Eh (fun h=>?_) fun h=>?_
 ·rw [Ak h]
  exact D0
 rw [Ab h];exact D0
theorem Ys (k:Int):Dj 276 [.one (vi k)] [.one (vb (decide (k=5∨k=6∨k=8)))]:=by
 refine E3 Tryz.func276 fun W=>?_;refine L8 (fun h5=>?_) fun h5=>?_
 ·refine Ar ?_
  exact An A0 rfl rfl ⟨A6 vb (by simp [h5]),trivial⟩
 refine Ar ?_;refine L8 (fun h6=>?_) fun h6=>?_
 ·refine Ar ?_
  exact An A0 rfl rfl ⟨A6 vb (by simp [h6]),trivial⟩
 refine Ar ?_;exact An A0 rfl rfl ⟨A6 vb (by simp [h5,h6];rfl),trivial⟩
variable {x : D5} {k : Int} {v : Int}
theorem Q3 (h:¬ (Jc x∧Ri k v)):Bb x k v=(k,v,false):=Ab h
theorem C3b (h:Jc x∧Ri k v)(h2:x.kind=2):Bb x k v=(k,if 999<v+x.a then 999 else v+x.a,true):=by
 rw [Bb,Ak h,Ak h2]
 congr 2
 by_cases h3:999<v+x.a
 ·rw [Ak h3,Ab A7]
 rw [Ab h3]
 split<;>omega
theorem B80 (h:Jc x∧Ri k v)(h2:x.kind=2):Bb x k v=(k,if v+x.a<999 then v+x.a else 999,true):=by
 rw [Bb,Ak h,Ak h2]
theorem B1b (h:Jc x∧Ri k v)(h2:x.kind=4):Bb x k v=((k+x.a).tmod 100,v,true):=by
 rw [Bb,Ak h,Ab A7,Ak h2]
theorem B1a (h:Jc x∧Ri k v)(h2:x.kind=3):Bb x k v=(k,v,k.tmod x.a==x.b):=by
 rw [Bb,Ak h,Ab A7,Ab A7,Ak h2]
theorem B1c (h:Jc x∧Ri k v)(h2:x.kind≠2)(h4:x.kind≠4)(h3:x.kind≠3):Bb x k v=(k,v,x.kind !=8):=by
 rw [Bb,Ak h,Ab h2,Ab h4,Ab h3]
theorem B7y (x:D5)(k v:Int)(hx:x.w≤16777216):Dj 275 [.agg x.c,.one (vi k),.one (vi v)] [.one (vi (Bb x k v).1),.one (vi (Bb x k v).2.1),.one (vb (Bb x k v).2.2)]:=by
 refine E3 Tryz.func275 fun W=>?_;refine F0 (Zv x hx) ?_;refine Cc (fun h1=>?_) fun h1=>?_
 ·have h1:Lh x=false:=by simpa using h1
  refine Ar ?_;rw [Q3 (fun p=>absurd p.1 (Cr h1))];exact D0
 have h1:Lh x=true:=by simpa using h1
 refine Ar ?_;refine As (H3 k 0 99) rfl (Hd ?_);refine Cc (fun h2=>?_) fun h2=>?_
 ·have h2:Dv k 0 99=false:=by simpa using h2
  refine Ar ?_;rw [Q3 (fun p=>Go.Sx.G8.1 h2 p.2.1)];exact D0
 have h2:Dv k 0 99=true:=by simpa using h2
 refine Ar ?_;refine As (H3 v 0 999) rfl (Hd ?_);refine Cc (fun h3=>?_) fun h3=>?_
 ·have h3:Dv v 0 999=false:=by simpa using h3
  refine Ar ?_;rw [Q3 (fun p=>Go.Sx.G8.1 h3 p.2.2)];exact D0
 have h3:Dv v 0 999=true:=by simpa using h3
 have hI:Ri k v:=⟨Go.Sx.Ch.1 h2,Go.Sx.Ch.1 h3⟩;have hN:Jc x:=Bj h1;have hk:=hI.1;have hv:=hI.2;refine Ar ?_;refine L8 (fun k2=>?_) fun k2=>?_
 ·have ha:=hN.2.1 k2
  refine Ar ?_;refine F0 (C8b (v+x.a) 999) ?_;rw [C3b ⟨hN,hI⟩ k2];exact D0
 refine Ar ?_;refine L8 (fun k4=>?_) fun k4=>?_
 ·have ha:=hN.2.2.2.1 k4
  refine Ar ?_;rw [B1b ⟨hN,hI⟩ k4];exact D0
 refine Ar ?_;refine L8 (fun k3=>?_) fun k3=>?_
 ·have ha:=hN.2.2.1 k3
  refine Ar ?_
  first|(refine Al 9 rfl [0,1,2,3,4,5,6,7,8,9,10,11] Ah (Aj ?_))|(refine Al 10 rfl [0,1,2,3,4,5,6,7] Ah (Aj ?_))
  refine B8 ?_;rw [B1a ⟨hN,hI⟩ k3];exact D0
 refine Ar ?_
 first|(refine Al 9 rfl [0,1,2,3,4,5,6,7,8,9,10,11] Ah (Aj ?_))|(refine Al 10 rfl [0,1,2,3,4,5,6,7] Ah (Aj ?_))
 rw [B1c ⟨hN,hI⟩ k2 k4 k3];exact D0
theorem B58 (x:D5)(k v:Int)(hx:x.w≤16777216):Dj 306 [.agg x.c,.one (vi k),.one (vi v)] [.one (vi (Bb x k v).1),.one (vi (Bb x k v).2.1),.one (vb (Bb x k v).2.2)]:=by
 refine E3 Tryz.func306 fun W=>?_;refine F0 (Ty x hx) ?_;refine Cc (fun h1=>?_) fun h1=>?_
 ·have h1:Lh x=false:=by simpa using h1
  refine Ar ?_;rw [Q3 (fun p=>absurd p.1 (Cr h1))];exact D0
 have h1:Lh x=true:=by simpa using h1
 refine Ar ?_;refine As (A7m k v) rfl (Hd ?_);refine Cc (fun h2=>?_) fun h2=>?_
 ·have h2:decide ((0≤k∧k≤99)∧(0≤v∧v≤999))=false:=(Ml _).mp h2
  refine Ar ?_;rw [Q3 (fun p=>absurd p.2 (Cr h2))];exact D0
 have hI:Ri k v:=Bj (show decide ((0≤k∧k≤99)∧(0≤v∧v≤999))=true from (Ur _).mp h2)
 have hN:Jc x:=Bj h1;have hk:=hI.1;have hv:=hI.2;refine Ar ?_;refine L8 (fun k2=>?_) fun k2=>?_
 ·have ha:=hN.2.1 k2
  refine Ar ?_
  first|(refine Al 5 rfl [0,1,2,3,4,5,6,7,8] Ah (Aj ?_))|(refine Al 9 rfl [0,1,2,3,4,5,6,7,8,9,10,11] Ah (Aj ?_))|(refine Al 10 rfl [0,1,2,3,4,5,6,7] Ah (Aj ?_))
  refine B8 ?_;rw [B80 ⟨hN,hI⟩ k2];exact D0
 refine Ar ?_;refine L8 (fun k4=>?_) fun k4=>?_
 ·have ha:=hN.2.2.2.1 k4
  refine Ar ?_;rw [B1b ⟨hN,hI⟩ k4];exact D0
 refine Ar ?_;refine L8 (fun k3=>?_) fun k3=>?_
 ·have ha:=hN.2.2.1 k3
  refine Ar ?_
  first|(refine Al 5 rfl [0,1,2,3,4,5,6,7,8] Ah (Aj ?_))|(refine Al 9 rfl [0,1,2,3,4,5,6,7,8,9,10,11] Ah (Aj ?_))|(refine Al 10 rfl [0,1,2,3,4,5,6,7] Ah (Aj ?_))
  refine B8 ?_;rw [B1a ⟨hN,hI⟩ k3];exact D0
 refine Ar ?_
 first|(refine Al 5 rfl [0,1,2,3,4,5,6,7,8] Ah (Aj ?_))|(refine Al 9 rfl [0,1,2,3,4,5,6,7,8,9,10,11] Ah (Aj ?_))|(refine Al 10 rfl [0,1,2,3,4,5,6,7] Ah (Aj ?_))
 rw [B1c ⟨hN,hI⟩ k2 k4 k3];exact D0
variable {l : D4}
theorem Rn {r:Aa}(h:¬ B5a l r):Cy l r=(l,false):=Ab h
theorem B7s {r:Aa}(h:B5a l r):Cy l r=(⟨l.cap,l.ar++[r],l.bv-1,l.back,l.bj+1,l.got⟩,true):=Ak h
theorem Xv (h:¬ (Hm l∧0<l.ar.length)):Bo l=(l,default,false):=Ab h
theorem A2b (h:Hm l∧0<l.ar.length):Bo l=(⟨l.cap,l.ar.drop 1,l.bv,l.back+1,l.bj,l.got+1⟩,l.ar.getD 0 default,true):=Ak h
theorem A5r (h:¬ (Hm l∧l.back≠0)):Ep l=(l,false):=Ab h
theorem B5m (h:Hm l∧l.back≠0):Ep l=(⟨l.cap,l.ar,l.bv+1,l.back-1,l.bj,l.got⟩,true):=Ak h
set_option maxHeartbeats 1000000 in
theorem A9d (l:D4)(r:Aa)(hl:l.w≤16777216):Dj 242 [.agg l.c,.agg r.c] [.agg (Cy l r).1.c,.one (vb (Cy l r).2)]:=by
 have hq:l.ar.length≤16777216:=hl;refine E3 Tryz.func242 fun W=>?_;refine Gg (Pr l A7) ?_;refine F0 (Uh l A7) ?_;refine Cc (fun h1=>?_) fun h1=>?_
 ·have h1:K6 l=false:=by simpa using h1
  refine Ar ?_;rw [Rn (fun p=>absurd p.1 (Cr h1))];exact D0
 have h1:Hm l:=Bj (show K6 l=true by simpa using h1)
 obtain ⟨⟨n1,n2,n3,n4,n5,n6,n7⟩,nA⟩:=id h1;refine Ar ?_;refine As (Jo r) rfl (Hd ?_);refine Cc (fun h2=>?_) fun h2=>?_
 ·have h2:F8 r=false:=by simpa using h2
  refine Ar ?_;rw [Rn (fun p=>absurd p.2.1 (Cr h2))];exact D0
 have h2:Gu r:=Bj (show F8 r=true by simpa using h2)
 refine Ar ?_;refine L8 (fun h3=>?_) fun h3=>?_
 ·refine Ar ?_
  rw [Rn (fun p=>p.2.2.1 h3)];exact D0
 refine Ar ?_;refine Cc (fun h4=>?_) fun h4=>?_
 ·have h4:l.bj=1000000000:=by (have:=Bj h4;omega)
  refine Ar ?_;rw [Rn (fun p=>p.2.2.2 h4)];exact D0
 have h4:l.bj≠1000000000:=by (have:=Cr h4;omega)
 refine Ar ?_;refine B9 A0 rfl (A9 (l.ar++[r])) (Ao rfl) Hy A7 (Er ?_);rw [B7s ⟨h1,h2,h3,h4⟩];exact D0
set_option maxHeartbeats 1000000 in
theorem A7r (l:D4)(r:Aa)(hl:l.w≤16777216)(og2:l.got≤9223372036854775807):Dj 227 [.agg l.c,.agg r.c] [.agg (Cy l r).1.c,.one (vb (Cy l r).2)]:=by
 have hq:l.ar.length≤16777216:=hl;refine E3 Tryz.func227 fun W=>?_;refine Gg (Pk l A7) ?_;refine F0 (Tw l A7 og2) ?_;refine Cc (fun h1=>?_) fun h1=>?_
 ·have h1:K6 l=false:=by simpa using h1
  refine Ar ?_;rw [Rn (fun p=>absurd p.1 (Cr h1))];exact D0
 have h1:Hm l:=Bj (show K6 l=true by simpa using h1)
 obtain ⟨⟨n1,n2,n3,n4,n5,n6,n7⟩,nA⟩:=id h1;refine Ar ?_;refine As (Ih r) rfl (Hd ?_);refine Cc (fun h2=>?_) fun h2=>?_
 ·have h2:F8 r=false:=by simpa using h2
  refine Ar ?_;rw [Rn (fun p=>absurd p.2.1 (Cr h2))];exact D0
 have h2:Gu r:=Bj (show F8 r=true by simpa using h2)
 refine Ar ?_;refine L8 (fun h3=>?_) fun h3=>?_
 ·refine Ar ?_
  rw [Rn (fun p=>p.2.2.1 h3)];exact D0
 refine Ar ?_;refine Cc (fun h4=>?_) fun h4=>?_
 ·have h4:l.bj=1000000000:=eq_of_beq h4
  refine Ar ?_;rw [Rn (fun p=>p.2.2.2 h4)];exact D0
 have h4:l.bj≠1000000000:=Tg.1 h4;refine Ar ?_;refine B9 A0 rfl (A9 (l.ar++[r])) (Ao rfl) Hy A7 (Er ?_);rw [B7s ⟨h1,h2,h3,h4⟩];exact D0
set_option maxHeartbeats 1000000 in
theorem B4r (l:D4)(hl:l.w≤16777216):Dj 244 [.agg l.c] [.agg (Bo l).1.c,.agg (Bo l).2.1.c,.one (vb (Bo l).2.2)]:=by
 have hq:l.ar.length≤16777216:=hl;refine E3 Tryz.func244 fun W=>?_;refine Gg (Pr l A7) ?_;refine F0 (Uh l A7) ?_;refine Cc (fun h1=>?_) fun h1=>?_
 ·have h1:K6 l=false:=by simpa using h1
  refine Ar ?_;rw [Xv (fun p=>absurd p.1 (Cr h1))];exact D0
 have h1:Hm l:=Bj (show K6 l=true by simpa using h1)
 obtain ⟨⟨n1,n2,n3,n4,n5,n6,n7⟩,nA⟩:=id h1;refine Ar ?_;refine L8 (fun h2=>?_) fun h2=>?_
 ·refine Ar ?_
  rw [Xv (fun p=>by omega)];exact D0
 have h2:0<l.ar.length:=by omega
 refine Ar ?_;refine B4u A0 rfl (⟨by omega,by omega,by omega⟩) (A9 (l.ar.drop 1)) (Il (k:=1) h2) (Aj ?_);refine B9 A0 rfl (A9 (l.ar.drop 1)) (Bs) (fun _=>Iz _) (by (rw [G4];omega)) (Er ?_);refine Iy rfl ?_;refine Of 0 ?_;refine zt2 1 2 ?_ ?_
 focus
  refine B8 ?_;refine E6 ?_;refine splitB [2] Ah ⟨?_,trivial⟩;refine Er ?_;refine E6 ?_
 rotate_left 1
 focus
  refine B8 ?_;refine E6 ?_;refine Of 1 ?_
 all_goals
  refine splitB [3] Ah ⟨?_,trivial⟩;refine Er ?_;refine E6 (Dw 4 rfl ?_);refine A01 Ah (Aj ?_)
 all_goals
  rw [A2b ⟨h1,h2⟩];exact D0
set_option maxHeartbeats 1000000 in
theorem B3q (l:D4)(hl:l.w≤16777216)(og2:l.got≤9223372036854775807):Dj 230 [.agg l.c] [.agg (Bo l).1.c,.agg (Bo l).2.1.c,.one (vb (Bo l).2.2)]:=by
 have hq:l.ar.length≤16777216:=hl;refine E3 Tryz.func230 fun W=>?_;refine Gg (Pk l A7) ?_;refine F0 (Tw l A7 og2) ?_;refine Cc (fun h1=>?_) fun h1=>?_
 ·have h1:K6 l=false:=by simpa using h1
  refine Ar ?_;rw [Xv (fun p=>absurd p.1 (Cr h1))];exact D0
 have h1:Hm l:=Bj (show K6 l=true by simpa using h1)
 obtain ⟨⟨n1,n2,n3,n4,n5,n6,n7⟩,nA⟩:=id h1;refine Ar ?_;refine L8 (fun h2=>?_) fun h2=>?_
 ·refine Ar ?_
  rw [Xv (fun p=>by omega)];exact D0
 have h2:0<l.ar.length:=by omega
 refine Ar ?_;refine B4u A0 rfl (⟨by omega,by omega,by omega⟩) (A9 (l.ar.drop 1)) (Il (k:=1) h2) (Er ?_);refine Iy rfl (Dw 1 rfl ?_);refine Of 0 ?_;refine zt2 2 5 ?_ ?_
 focus
  refine B8 ?_;refine E6 (zt2 3 5 ?_ ?_)
  focus
   refine B8 ?_;refine E6 (zt2 4 5 ?_ ?_)
   focus
    refine B8 ?_;refine E6 ?_;refine splitB [5] Ah ⟨?_,trivial⟩;refine Er ?_;refine E6 ?_
   rotate_left 1
   focus
    refine B8 ?_;refine E6 ?_;refine Of 4 ?_
  rotate_left 2
  focus
   refine B8 ?_;refine E6 ?_;refine Of 3 ?_;refine Of 4 ?_
 rotate_left 3
 focus
  refine B8 ?_;refine E6 ?_;refine Of 2 ?_;refine Of 3 ?_;refine Of 4 ?_
 all_goals
  refine splitB [6] Ah ⟨?_,trivial⟩;refine Er ?_;refine E6 (Dw 7 rfl ?_);refine A01 Ah (Aj ?_)
 all_goals
  rw [A2b ⟨h1,h2⟩];exact D0
theorem A86 (l:D4)(hl:l.w≤16777216):Dj 245 [.agg l.c] [.agg (Ep l).1.c,.one (vb (Ep l).2)]:=by
 refine E3 Tryz.func245 fun W=>?_;refine Gg (Pr l A7) ?_;refine F0 (Uh l A7) ?_;refine Cc (fun h1=>?_) fun h1=>?_
 ·have h1:K6 l=false:=by simpa using h1
  refine Ar ?_;rw [A5r (fun p=>absurd p.1 (Cr h1))];exact D0
 have h1:Hm l:=Bj (show K6 l=true by simpa using h1)
 obtain ⟨⟨n1,n2,n3,n4,n5,n6,n7⟩,nA⟩:=id h1;refine Ar ?_;refine L8 (fun h2=>?_) fun h2=>?_
 ·refine Ar ?_
  rw [A5r (fun p=>p.2 h2)];exact D0
 refine Ar ?_;rw [B5m ⟨h1,h2⟩];exact D0
theorem A7j (l:D4)(hl:l.w≤16777216)(og2:l.got≤9223372036854775807):Dj 232 [.agg l.c] [.agg (Ep l).1.c,.one (vb (Ep l).2)]:=by
 refine E3 Tryz.func232 fun W=>?_;refine Gg (Pk l A7) ?_;refine F0 (Tw l A7 og2) ?_;refine Cc (fun h1=>?_) fun h1=>?_
 ·have h1:K6 l=false:=by simpa using h1
  refine Ar ?_;rw [A5r (fun p=>absurd p.1 (Cr h1))];exact D0
 have h1:Hm l:=Bj (show K6 l=true by simpa using h1)
 obtain ⟨⟨n1,n2,n3,n4,n5,n6,n7⟩,nA⟩:=id h1;refine Ar ?_;refine L8 (fun h2=>?_) fun h2=>?_
 ·refine Ar ?_
  rw [A5r (fun p=>p.2 h2)];exact D0
 refine Ar ?_;rw [B5m ⟨h1,h2⟩];exact D0
theorem Ff {α:Type} [Inhabited α] {l:List α}{k:Nat}(hk:k<l.length):l.take (k+1)=l.take k++[l.getD k default]:=by
 rw [A3u hk]
 simp [List.getD,hk]
theorem U1 {l:List Ad}{k:Nat}(hk:k<l.length)(op e key:Int):Kz (l.take (k+1)) op e key=A2w op e key (Kz (l.take k) op e key) (l.getD k default):=by
 unfold Kz;rw [Ff hk,A3r];rfl
set_option maxHeartbeats 1000000 in
theorem A42 (l:List Ad)(op e key:Int)(hl:l.length≤16000000):Dj 313 [.one (Ai l),.one (vi op),.one (vi e),.one (vi key)] [.one (vi (Kz l op e key).1),.one (vb (Kz l op e key).2)]:=by
 refine E3 Tryz.func313 fun W=>?_;refine Fv [] (fun k:Nat=>[(12,.c (vi k)),(10,.c (vi (Kz (l.take k) op e key).1)),(11,.c (vb (Kz (l.take k) op e key).2))]) (fun k=>[]) (fun k=>[]) (fun k=>k≤l.length) (fun k=>l.length-k) fun k hk=>?_;refine Eh (fun h0=>?_) fun h0=>?_
 ·have h0:k<l.length:=by omega
  refine B8 ?_
  repeat' (first|(refine I1 ?_;conv=>whnf)|(refine I2 ?_;conv=>whnf)|(refine ⟨fun h=>?_,fun h=>?_⟩<;>conv=>whnf)|(refine H8 ?_;conv=>whnf)|fail)
  all_goals
   refine Ci [] (k+1) A7 A7 ⟨rfl,A6 (fun n=>AV.c (vi n)) (by rw [U1 h0];simp_all [A2w]<;>rw [Ab A7]<;>assumption),A6 (fun n=>AV.c (vb n)) (by rw [U1 h0];simp_all [A2w]<;>rw [Ab A7]<;>assumption),trivial⟩ trivial
 refine An A0 rfl rfl ⟨?_,?_,trivial⟩
 ·rw [show l.take k=l from K0 A7];rfl
 rw [show l.take k=l from K0 A7];rfl
theorem A1i (a b:Ad):Dj 334 [.agg a.c,.agg b.c] [.one (vb (B5 a b))]:=by
 refine E3 Tryz.func334 fun W=>?_
 repeat' (first|(refine I1 ?_;conv=>whnf)|(refine I2 ?_;conv=>whnf)|(refine ⟨fun h=>?_,fun h=>?_⟩<;>conv=>whnf)|(refine An A0 rfl rfl ⟨?_,trivial⟩;conv=>whnf)|(refine H8 ?_;conv=>whnf)|fail)
 all_goals (refine A6 vb ?_;simp_all [B5]<;>rfl)
set_option maxHeartbeats 1000000 in
theorem B6b (l:List Ad)(op e key:Int)(hl:l.length≤16000000):Dj 331 [.one (Ai l),.one (vi op),.one (vi e),.one (vi key)] [.one (vi (Kz l op e key).1),.one (vb (Kz l op e key).2)]:=by
 refine E3 Tryz.func331 fun W=>?_;refine Fv [] (fun k:Nat=>[(16,.c (vi k)),(10,.c (vi (Kz (l.take k) op e key).1)),(11,.c (vb (Kz (l.take k) op e key).2))]) (fun k=>[]) (fun k=>[]) (fun k=>k≤l.length) (fun k=>l.length-k) fun k hk=>?_;refine Eh (fun h0=>?_) fun h0=>?_
 ·have h0:k<l.length:=by omega
  refine B8 ?_;refine F0 (A1i (l.getD k default) ⟨op,e,key,0⟩) ?_
  repeat' (first|(refine I1 ?_;conv=>whnf)|(refine I2 ?_;conv=>whnf)|(refine ⟨fun h=>?_,fun h=>?_⟩<;>conv=>whnf)|(refine H8 ?_;conv=>whnf)|fail)
  all_goals
   refine Ci [] (k+1) A7 A7 ⟨rfl,A6 (fun n=>AV.c (vi n)) (by rw [U1 h0];simp_all [A2w,B5]<;>rw [Ab A7]<;>assumption),A6 (fun n=>AV.c (vb n)) (by rw [U1 h0];simp_all [A2w,B5]<;>rw [Ab A7]<;>assumption),trivial⟩ trivial
 refine An A0 rfl rfl ⟨?_,?_,trivial⟩
 ·rw [show l.take k=l from K0 A7];rfl
 rw [show l.take k=l from K0 A7];rfl
end Go.Proofs.YtmhcebdkjgkmlaaGreatDoor
