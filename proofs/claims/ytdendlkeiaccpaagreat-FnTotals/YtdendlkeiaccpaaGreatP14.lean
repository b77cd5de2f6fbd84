/- Part 14 of the proof that each of the laws FnTotals returns true for every input. No conditions. -/
import Derived.Test.YtdendlkeiaccpaaGreatP13
import Derived.Test.YtdendlkeiaccpaaGreatP12
import Derived.Test.YtdendlkeiaccpaaGreatP5
import Derived.Test.YtdendlkeiaccpaaGreatP10
import Derived.Test.YtdendlkeiaccpaaGreatP3
import Derived.Test.YtdendlkeiaccpaaGreatP6

set_option linter.unusedSimpArgs false
set_option linter.unusedVariables false
set_option maxRecDepth 100000
namespace Go.Proofs.YtdendlkeiaccpaaGreat
open Go.Sx
theorem Sb (l:List Be)(x:Be)(hl:l.length≤16777216):Bi Tryz.prog 166 [.one (Bg l),.agg x.c] [.one (vb (Kp l x))]:=by
 refine Bd A0 false Tryz.func166 rfl Aw fun W=>?_
 conv=>whnf
 refine Bv A0 false [] (fun k:Nat=>[(5,.c (vi k))]) (fun k=>[⟨0,[.c (vi x.op),.c (vi x.epoch),.c (vi x.key),.c (vi x.val)]⟩]) (fun k=>[])
  (fun k=>k≤l.length∧(l.take k).any (fun y=>decide (y=x))=false) (fun k=>l.length-k) 0 ⟨Nat.zero_le _,by first|rfl|assumption|simp⟩ ⟨F3,trivial⟩ Cf trivial Cj A7 (fun k hk=>?_)
 obtain ⟨hk,he⟩:=hk
 conv=>whnf
 refine Es (fun h=>?_) fun h=>?_<;>conv=>whnf
 ·have h:k<l.length:=by omega
  (repeat refine Am ?_)
  first|(refine B5 4 rfl [0,1,2,3,4,5] A7 (A8 ?_))
  (repeat refine Am ?_)
  refine ⟨fun hc=>?_,fun hc=>?_⟩<;>conv=>whnf
  ·have hc:decide (l.getD k default=x)=true:=by rw [←Be.eqv];exact hc
   exact B2 A0 rfl rfl ⟨congrArg vb (show Kp l x=true from List.any_eq_true.2 ⟨_,B9 h,hc⟩),trivial⟩
  have hc:decide (l.getD k default=x)=false:=by rw [←Be.eqv];exact hc
  (repeat refine Am ?_)
  refine B6 [] (k+1) ⟨by omega,Hz he h hc⟩ Ab ⟨rfl,trivial⟩ trivial Cf A7 Cj A7
 exact B2 A0 rfl rfl ⟨congrArg vb (show Kp l x=false by rw [Kp,←E6 l k Ab];exact he),trivial⟩
theorem P0 {α:Type} [Inhabited α] (p:α→Bool):∀(xs:List α) (k:Nat),k<xs.length→(∀i,i<k→p (xs.getD i default)=false)→p (xs.getD k default)=true→Gs p xs=k
 | [],_,h,_,_=>absurd h (Nat.not_lt_zero _)
 |x::r,0,_,_,hp=>by
  have:p x=true:=hp
  simp [Gs,this]
 |x::r,k+1,h,hb,hp=>by
  have h0:p x=false:=hb 0 Ab
  have:=P0 p r k (by simpa using h) (fun i hi=>hb (i+1) Ab) hp
  simp [Gs,h0,this]
theorem Wx {α:Type} [Inhabited α] (p:α→Bool):∀(xs:List α),(∀i,i<xs.length→p (xs.getD i default)=false)→Gs p xs=xs.length
 | [],_=>rfl
 |x::r,hb=>by
  have h0:p x=false:=hb 0 Cg
  have:=Wx p r (fun i hi=>hb (i+1) (by simpa using hi))
  simp [Gs,h0,this]
def ltX (x y:Be):Bool:=!decide (Jh y x<0)
theorem B0q {l:List Be}{x:Be}{k:Nat}(h:k<l.length)(hb:∀i,i<k→ltX x (l.getD i default)=false)(hk:ltX x (l.getD k default)=true):Jg l x=k:=P0 _ l k h hb hk
theorem A67 {l:List Be}{x:Be}(hb:∀i,i<l.length→ltX x (l.getD i default)=false):Jg l x=l.length:=Wx _ l hb
theorem Rl {α:Type} [Inhabited α] {es:Nat}{e:α→List Ae}{xs:List α}{k:Nat}(h:k≤xs.length):Wn xs.length es (fun i=>e (xs.getD i default)) 0 (k:Int) (Kt es e (xs.take k)):=by
 have:=A5g (es:=es) (e:=e) (xs:=xs) (l:=0) (h:=(k:Int)) (Int.le_refl _) Ab Ab
 simpa using this
theorem Fw {α:Type} [Inhabited α] {es:Nat}{e:α→List Ae}{xs:List α}{k:Nat}(h:k≤xs.length):Wn xs.length es (fun i=>e (xs.getD i default)) (k:Int) (xs.length:Int) (Kt es e (xs.drop k)):=by
 have:=A5g (es:=es) (e:=e) (xs:=xs) (l:=(k:Int)) (h:=(xs.length:Int)) Ab Ab Ab
 rwa [show (xs.drop (k:Int).toNat).take ((xs.length:Int)-(k:Int)).toNat=xs.drop k by rw [Int.toNat_natCast];exact List.take_of_length_le Cg] at this
theorem A5f (l:List Be)(x:Be)(k:Nat):Ph (l.take k++[x]).length (l.drop k).length 4 (fun i=>Be.c ((l.take k++[x]).getD i default)) (fun i=>Be.c ((l.drop k).getD i default)) (Bg (l.take k++x::l.drop k)):=by
 rw [show l.take k++x::l.drop k=(l.take k++[x])++l.drop k by simp]
 exact F8 4 Be.c _ _
set_option maxHeartbeats 1000000 in
theorem J6 (l:List Be)(x:Be)(hl:l.length≤16000000):Bi Tryz.prog 149 [.one (Bg l),.agg x.c] [.one (Bg (Fp l x))]:=by
 refine Bd A0 false Tryz.func149 rfl Aw fun W=>?_
 conv=>whnf
 refine Az (Sb l x Ab) rfl (A8 ?_)
 refine ⟨fun hc=>?_,fun hc=>?_⟩<;>conv=>whnf
 ·refine Av A0 rfl rfl rfl rfl rfl rfl rfl rfl rfl rfl rfl (Bg l) (Cc) (fun _=>Ej l) Ab (A8 ?_)
  refine B2 A0 rfl rfl ⟨?_,trivial⟩
  rw [Fp,if_pos hc]
  rfl
 refine Bv A0 false [] (fun k:Nat=>[(5,.c (vi k))]) (fun k=>[⟨0,[.c (vi x.op),.c (vi x.epoch),.c (vi x.key),.c (vi x.val)]⟩]) (fun k=>[])
  (fun k=>k≤l.length∧∀i,i<k→ltX x (l.getD i default)=false) (fun k=>l.length-k) 0 ⟨Nat.zero_le _,by first|rfl|assumption|simp⟩ ⟨F3,trivial⟩ Cf trivial Cj A7 (fun k hk=>?_)
 obtain ⟨hk,he⟩:=hk
 conv=>whnf
 first|(refine B5 4 rfl [0,1,2,3,4,5,6,7,8,9,10,11,12] A7 (A8 ?_))|(refine B5 6 rfl [1,2,3,5,0,4,6,7,8] A7 (A8 ?_))
 refine Es (fun h=>?_) fun h=>?_<;>conv=>whnf
 ·have h:k<l.length:=by omega
  repeat refine B7 ?_
  refine Az (Od (l.getD k default) x) rfl (A8 ?_)
  repeat refine B7 ?_
  refine Es (fun h2=>?_) fun h2=>?_<;>conv=>whnf
  ·(repeat refine Am ?_)
   refine B6 [] (k+1) ⟨by omega,fun i hi=>(Nat.lt_succ_iff_lt_or_eq.1 hi).elim (fun h4=>he i h4) (fun h4=>by subst h4;simp only [ltX,Bool.not_eq_false',decide_eq_true_eq];exact h2)⟩ Ab ⟨rfl,trivial⟩ trivial Cf A7 Cj A7
  refine Je rfl ?_
  refine Bu A0 false 1 rfl rfl A7 rfl (A4 B1) ?_
  refine Bu A0 false 2 rfl rfl A7 rfl (A4 B1) ?_
  refine Dt (s':=?_) 3 rfl A7 ?_ ?_
  rotate_left
  refine A8 ?_
  refine Nk A0 rfl rfl rfl rfl rfl rfl rfl (l:=0) (h:=(k:Int)) rfl rfl ⟨by omega,by omega,by omega⟩ (Bg (l.take k)) (Rl Ab) (A8 ?_)
  exact Bh
  refine Ng [4,5,6,7,8] [⟨0,28,.emp 4⟩] A7 ?_
  refine L6 (s1:=?_) (s2:=?_) A0 [4,5,6,7,8] 4 5 [5,6,7,8] [4,6,7,8] rfl rfl A7 Dx Aw Aw ?_ ?_ ?_ ?_
  rotate_left 2
  refine A8 ?_
  refine Av A0 rfl rfl rfl rfl rfl rfl rfl rfl rfl rfl rfl (Bg (l.take k)) (Cc) (fun _=>Ej _) (by (have:=List.length_take_le k l);omega) (A8 ?_)
  exact Bh
  refine Bp (s':=?_) A0 rfl A7 Dx ?_ ?_
  rotate_left
  refine A8 ?_
  (repeat refine Am ?_)
  exact Bh
  refine Bp (s':=?_) A0 rfl A7 Dx ?_ ?_
  rotate_left
  refine A8 ?_
  (repeat refine Am ?_)
  exact Bh
  refine Bp (s':=?_) A0 rfl A7 Dx ?_ ?_
  rotate_left
  refine A8 ?_
  refine Av A0 rfl rfl rfl rfl rfl rfl rfl rfl rfl rfl rfl (Bg (l.take k++[x])) (Ad rfl) Bj (by (have:=List.length_take_le k l);omega) (A8 ?_)
  exact Bh
  refine Bp (s':=?_) A0 rfl A7 Dx ?_ ?_
  rotate_left
  refine A8 ?_
  (repeat refine Am ?_)
  exact Bh
  refine L0 A0 A7 Dx (GW.out (Jf ?_))
  conv=>whnf
  rotate_left 1
  refine A8 ?_
  (repeat refine Am ?_)
  exact Bh
  refine L6 (s1:=?_) (s2:=?_) A0 [4,6,7,8] 4 6 [6,7,8] [4,7,8] rfl rfl A7 Dx Aw Aw ?_ ?_ ?_ ?_
  rotate_left 2
  refine A8 ?_
  refine Av A0 rfl rfl rfl rfl rfl rfl rfl rfl rfl rfl rfl (Bg (l.take k)) (Cc) (fun _=>Ej _) (by (have:=List.length_take_le k l);omega) (A8 ?_)
  exact Bh
  refine Bp (s':=?_) A0 rfl A7 Dx ?_ ?_
  rotate_left
  refine A8 ?_
  (repeat refine Am ?_)
  exact Bh
  refine Bp (s':=?_) A0 rfl A7 Dx ?_ ?_
  rotate_left
  refine A8 ?_
  refine Av A0 rfl rfl rfl rfl rfl rfl rfl rfl rfl rfl rfl (Bg (l.take k++[x])) (Ad rfl) Bj (by (have:=List.length_take_le k l);omega) (A8 ?_)
  exact Bh
  refine Bp (s':=?_) A0 rfl A7 Dx ?_ ?_
  rotate_left
  refine A8 ?_
  (repeat refine Am ?_)
  exact Bh
  refine L0 A0 A7 Dx (GW.out (Jf ?_))
  conv=>whnf
  rotate_left 1
  refine A8 ?_
  (repeat refine Am ?_)
  exact Bh
  refine Bp (s':=?_) A0 rfl A7 Dx ?_ ?_
  rotate_left
  refine A8 ?_
  refine Av A0 rfl rfl rfl rfl rfl rfl rfl rfl rfl rfl rfl (Bg (l.take k)) (Cc) (fun _=>Ej _) (by (have:=List.length_take_le k l);omega) (A8 ?_)
  exact Bh
  refine Bp (s':=?_) A0 rfl A7 Dx ?_ ?_
  rotate_left
  refine A8 ?_
  refine Av A0 rfl rfl rfl rfl rfl rfl rfl rfl rfl rfl rfl (Bg (l.take k++[x])) (Ad rfl) Bj (by (have:=List.length_take_le k l);omega) (A8 ?_)
  exact Bh
  refine Bp (s':=?_) A0 rfl A7 Dx ?_ ?_
  rotate_left
  refine A8 ?_
  (repeat refine Am ?_)
  exact Bh
  refine L0 A0 A7 Dx (GW.out (Jf ?_))
  conv=>whnf
  all_goals
   refine Nk A0 rfl rfl rfl rfl rfl rfl rfl (l:=(k:Int)) (h:=(l.length:Int)) rfl rfl ⟨by omega,by omega,by omega⟩ (Bg (l.drop k)) (Fw Ab) (A8 ?_)
   refine Av A0 rfl rfl rfl rfl rfl rfl rfl rfl rfl rfl rfl (Bg (l.take k++x::l.drop k)) (A5f l x k) (fun _=>Ej _) (by (have:=List.length_take_le k l;have:=List.length_drop (i:=k) (l:=l);simp only [List.length_append,List.length_singleton];omega)) (A8 ?_)
   refine B2 A0 rfl rfl ⟨?_,trivial⟩
   rw [Fp,if_neg (by rw [hc];decide),B0q h he (by simp only [ltX,Bool.not_eq_true',decide_eq_false_iff_not];exact h2)]
   rfl
 repeat refine B7 ?_
 refine Je rfl ?_
 refine Bu A0 false 1 rfl rfl A7 rfl (A4 B1) ?_
 refine Bu A0 false 2 rfl rfl A7 rfl (A4 B1) ?_
 refine Dt (s':=?_) 3 rfl A7 ?_ ?_
 rotate_left
 refine A8 ?_
 refine Nk A0 rfl rfl rfl rfl rfl rfl rfl (l:=0) (h:=(k:Int)) rfl rfl ⟨by omega,by omega,by omega⟩ (Bg (l.take k)) (Rl Ab) (A8 ?_)
 exact Bh
 refine Ng [4,5,6,7,8] [⟨0,28,.emp 4⟩] A7 ?_
 refine L6 (s1:=?_) (s2:=?_) A0 [4,5,6,7,8] 4 5 [5,6,7,8] [4,6,7,8] rfl rfl A7 Dx Aw Aw ?_ ?_ ?_ ?_
 rotate_left 2
 refine A8 ?_
 refine Av A0 rfl rfl rfl rfl rfl rfl rfl rfl rfl rfl rfl (Bg (l.take k)) (Cc) (fun _=>Ej _) (by (have:=List.length_take_le k l);omega) (A8 ?_)
 exact Bh
 refine Bp (s':=?_) A0 rfl A7 Dx ?_ ?_
 rotate_left
 refine A8 ?_
 (repeat refine Am ?_)
 exact Bh
 refine Bp (s':=?_) A0 rfl A7 Dx ?_ ?_
 rotate_left
 refine A8 ?_
 (repeat refine Am ?_)
 exact Bh
 refine Bp (s':=?_) A0 rfl A7 Dx ?_ ?_
 rotate_left
 refine A8 ?_
 refine Av A0 rfl rfl rfl rfl rfl rfl rfl rfl rfl rfl rfl (Bg (l.take k++[x])) (Ad rfl) Bj (by (have:=List.length_take_le k l);omega) (A8 ?_)
 exact Bh
 refine Bp (s':=?_) A0 rfl A7 Dx ?_ ?_
 rotate_left
 refine A8 ?_
 (repeat refine Am ?_)
 exact Bh
 refine L0 A0 A7 Dx (GW.out (Jf ?_))
 conv=>whnf
 rotate_left 1
 refine A8 ?_
 (repeat refine Am ?_)
 exact Bh
 refine L6 (s1:=?_) (s2:=?_) A0 [4,6,7,8] 4 6 [6,7,8] [4,7,8] rfl rfl A7 Dx Aw Aw ?_ ?_ ?_ ?_
 rotate_left 2
 refine A8 ?_
 refine Av A0 rfl rfl rfl rfl rfl rfl rfl rfl rfl rfl rfl (Bg (l.take k)) (Cc) (fun _=>Ej _) (by (have:=List.length_take_le k l);omega) (A8 ?_)
 exact Bh
 refine Bp (s':=?_) A0 rfl A7 Dx ?_ ?_
 rotate_left
 refine A8 ?_
 (repeat refine Am ?_)
 exact Bh
 refine Bp (s':=?_) A0 rfl A7 Dx ?_ ?_
 rotate_left
 refine A8 ?_
 refine Av A0 rfl rfl rfl rfl rfl rfl rfl rfl rfl rfl rfl (Bg (l.take k++[x])) (Ad rfl) Bj (by (have:=List.length_take_le k l);omega) (A8 ?_)
 exact Bh
 refine Bp (s':=?_) A0 rfl A7 Dx ?_ ?_
 rotate_left
 refine A8 ?_
 (repeat refine Am ?_)
 exact Bh
 refine L0 A0 A7 Dx (GW.out (Jf ?_))
 conv=>whnf
 rotate_left 1
 refine A8 ?_
 (repeat refine Am ?_)
 exact Bh
 refine Bp (s':=?_) A0 rfl A7 Dx ?_ ?_
 rotate_left
 refine A8 ?_
 refine Av A0 rfl rfl rfl rfl rfl rfl rfl rfl rfl rfl rfl (Bg (l.take k)) (Cc) (fun _=>Ej _) (by (have:=List.length_take_le k l);omega) (A8 ?_)
 exact Bh
 refine Bp (s':=?_) A0 rfl A7 Dx ?_ ?_
 rotate_left
 refine A8 ?_
 refine Av A0 rfl rfl rfl rfl rfl rfl rfl rfl rfl rfl rfl (Bg (l.take k++[x])) (Ad rfl) Bj (by (have:=List.length_take_le k l);omega) (A8 ?_)
 exact Bh
 refine Bp (s':=?_) A0 rfl A7 Dx ?_ ?_
 rotate_left
 refine A8 ?_
 (repeat refine Am ?_)
 exact Bh
 refine L0 A0 A7 Dx (GW.out (Jf ?_))
 conv=>whnf
 all_goals
  refine Nk A0 rfl rfl rfl rfl rfl rfl rfl (l:=(k:Int)) (h:=(l.length:Int)) rfl rfl ⟨by omega,by omega,by omega⟩ (Bg (l.drop k)) (Fw Ab) (A8 ?_)
  refine Av A0 rfl rfl rfl rfl rfl rfl rfl rfl rfl rfl rfl (Bg (l.take k++x::l.drop k)) (A5f l x k) (fun _=>Ej _) (by (have:=List.length_take_le k l;have:=List.length_drop (i:=k) (l:=l);simp only [List.length_append,List.length_singleton];omega)) (A8 ?_)
  refine B2 A0 rfl rfl ⟨?_,trivial⟩
  rw [Fp,if_neg (by rw [hc];decide),(show Jg l x=k by rw [A67 (fun i hi=>he i Ab)];omega)]
  rfl
def Ak (g:Ao) (op:Int):An:=g.nodes.getD op.toNat default
def inN (ws:List Ac):List Be:=ws.foldl (fun l w=>w.cells.foldl Fp l) []
def R9 (g:Ao) (op:Int):An×Bool:=if Eb op 0 (g.nodes.length-1)=true then (Ak g op,true) else (⟨0,0,0,[]⟩,false)
theorem B4p {g:Ao}{n:Nat}(h:g.w≤n)(op:Int)(hk:op.toNat<g.nodes.length):(Ak g op).w≤n:=by
 have:=Gv An.w g.nodes op.toNat hk
 simp only [Ao.w,wS] at h
 simp only [Ak]
 omega
theorem Vc (g:Ao)(op:Int)(hg:g.w≤16777216):Bi Tryz.prog 96 [.agg g.c,.one (vi op)] [.agg (R9 g op).1.c,.one (vb (R9 g op).2)]:=by
 have hl:g.nodes.length≤16777216:=by simp only [Ao.w,wS] at hg;omega
 refine Bd A0 false Tryz.func96 rfl Aw fun W=>?_
 conv=>whnf
 (repeat refine Am ?_)
 refine Az (Ep op 0 (g.nodes.length-1)) rfl (A8 ?_)
 by_cases h1:Eb op 0 (g.nodes.length-1)=true
 ·have h2:=Go.Sx.Au.1 h1
  have hk:op.toNat<g.nodes.length:=by omega
  have hw:=B4p hg op hk
  have ho:(Ak g op).outs.length≤16777216:=by simp only [An.w] at hw;omega
  rw [h1,R9,if_pos h1]
  repeat refine B7 ?_
  (repeat refine Am ?_)
  refine Av A0 rfl rfl rfl rfl rfl rfl rfl rfl rfl rfl rfl (Ap (Ak g op).outs) (Cc) (fun _=>R0 _) (by (simp only [Ak] at ho;omega)) (A8 ?_)
  repeat refine B7 ?_
  refine B2 A0 rfl rfl ?_
  exact At
 have h3:Eb op 0 (g.nodes.length-1)=false:=by simpa using h1
 rw [h3,R9,if_neg h1]
 repeat refine B7 ?_
 refine B2 A0 rfl rfl ?_
 exact At
theorem A4o {x:A6}{n:Nat}(h:x.w≤n):x.graph.w≤n:=by simp only [A6.w] at h;omega
def Mn (k v:Int):Prop:=(0≤k∧k≤99)∧(0≤v∧v≤999)
instance (k v:Int):Decidable (Mn k v):=by unfold Mn;infer_instance
def C8 (x:An) (k v:Int):Int×Int×Bool:=
 if Jd x∧Mn k v then
  (if x.kind=2 then (k,if v+x.a<999 then v+x.a else 999,true)
  else if x.kind=4 then ((k+x.a).tmod 100,v,true)
  else if x.kind=3 then (k,v,k.tmod x.a==x.b)
  else (k,v,x.kind !=8))
 else (k,v,false)
def D8 (s:Bs):Bs×Bool:=if Dp s=true∧s.turn<6 then (⟨s.epoch,s.turn+1⟩,true) else (s,false)
def Kg (g:Ao) (r:A9):Prop:=Fa g∧H7 r∧r.op<g.nodes.length
instance (g:Ao) (r:A9):Decidable (Kg g r):=by unfold Kg;infer_instance
def Mk (g:Ao) (r:A9):List A9:=
 if (Ak g r.op).kind=7∧(D8 r.stamp).2=false then []
 else (Ak g r.op).outs.map fun k=>⟨k,if (Ak g r.op).kind=7 then (D8 r.stamp).1 else r.stamp,(C8 (Ak g r.op) r.key r.val).1,(C8 (Ak g r.op) r.key r.val).2.1⟩
def Fs (r:A9):Be:=⟨r.op,r.stamp.epoch,r.key,r.val⟩
def Er (g:Ao) (cs:List Be) (r:A9):List Be×List A9×Bool:=
 if Kg g r then
  (if (C8 (Ak g r.op) r.key r.val).2.2=false∧(Ak g r.op).kind≠8 then (cs,[],true)
  else if (Do (Ak g r.op).kind cs (Fs r)).2=false then ((Do (Ak g r.op).kind cs (Fs r)).1,[],true)
  else ((Do (Ak g r.op).kind cs (Fs r)).1,Mk g r,true))
 else (cs,[],false)
def capped (g:Ao) (r:A9):Bool:=decide (Kg g r∧(Ak g r.op).kind=7∧(Ak g r.op).outs.length>0∧(D8 r.stamp).2=false)
def Zr (l:B8) (r:A9):Prop:=Fq l∧H7 r∧l.credits≠0∧l.sent≠1000000000
instance (l:B8) (r:A9):Decidable (Zr l r):=by unfold Zr;infer_instance
def Cl (l:B8) (r:A9):B8×Bool:=if Zr l r then (⟨l.cap,l.queue++[r],l.credits-1,l.back,l.sent+1,l.got⟩,true) else (l,false)
def C3 (l:B8):B8×A9×Bool:=
 if Fq l∧0<l.queue.length then (⟨l.cap,l.queue.drop 1,l.credits,l.back+1,l.sent,l.got+1⟩,l.queue.getD 0 default,true) else (l,default,false)
def D3 (l:B8):B8×Bool:=if Fq l∧l.back≠0 then (⟨l.cap,l.queue,l.credits+1,l.back-1,l.sent,l.got⟩,true) else (l,false)
def O3 (g:Ao) (w:Ac):Prop:=Fa g∧Cs g.nodes.length w∧w.staged.length=0∧0<w.queue.length
instance (g:Ao) (w:Ac):Decidable (O3 g w):=by unfold O3;infer_instance
def I7 (g:Ao) (w:Ac):Ac:=
 ⟨w.queue.drop 1,(Er g w.cells (w.queue.getD 0 default)).2.1,w.inputs,(Er g w.cells (w.queue.getD 0 default)).1,w.sums,w.black,if capped g (w.queue.getD 0 default)=true then w.caps.set (w.queue.getD 0 default).stamp.epoch.toNat true else w.caps,w.dones⟩
def Fc (g:Ao) (w:Ac):Ac×Bool:=if O3 g w then (I7 g w,true) else (w,false)
def Kw (g:Ao) (w:Ac):Prop:=Fa g∧Cs g.nodes.length w∧w.staged.length=0∧w.queue.length=0∧0<w.inputs.length
instance (g:Ao) (w:Ac):Decidable (Kw g w):=by unfold Kw;infer_instance
def Iw (w:Ac):Ac:=⟨w.queue++[w.inputs.getD 0 default],w.staged,w.inputs.drop 1,w.cells,w.sums,w.black,w.caps,w.dones⟩
def Dd (g:Ao) (w:Ac):Ac×Bool:=if Kw g w then (Iw w,true) else (w,false)
def E7 (w:Ac):Ac:=⟨w.queue,w.staged.drop 1,w.inputs,w.cells,w.sums,w.black,w.caps,w.dones⟩
def Hf (w:Ac):Ac×A9×Bool:=if 0<w.staged.length then (E7 w,w.staged.getD 0 default,true) else (w,default,false)
def kept (w:Ac) (r:A9):Ac:=⟨w.queue++[r],w.staged,w.inputs,w.cells,w.sums,w.black,w.caps,w.dones⟩
def F4 (w:Ac) (e n:Int):Ac:=⟨w.queue,w.staged,w.inputs,w.cells,w.sums.set e.toNat (w.sums.getD e.toNat default+n),w.black,w.caps,w.dones⟩
def I0 (w:Ac) (e:Int):Ac:=⟨w.queue,w.staged,w.inputs,w.cells,w.sums,w.black.set e.toNat true,w.caps,w.dones⟩
def Ea (w:Ac) (r:A9):Ac:=
 if 0≤r.stamp.epoch∧r.stamp.epoch<w.sums.length∧r.stamp.epoch<w.black.length then I0 (F4 (kept w r) r.stamp.epoch (-1)) r.stamp.epoch else kept w r
def Hc (w:Ac) (e:Int):Ac:=if 0≤e∧e<w.sums.length then F4 w e 1 else w
def Cb (c:A6) (k:Int) (l:B8):A6:=⟨c.graph,c.workers,c.links.set k.toNat l,c.tokens,c.news⟩
def Bz (c:A6) (k:Int):B8:=c.links.getD k.toNat default
def Gp (c:A6) (w:Int):Prop:=B4 c∧0≤w∧w<c.workers.length
instance (c:A6) (w:Int):Decidable (Gp c w):=by unfold Gp;infer_instance
def E5 (c:A6) (w:Int):A6×Bool:=if Gp c w then (Bc c w (Fc c.graph (Af c w)).1,(Fc c.graph (Af c w)).2) else (c,false)
def Dn (c:A6) (w:Int):A6×Bool:=if Gp c w then (Bc c w (Dd c.graph (Af c w)).1,(Dd c.graph (Af c w)).2) else (c,false)
def Bf (c:A6) (w:Int):A9:=(Af c w).staged.getD 0 default
def Bb (c:A6) (w:Int):Int:=Eo (Bf c w).key c.graph.workers
def Ay (c:A6) (f t:Int):Int:=f * c.graph.workers+t
def Ce (c:A6) (w:Int):A6×Bool:=
 if Gp c w∧0<(Af c w).staged.length then
  (if Bb c w=w then (Bc c w (kept (E7 (Af c w)) (Bf c w)),true)
  else if (Cl (Bz c (Ay c w (Bb c w))) (Bf c w)).2=true then
   (Bc (Cb c (Ay c w (Bb c w)) (Cl (Bz c (Ay c w (Bb c w))) (Bf c w)).1) w (Hc (E7 (Af c w)) (Bf c w).stamp.epoch),true)
  else (c,false))
 else (c,false)
def Lg (c:A6) (f t:Int):Prop:=B4 c∧f≠t∧(0≤f∧f<c.graph.workers)∧(0≤t∧t<c.graph.workers)
instance (c:A6) (f t:Int):Decidable (Lg c f t):=by unfold Lg;infer_instance
def D9 (c:A6) (f t:Int):A6×Bool:=
 if Lg c f t∧(C3 (Bz c (Ay c f t))).2.2=true then
  (Bc (Cb c (Ay c f t) (C3 (Bz c (Ay c f t))).1) t (Ea (Af c t) (C3 (Bz c (Ay c f t))).2.1),true)
 else (c,false)
def Dl (c:A6) (f t:Int):A6×Bool:=
 if Lg c f t then (Cb c (Ay c f t) (D3 (Bz c (Ay c f t))).1,(D3 (Bz c (Ay c f t))).2) else (c,false)
def Ky (w:Int) (x:Fm):Bool:=x.to_==w
def P5 (c:A6) (w:Int):Nat:=Gs (Ky w) c.news
def Kq (c:A6) (w:Int):A6:=⟨c.graph,c.workers,c.links,c.tokens,c.news.eraseIdx (P5 c w)⟩
def Gg (c:A6) (w:Int):Fm:=c.news.getD (P5 c w) default
def Dw (c:A6) (w:Int):A6×Bool:=
 if B4 c∧c.news.any (Ky w)=true then
  (if G0 (Af c w) (Gg c w).epoch=true then Kq c w else Bc (Kq c w) w (Gr (Af c w) ⟨(Gg c w).epoch,(Gg c w).capped⟩),true)
 else (c,false)
def As (c:A6) (p:D5):A6×Bool:=
 if p.kind=1 then E5 c p.a else if p.kind=2 then Dn c p.a else if p.kind=3 then Ce c p.a else if p.kind=4 then D9 c p.a p.b
 else if p.kind=5 then Dl c p.a p.b else if p.kind=6 then Cq c p.a else if p.kind=7 then Dw c p.a else (c,false)
def Gh (s:A6×List Bool) (p:D5):A6×List Bool:=((As s.1 p).1,s.2++[(As s.1 p).2])
def Bk (c:A6) (l:List D5):A6×List Bool:=l.foldl Gh (c,[])
def Hb (c:A6):Nat:=(Ed c.graph.workers 0 4).toNat
def Cp (c:A6):A6×Nat:=((Bk c (Qv (Hb c))).1,((Bk c (Qv (Hb c))).2.filter id).length)
def Dz:Nat→A6→A6×Nat
 | 0,c=>(c,0)
 |n+1,c=>if (Cp c).2=0 then ((Cp c).1,1) else ((Dz n (Cp c).1).1,(Dz n (Cp c).1).2+1)
def Vz (g:Ao) (l:List A9):Prop:=Fa g∧l.length≤20∧∀r∈l,H7 r∧r.op=0∧r.stamp.turn=0
instance (g:Ao) (l:List A9):Decidable (Vz g l):=by unfold Vz;infer_instance
def A24 (n:Int) (l:List A9) (w:Nat):List A9:=(List.range 4).flatMap fun (e:Nat)=>(Gz l e).filter fun r=>Eo r.key n==w
def Gk (n:Int):B8:=⟨Ed n 1 4,[],Ed n 1 4,0,0,0⟩
def E4 (n:Int) (l:List A9) (k:Nat):List Ac:=(List.range k).map fun w=>⟨[],[],A24 n l w,[],List.replicate 4 0,List.replicate 4 false,List.replicate 4 false,[]⟩
def Ns:A6:=⟨⟨[],0,0⟩,[],[],[],[]⟩
def Ca (g:Ao) (l:List A9):A6×Bool:=
 if Vz g l then (⟨g,E4 g.workers l g.workers.toNat,List.replicate (g.workers.toNat * g.workers.toNat) (Gk g.cap),List.replicate 4 default,[]⟩,true) else (Ns,false)
theorem Ku (n lo hi:Int):Bi Tryz.prog 59 [.one (vi n),.one (vi lo),.one (vi hi)] [.one (vi (Ed n lo hi))]:=by
 refine Bd A0 false Tryz.func59 rfl Aw fun W=>?_
 conv=>whnf
 repeat' (first|(refine Oo ?_;conv=>whnf)|(refine Oq ?_;conv=>whnf)|(refine ⟨fun h=>?_,fun h=>?_⟩<;>conv=>whnf)|(refine B2 A0 rfl rfl ⟨?_,trivial⟩;conv=>whnf)|(refine Gl ?_;conv=>whnf)|fail)
 all_goals (refine congrArg vi ?_;simp only [decide_eq_true_eq,decide_eq_false_iff_not] at *;unfold Ed;repeat' split)<;>first|contradiction|omega
end Go.Proofs.YtdendlkeiaccpaaGreat
