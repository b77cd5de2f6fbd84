/- Part 8 of the proof that each of the laws FnTotals returns true for every input. No conditions. -/
import Derived.Test.YtdendlkeiaccpaaGreatP7

set_option linter.unusedSimpArgs false
set_option linter.unusedVariables false
set_option maxRecDepth 100000
namespace Go.Proofs.YtdendlkeiaccpaaGreat
open Go.Sx
theorem J5 (x y:Int):Bi Tryz.prog 138 [.one (vi x),.one (vi y)] [.one (vi (Fu x y))]:=by
 refine Bd A0 false Tryz.func138 rfl Aw fun W=>?_
 conv=>whnf
 refine Es (fun h1=>?_) fun h1=>?_<;>conv=>whnf
 ·have e:Fu x y= -1:=if_pos Ab
  repeat refine B7 ?_
  rw [e]
  refine B2 A0 rfl rfl ?_
  exact At
 repeat refine B7 ?_
 refine Es (fun h2=>?_) fun h2=>?_<;>conv=>whnf
 ·have e:Fu x y=1:=by unfold Fu;rw [if_neg Ab,if_pos Ab]
  repeat refine B7 ?_
  rw [e]
  refine B2 A0 rfl rfl ?_
  exact At
 have e:Fu x y=0:=by unfold Fu;rw [if_neg Ab,if_neg Ab]
 repeat refine B7 ?_
 rw [e]
 refine B2 A0 rfl rfl ?_
 exact At
theorem K5 (a b:Bs):Bi Tryz.prog 137 [.agg a.c,.agg b.c] [.one (vi (De a b))]:=by
 refine Bd A0 false Tryz.func137 rfl Aw fun W=>?_
 conv=>whnf
 refine Az (J5 a.epoch b.epoch) rfl (A8 ?_)
 refine ⟨fun h=>have h:=bne_iff_ne.1 h;?_,fun h=>have h:=bne_eq_false_iff_eq.1 h;?_⟩<;>conv=>whnf
 ·repeat refine B7 ?_
  rw [show De a b=Fu a.epoch b.epoch from if_pos h]
  refine B2 A0 rfl rfl ?_
  exact At
 repeat refine B7 ?_
 refine Az (J5 a.turn b.turn) rfl (A8 ?_)
 rw [show De a b=Fu a.turn b.turn from if_neg Ab]
 refine B2 A0 rfl rfl ?_
 exact At
abbrev A1a (a b:A9):List Int:=[De a.stamp b.stamp,Fu a.op b.op,Fu a.key b.key,Fu a.val b.val]
theorem B0s {a b:A9}{k:Nat}(hk:k<4)(h:∀i,i<k→(A1a a b).getD i default=0)(h0:(A1a a b).getD k default≠0):G2 a b=(A1a a b).getD k default:=by
 have e:k=0∨k=1∨k=2∨k=3:=by omega
 unfold G2
 rcases e with rfl|rfl|rfl|rfl
 ·exact if_pos h0
 ·rw [if_neg (fun p=>p (h 0 Aw))]
  exact if_pos h0
 ·rw [if_neg (fun p=>p (h 0 Aw)),if_neg (fun p=>p (h 1 Aw))]
  exact if_pos h0
 rw [if_neg (fun p=>p (h 0 Aw)),if_neg (fun p=>p (h 1 Aw)),if_neg (fun p=>p (h 2 Aw))]
 rfl
theorem A68 {a b:A9}(h:∀i,i<4→(A1a a b).getD i default=0):G2 a b=0:=by
 unfold G2
 rw [if_neg (fun p=>p (h 0 Aw)),if_neg (fun p=>p (h 1 Aw)),if_neg (fun p=>p (h 2 Aw))]
 exact h 3 Aw
theorem A7o {p:Nat→Prop}{k:Nat}(h:∀i,i<k→p i)(hk:p k):∀i,i<k+1→p i:=fun i hi=>by
 by_cases e:i=k
 ·subst e;exact hk
 exact h i Ab
theorem Sp (a b:A9):Bi Tryz.prog 102 [.agg a.c,.agg b.c] [.one (vi (G2 a b))]:=by
 refine Bd A0 false Tryz.func102 rfl Aw fun W=>?_
 conv=>whnf
 first|(refine B5 1 rfl [0,1,2,3,5,6,7,8,10,11,12,13,15,16,17,18,4,9,14,19,20,21] A7 (A8 ?_))
 refine Az (K5 a.stamp b.stamp) rfl (A8 ?_)
 refine Az (J5 a.op b.op) rfl (A8 ?_)
 refine Az (J5 a.key b.key) rfl (A8 ?_)
 refine Az (J5 a.val b.val) rfl (A8 ?_)
 refine Dv 2 (Ap (A1a a b)) rfl (Ba rfl Cf) ?_
 refine Bv A0 false [] (fun k:Nat=>[(6,.c (vi k))]) (fun k=>[⟨1,[.c (vi b.op),.c (vi b.stamp.epoch),.c (vi b.stamp.turn),.c (vi b.key),.c (vi b.val)]⟩,⟨0,[.c (vi a.op),.c (vi a.stamp.epoch),.c (vi a.stamp.turn),.c (vi a.key),.c (vi a.val)]⟩]) (fun k=>[⟨2,Ap (A1a a b)⟩])
  (fun k=>k≤4∧∀i,i<k→(A1a a b).getD i default=0) (fun k=>4-k) 0 ⟨Nat.zero_le _,by first|rfl|assumption|simp⟩ ⟨F3,trivial⟩ Cf ⟨F2,trivial⟩ Cj A7 (fun k hk=>?_)
 obtain ⟨hk,he⟩:=hk
 conv=>whnf
 refine Es (fun hlt=>?_) fun hlt=>?_<;>conv=>whnf
 ·have hlt:k<4:=by omega
  have hl4:k<(A1a a b).length:=hlt
  (repeat refine Am ?_)
  refine ⟨fun h0=>have h0:=bne_iff_ne.1 h0;?_,fun h0=>have h0:=bne_eq_false_iff_eq.1 h0;?_⟩<;>conv=>whnf
  ·repeat refine B7 ?_
   (repeat refine Am ?_)
   rw [B0s hlt he h0]
   refine B2 A0 rfl rfl ?_
   exact At
  repeat refine B7 ?_
  (repeat refine Am ?_)
  refine B6 [] (k+1) ⟨by omega,A7o he h0⟩ Ab ⟨rfl,trivial⟩ ⟨rfl,trivial⟩ Cf A7 Cj A7
 obtain rfl:k=4:=by omega
 repeat refine B7 ?_
 rw [A68 he]
 refine B2 A0 rfl rfl ?_
 exact At
theorem A0a {xs ys:List A9}(h:xs=ys):Ge (Aa xs) (Aa ys):=by
 subst h
 exact Pr (fun i _=>Fh.rfl' _)
structure JSo where
 k:Nat
 y:A9
set_option maxHeartbeats 4000000 in
theorem Sq (xs:List A9)(hx:xs.length≤16777216):Bi Tryz.prog 72 [.one (Aa xs)] [.one (Aa (Cv xs))]:=by
 refine Bd A0 false Tryz.func72 rfl Aw fun W=>?_
 conv=>whnf
 refine Av A0 rfl rfl rfl rfl rfl rfl rfl rfl rfl rfl rfl (Aa xs) (Cc) (fun _=>Cd xs) Ab (A8 ?_)
 refine Dv 1 (Aa (Cv (xs.take 1)++xs.drop 1)) rfl (A0a (A3h xs)) ?_
 refine Bv A0 false [5,6] (fun i:Nat=>[(4,.c (vi (i+1:Nat)))]) (fun i=>[]) (fun i=>[⟨1,Aa (Cv (xs.take (i+1))++xs.drop (i+1))⟩])
  (fun i=>i≤(xs.length-1)) (fun i=>(xs.length-1)-i) 0 (Nat.zero_le _) ⟨F3,trivial⟩ trivial ⟨F2,trivial⟩ Cj A7 (fun i hi=>?_)
 conv=>whnf
 have hl:(Cv (xs.take (i+1))).length=(xs.take (i+1)).length:=Gc _
 have hlen:(Cv (xs.take (i+1))++xs.drop (i+1)).length=xs.length:=by
  rw [List.length_append,Gc,List.length_take,List.length_drop]
  by_cases h0:xs.length=0
  ·omega
  omega
 refine Es (fun hlt=>?_) fun hlt=>?_<;>conv=>whnf
 ·have hlt:i+1<xs.length:=by omega
  have hSl:(Cv (xs.take (i+1))).length=i+1:=by rw [hl,List.length_take];omega
  have hat:(Cv (xs.take (i+1))++xs.drop (i+1)).getD (i+1) default=xs.getD (i+1) default:=by
   rw [Ul hlt]
   simp only [Lb,List.getD]
   rw [List.getElem?_append_right (by rw [List.length_take];omega),List.length_take,hSl,Nat.min_self,Nat.sub_self]
   rfl
  (repeat refine Am ?_)
  refine Dv 1 (Aa (Lb (Cv (xs.take (i+1))) (xs.drop (i+1+1)) (i+1) (xs.getD (i+1) default))) rfl (A0a (Ul hlt)) ?_
  rw [Int.toNat_natCast,hat]
  have hend:=fun k=>B0e (k:=k) hlt
  have hnil:(Cv (xs.take (i+1))).drop (i+1)=[]:=List.drop_of_length_le Ab
  have hRl:(xs.drop (i+1+1)).length=xs.length-(i+1+1):=List.length_drop
  generalize Cv (xs.take (i+1))=S at *
  generalize hR:xs.drop (i+1+1)=R at *
  generalize xs.getD (i+1) default=x at *
  conv=>whnf
  refine Bv A0 false [] (fun j:JSo=>[(6,.c (vi j.k))]) (fun j=>[⟨2,[.c (vi x.op),.c (vi x.stamp.epoch),.c (vi x.stamp.turn),.c (vi x.key),.c (vi x.val)]⟩]) (fun j=>[⟨1,Aa (Lb S R j.k j.y)⟩]) (fun j=>j.k≤i+1∧∀z∈S.drop j.k,Ia x z=true) (fun j=>j.k) (⟨i+1,x⟩) (⟨Nat.le_refl _,fun z hz=>by rw [hnil] at hz;cases hz⟩) ⟨F3,trivial⟩ Cf ⟨F2,trivial⟩ Cj A7 (fun j hj=>?_)
  conv=>whnf
  obtain ⟨hk,hA⟩:=hj
  have hol:=B0g (S:=S) (R:=R) (k:=j.k) (y:=j.y) Ab
  first|(refine B5 7 rfl [0,1,2,3,4,5,6,7,8,9,10,11] A7 (A8 ?_))
  refine ⟨fun hg=>?_,fun hg=>?_⟩<;>conv=>whnf
  ·have hg:0<j.k:=by have:=of_decide_eq_true hg;omega
   have hget:=B0f (S:=S) (R:=R) (y:=j.y) hg Ab
   have ek:((j.k:Int)-1).toNat=j.k-1:=by omega
   repeat refine B7 ?_
   rw [ek,hget]
   refine Az (Sp x (S.getD (j.k-1) default)) rfl (A8 ?_)
   repeat refine B7 ?_
   refine ⟨fun hc=>?_,fun hc=>?_⟩<;>conv=>whnf
   ·have hc:Ia x (S.getD (j.k-1) default)=true:=hc
    repeat refine B7 ?_
    rw [ek,hget]
    refine Al (j:=(j.k:Int)) A0 rfl rfl rfl rfl rfl rfl rfl rfl (Aa ((Lb S R j.k j.y).set j.k (S.getD (j.k-1) default))) (C0 (by rw [Int.toNat_natCast];omega) rfl) (A8 ?_)
    rw [Uk Ab,A63 hg Ab]
    (repeat refine Am ?_)
    refine B6 [] (⟨j.k-1,S.getD (j.k-1) default⟩) (⟨by show j.k-1≤i+1;omega,A6a hg Ab hA hc⟩) (by show j.k-1<j.k;omega) ⟨congrArg (fun n=>AV.c (vi n)) (show (j.k:Int)-1=((j.k-1:Nat):Int) by omega),trivial⟩ ⟨rfl,trivial⟩ Cf A7 Cj A7
   have hc:Ia x (S.getD (j.k-1) default)=false:=hc
   repeat refine B7 ?_
   refine Al (j:=(j.k:Int)) A0 rfl rfl rfl rfl rfl rfl rfl rfl (Aa ((Lb S R j.k j.y).set j.k x)) (C0 (by rw [Int.toNat_natCast];omega) rfl) (A8 ?_)
   rw [Uk Ab,hend j.k hk (.inr hc) hA]
   (repeat refine Am ?_)
   refine B6 [] (i+1) Ab Ab ⟨rfl,trivial⟩ ⟨congrArg (fun l=>Aa (Cv (xs.take (i+1+1))++l)) hR.symm,trivial⟩ trivial A7 Cj A7
  have hg:j.k=0:=by have:=of_decide_eq_false hg;omega
  repeat refine B7 ?_
  refine Al (j:=(j.k:Int)) A0 rfl rfl rfl rfl rfl rfl rfl rfl (Aa ((Lb S R j.k j.y).set j.k x)) (C0 (by rw [Int.toNat_natCast];omega) rfl) (A8 ?_)
  rw [Uk Ab,hend j.k hk (.inl hg) hA]
  (repeat refine Am ?_)
  refine B6 [] (i+1) Ab Ab ⟨rfl,trivial⟩ ⟨congrArg (fun l=>Aa (Cv (xs.take (i+1+1))++l)) hR.symm,trivial⟩ trivial A7 Cj A7
 have e:Cv (xs.take (i+1))++xs.drop (i+1)=Cv xs:=by
  rw [List.take_of_length_le Ab,List.drop_of_length_le Ab,List.append_nil]
 rw [e]
 repeat refine B7 ?_
 refine B2 A0 rfl rfl ?_
 exact At
theorem A47 (x:A6)(k:Nat)(h:x.w≤16777216)(hk:k<x.workers.length):((x.workers.take k).flatMap Kc).length+(x.workers.getD k default).queue.length+(x.workers.getD k default).staged.length≤16777216:=by
 have h1:=Jp Kc x.workers k hk
 have h2:=Q3 Kc x.workers (k+1)
 have h3:=Na x
 have h4:(Kc (x.workers.getD k default)).length=(x.workers.getD k default).queue.length+(x.workers.getD k default).staged.length:=List.length_append
 rw [h1,List.length_append] at h2
 omega
theorem A06 (x:A6)(k:Nat)(h:x.w≤16777216)(hk:k<x.links.length):(x.workers.flatMap Kc).length+((x.links.take k).flatMap (fun l=>l.queue)).length+(x.links.getD k default).queue.length≤16777216:=by
 have h1:=Jp (fun l:B8=>l.queue) x.links k hk
 have h2:=Q3 (fun l:B8=>l.queue) x.links (k+1)
 have h3:=Na x
 rw [h1,List.length_append] at h2
 omega
set_option maxHeartbeats 4000000 in
theorem K4 (x:A6)(h:x.w≤16777216):Bi Tryz.prog 41 [.agg x.c] [.one (Aa (Dc x))]:=by
 have hl:=A6.workers_le h
 have hk2:=A6.links_le h
 refine Bd A0 false Tryz.func41 rfl Aw fun W=>?_
 conv=>whnf
 refine Dv 1 (Aa []) rfl (Ba rfl Cf) ?_
 refine Bv A0 false [6] (fun k:Nat=>[(4,.c (vi k))]) (fun k=>[⟨0,[.c (Br x.graph.nodes),.c (vi x.graph.workers),.c (vi x.graph.cap),.c (Ar x.workers),.c (Ct x.links),.c (C9 x.tokens),.c (Ch x.news)]⟩]) (fun k=>[⟨1,Aa ((x.workers.take k).flatMap Kc)⟩])
  (fun k=>k≤x.workers.length) (fun k=>x.workers.length-k) 0 (Nat.zero_le _) ⟨F3,trivial⟩ Cf ⟨F2,trivial⟩ Cj A7 (fun k hk=>?_)
 conv=>whnf
 refine Es (fun h'=>?_) fun h'=>?_<;>conv=>whnf
 ·have h':k<x.workers.length:=by omega
  have hb:=A47 x k h h'
  refine Je rfl ?_
  refine Bu A0 false 0 rfl rfl A7 rfl (A4 B1) ?_
  refine Bu A0 false 1 rfl rfl A7 rfl (A4 B1) ?_
  refine Bu A0 false 3 rfl rfl A7 rfl (A4 B1) ?_
  refine Bu A0 false 8 rfl rfl A7 rfl (A4 B1) ?_
  refine Bu A0 false 10 rfl rfl A7 rfl (A4 B1) ?_
  refine Dt (s':=?_) 2 rfl A7 ?_ ?_
  rotate_left
  refine A8 ?_
  (repeat refine Am ?_)
  exact Bh
  refine Dt (s':=?_) 4 rfl A7 ?_ ?_
  rotate_left
  refine A8 ?_
  (repeat refine Am ?_)
  exact Bh
  refine Bu A0 false 5 rfl rfl A7 rfl (A4 B1) ?_
  refine Dt (s':=?_) 6 rfl A7 ?_ ?_
  rotate_left
  refine A8 ?_
  (repeat refine Am ?_)
  exact Bh
  refine Ek [7,9] A7 ⟨?_,?_,trivial⟩
  focus
   refine A8 ?_
   refine Av A0 rfl rfl rfl rfl rfl rfl rfl rfl rfl rfl rfl (Aa ((x.workers.take k).flatMap Kc++(x.workers.getD k default).queue)) (F8 5 A9.c ((x.workers.take k).flatMap Kc) (x.workers.getD k default).queue) (fun _=>Cd _) (by (simp only [Int.toNat_natCast];omega)) (A8 ?_)
   refine Eu ?_
   refine Dt (s':=?_) 9 rfl A7 ?_ ?_
   rotate_left
   refine A8 ?_
   (repeat refine Am ?_)
   exact Bh
   refine Dt (s':=?_) 11 rfl A7 ?_ ?_
   rotate_left
   refine A8 ?_
   (repeat refine Am ?_)
   exact Bh
   refine Bu A0 false 12 rfl rfl A7 rfl (A4 B1) ?_
   refine Dt (s':=?_) 13 rfl A7 ?_ ?_
   rotate_left
   refine A8 ?_
   (repeat refine Am ?_)
   exact Bh
   refine Ek [14] A7 ⟨?_,trivial⟩
   refine A8 ?_
   refine Av A0 rfl rfl rfl rfl rfl rfl rfl rfl rfl rfl rfl (Aa ((x.workers.take k).flatMap Kc++(x.workers.getD k default).queue++(x.workers.getD k default).staged)) (F8 5 A9.c ((x.workers.take k).flatMap Kc++(x.workers.getD k default).queue) (x.workers.getD k default).staged) (fun _=>Cd _) (by (rw [List.length_append];simp only [Int.toNat_natCast];omega)) (A8 ?_)
   refine Eu ?_
   refine Bu A0 false 15 rfl rfl A7 rfl (A4 B1) ?_
   refine Mj A7 (A8 ?_)
  rotate_left 1
  focus
   refine A8 ?_
   (repeat refine Am ?_)
   refine Eu ?_
   refine Ek [7,11] A7 ⟨?_,?_,trivial⟩
   focus
    refine A8 ?_
    refine Av A0 rfl rfl rfl rfl rfl rfl rfl rfl rfl rfl rfl (Aa ((x.workers.take k).flatMap Kc++(x.workers.getD k default).queue)) (F8 5 A9.c ((x.workers.take k).flatMap Kc) (x.workers.getD k default).queue) (fun _=>Cd _) (by (simp only [Int.toNat_natCast];omega)) (A8 ?_)
    refine Eu ?_
    refine Dt (s':=?_) 11 rfl A7 ?_ ?_
    rotate_left
    refine A8 ?_
    (repeat refine Am ?_)
    exact Bh
    refine Bu A0 false 12 rfl rfl A7 rfl (A4 B1) ?_
    refine Dt (s':=?_) 13 rfl A7 ?_ ?_
    rotate_left
    refine A8 ?_
    (repeat refine Am ?_)
    exact Bh
    refine Ek [14] A7 ⟨?_,trivial⟩
    refine A8 ?_
    refine Av A0 rfl rfl rfl rfl rfl rfl rfl rfl rfl rfl rfl (Aa ((x.workers.take k).flatMap Kc++(x.workers.getD k default).queue++(x.workers.getD k default).staged)) (F8 5 A9.c ((x.workers.take k).flatMap Kc++(x.workers.getD k default).queue) (x.workers.getD k default).staged) (fun _=>Cd _) (by (rw [List.length_append];simp only [Int.toNat_natCast];omega)) (A8 ?_)
    refine Eu ?_
    refine Bu A0 false 15 rfl rfl A7 rfl (A4 B1) ?_
    refine Mj A7 (A8 ?_)
   rotate_left 1
   focus
    refine A8 ?_
    (repeat refine Am ?_)
    refine Eu ?_
    refine Bu A0 false 12 rfl rfl A7 rfl (A4 B1) ?_
    refine Ek [7,13] A7 ⟨?_,?_,trivial⟩
    focus
     refine A8 ?_
     refine Av A0 rfl rfl rfl rfl rfl rfl rfl rfl rfl rfl rfl (Aa ((x.workers.take k).flatMap Kc++(x.workers.getD k default).queue)) (F8 5 A9.c ((x.workers.take k).flatMap Kc) (x.workers.getD k default).queue) (fun _=>Cd _) (by (simp only [Int.toNat_natCast];omega)) (A8 ?_)
     refine Eu ?_
     refine Dt (s':=?_) 13 rfl A7 ?_ ?_
     rotate_left
     refine A8 ?_
     (repeat refine Am ?_)
     exact Bh
     refine Ek [14] A7 ⟨?_,trivial⟩
     refine A8 ?_
     refine Av A0 rfl rfl rfl rfl rfl rfl rfl rfl rfl rfl rfl (Aa ((x.workers.take k).flatMap Kc++(x.workers.getD k default).queue++(x.workers.getD k default).staged)) (F8 5 A9.c ((x.workers.take k).flatMap Kc++(x.workers.getD k default).queue) (x.workers.getD k default).staged) (fun _=>Cd _) (by (rw [List.length_append];simp only [Int.toNat_natCast];omega)) (A8 ?_)
     refine Eu ?_
     refine Bu A0 false 15 rfl rfl A7 rfl (A4 B1) ?_
     refine Mj A7 (A8 ?_)
    rotate_left 1
    focus
     refine A8 ?_
     (repeat refine Am ?_)
     refine Eu ?_
     refine Ek [7] A7 ⟨?_,trivial⟩
     refine A8 ?_
     refine Av A0 rfl rfl rfl rfl rfl rfl rfl rfl rfl rfl rfl (Aa ((x.workers.take k).flatMap Kc++(x.workers.getD k default).queue)) (F8 5 A9.c ((x.workers.take k).flatMap Kc) (x.workers.getD k default).queue) (fun _=>Cd _) (by (simp only [Int.toNat_natCast];omega)) (A8 ?_)
     refine Eu ?_
     refine Ek [14] A7 ⟨?_,trivial⟩
     refine A8 ?_
     refine Av A0 rfl rfl rfl rfl rfl rfl rfl rfl rfl rfl rfl (Aa ((x.workers.take k).flatMap Kc++(x.workers.getD k default).queue++(x.workers.getD k default).staged)) (F8 5 A9.c ((x.workers.take k).flatMap Kc++(x.workers.getD k default).queue) (x.workers.getD k default).staged) (fun _=>Cd _) (by (rw [List.length_append];simp only [Int.toNat_natCast];omega)) (A8 ?_)
     refine Eu ?_
     refine Bu A0 false 15 rfl rfl A7 rfl (A4 B1) ?_
     refine Mj A7 (A8 ?_)
  all_goals
   (repeat refine Am ?_)
   refine B6 [(1,3)] (k+1) Ab Ab ⟨rfl,trivial⟩ ⟨congrArg Aa (by rw [Jp Kc x.workers k h',List.append_assoc];rfl),trivial⟩ Cf A7 Cj A7
 obtain rfl:k=x.workers.length:=by omega
 rw [List.take_length]
 (repeat refine Am ?_)
 refine Bv A0 false [6] (fun j:Nat=>[(5,.c (vi j))]) (fun j=>[⟨0,[.c (Br x.graph.nodes),.c (vi x.graph.workers),.c (vi x.graph.cap),.c (Ar x.workers),.c (Ct x.links),.c (C9 x.tokens),.c (Ch x.news)]⟩]) (fun j=>[⟨1,Aa (x.workers.flatMap Kc++(x.links.take j).flatMap (fun l=>l.queue))⟩])
  (fun j=>j≤x.links.length) (fun j=>x.links.length-j) 0 (Nat.zero_le _) ⟨F3,trivial⟩ Cf ⟨F2,trivial⟩ Cj A7 (fun j hj=>?_)
 conv=>whnf
 refine Es (fun h'=>?_) fun h'=>?_<;>conv=>whnf
 ·have h':j<x.links.length:=by omega
  have hb:=A06 x j h h'
  (repeat refine Am ?_)
  refine Av A0 rfl rfl rfl rfl rfl rfl rfl rfl rfl rfl rfl (Aa (x.workers.flatMap Kc++(x.links.take j).flatMap (fun l=>l.queue)++(x.links.getD j default).queue)) (F8 5 A9.c (x.workers.flatMap Kc++(x.links.take j).flatMap (fun l=>l.queue)) (x.links.getD j default).queue) (fun _=>Cd _) (by (rw [List.length_append];simp only [Int.toNat_natCast];omega)) (A8 ?_)
  (repeat refine Am ?_)
  refine B6 [(1,2)] (j+1) Ab Ab ⟨rfl,trivial⟩ ⟨congrArg Aa (by rw [Jp (fun l:B8=>l.queue) x.links j h',List.append_assoc]),trivial⟩ Cf A7 Cj A7
 obtain rfl:j=x.links.length:=by omega
 rw [List.take_length,←I5]
 have hpw:=Na x
 have hpl:(I4 x).length≤x.w:=by rw [I5,List.length_append];exact hpw
 (repeat refine Am ?_)
 rw [show Dc x=Cv (I4 x) from rfl]
 refine Cx (Sq (I4 x) Ab) rfl (A8 ?_)
 refine B2 A0 rfl rfl ?_
 exact At
end Go.Proofs.YtdendlkeiaccpaaGreat
