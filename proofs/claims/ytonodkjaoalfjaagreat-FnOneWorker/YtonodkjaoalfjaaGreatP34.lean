/- Part 34 of the proof that each of the laws FnOneWorker returns true for every input. No conditions. -/
import Derived.Test.YtonodkjaoalfjaaGreatP28
import Derived.Test.YtonodkjaoalfjaaGreatP33
import Derived.Test.YtonodkjaoalfjaaGreatP19
import Derived.Test.YtonodkjaoalfjaaGreatP6
import Derived.Test.YtonodkjaoalfjaaGreatP5

set_option linter.unusedSimpArgs false
set_option linter.unusedVariables false
set_option maxRecDepth 100000
namespace Go.Proofs.YtonodkjaoalfjaaGreat
open Go.Sx
structure JFx where
 b:List A7
 l:List A7
set_option maxHeartbeats 4000000 in
theorem A16 (g:Ad)(e:Int)(ins:List A5)(hg:g.w≤16777216)(hG:E7 g)(hi:Uc ins)(he:0≤e∧e≤3)(hl:ins.length≤20):Ux Tryz.prog (fun _=>True) 66 [.agg g.c,.one (vi e),.one (Ax ins)] (fun best:List A7=>Si g ins e best []∧best.length≤800000) (fun best=>[.one (Ai best)]):=by
 refine B24 A0 false Tryz.func66 rfl Bu fun W hW=>?_
 conv=>whnf
 refine G4 1 (Ai []) rfl F8 ?_
 refine G4 2 (Ai []) rfl F8 ?_
 refine Bw A0 false [14] (fun k:Nat=>[(9,.c (vi k))]) (fun k=>[⟨0,[.c (Bp g.nodes),.c (vi g.workers),.c (vi g.cap)]⟩]) (fun k=>[⟨1,Ai []⟩,⟨2,Ai (Mc e (ins.take k))⟩])
  (fun k=>k≤ins.length) (fun k=>ins.length-k) 0 (Nat.zero_le _) ⟨by first|rfl|simp [Dl,ren2,ren1,ren0],trivial⟩ Dh ⟨by first|rfl|exact (congrArg (fun l=>Du _ _ l) (List.append_nil _)).symm|(show (_:A8)=_;simp)|simp,by first|rfl|exact (congrArg (fun l=>Du _ _ l) (List.append_nil _)).symm|(show (_:A8)=_;simp)|simp,trivial⟩ D0 Aa (fun k hk=>?_)
 conv=>whnf
 conv=>whnf
 refine G5 (fun h=>?_) fun h=>?_<;>conv=>whnf
 ·have h:k<ins.length:=by omega
  have hsl:=Xk e (ins.take k)
  have htl:=List.length_take_le k ins
  have hst:=A5c (e:=e) h
  (repeat refine Ar ?_)
  refine ⟨fun h1=>have h1:=eq_of_beq h1;?_,fun h1=>have h1:=beq_eq_false_iff_ne.1 h1;?_⟩<;>conv=>whnf
  ·repeat refine Bi ?_
   refine Aw (A19 (ins.getD k default)) rfl (Al ?_)
   repeat refine Bi ?_
   have h1:(ins.getD k default).stamp.epoch=e:=h1
   refine ⟨fun h2=>?_,fun h2=>?_⟩<;>conv=>whnf
   ·have hb:((ins.getD k default).stamp.epoch==e&&F9 (ins.getD k default))=true:=by rw [h1,h2,beq_self_eq_true];rfl
    rw [if_pos hb] at hst
    refine Dp A0 rfl rfl rfl rfl rfl rfl rfl rfl rfl rfl rfl (Ai (Mc e (ins.take k)++[⟨0,e,(ins.getD k default).key,(ins.getD k default).val⟩])) (Bf rfl) Kc Ac (Al ?_)
    (repeat refine Ar ?_)
    refine B5 [(2,5)] (k+1) Ac Ac ⟨rfl,trivial⟩ ⟨rfl,congrArg Ai hst.symm,trivial⟩ Dh Aa D0 Aa
   ·have hb:¬ ((ins.getD k default).stamp.epoch==e&&F9 (ins.getD k default))=true:=by rw [h2,Bool.and_false];decide
    rw [if_neg hb,List.append_nil] at hst
    repeat refine Bi ?_
    (repeat refine Ar ?_)
    refine B5 [] (k+1) Ac Ac ⟨rfl,trivial⟩ ⟨rfl,congrArg Ai hst.symm,trivial⟩ Dh Aa D0 Aa
  ·have h1:(ins.getD k default).stamp.epoch≠e:=h1
   have hb:¬ ((ins.getD k default).stamp.epoch==e&&F9 (ins.getD k default))=true:=by
    have:((ins.getD k default).stamp.epoch==e)=false:=beq_eq_false_iff_ne.2 h1
    rw [this,Bool.false_and];decide
   rw [if_neg hb,List.append_nil] at hst
   repeat refine Bi ?_
   (repeat refine Ar ?_)
   refine B5 [] (k+1) Ac Ac ⟨rfl,trivial⟩ ⟨rfl,congrArg Ai hst.symm,trivial⟩ Dh Aa D0 Aa
 ·have hk:k=ins.length:=by omega
  subst hk
  rw [List.take_length]
  have hs0:=Xk e ins
  have hu0:=B80 e []
  refine Bw A0 false [13,14] (fun j:JFx=>[]) (fun j=>[⟨0,[.c (Bp g.nodes),.c (vi g.workers),.c (vi g.cap)]⟩]) (fun j=>[⟨1,Ai j.b⟩,⟨2,Ai j.l⟩]) (fun j=>Si g ins e j.b j.l∧j.b.length+Zz e j.b≤800000∧3 * Zz e j.b+j.l.length≤2400020) (fun j=>3 * Zz e j.b+j.l.length) (⟨[],Mc e ins⟩) (⟨B1m hG hi,by show 0+Zz e []≤_;omega,by show 3 * Zz e []+(Mc e ins).length≤_;omega⟩) trivial Dh ⟨by first|rfl|exact (congrArg (fun l=>Du _ _ l) (List.append_nil _)).symm|(show (_:A8)=_;simp)|simp,by first|rfl|exact (congrArg (fun l=>Du _ _ l) (List.append_nil _)).symm|(show (_:A8)=_;simp)|simp,trivial⟩ D0 Aa (fun j hj=>?_)
  conv=>whnf
  obtain ⟨b,l⟩:=j
  obtain ⟨hFx,hb1,hm1⟩:Si g ins e b l∧b.length+Zz e b≤800000∧3 * Zz e b+l.length≤2400020:=hj
  refine ⟨fun h2=>?_,fun h2=>?_⟩<;>conv=>whnf
  ·have h2:0<l.length:=by have:=of_decide_eq_true h2;simp only at this;omega
   have hc:l=l.getD 0 default::l.drop 1:=by
    cases l with
    |nil=>exact absurd h2 (Nat.lt_irrefl 0)
    |cons x r=>rfl
   have hF2:=hFx
   rw [hc] at hF2
   have hF3:=B3a hG hi he hF2
   obtain ⟨hm2,hb2⟩:=B8c hG hi hF2
   have hlc:(l.getD 0 default::l.drop 1).length=l.length:=by rw [←hc]
   refine Jc rfl ?_
   refine Ct A0 false 1 rfl rfl Aa rfl (Af F3) ?_
   refine Ct A0 false 2 rfl rfl Aa rfl (Af F3) ?_
   refine Do (s':=?_) 0 rfl Aa ?_ ?_
   rotate_left
   refine go A0 false ?_
   conv=>whnf
   (repeat refine Ar ?_)
   exact Bd
   refine Do (s':=?_) 3 rfl Aa ?_ ?_
   rotate_left
   refine go A0 false ?_
   conv=>whnf
   (repeat refine Ar ?_)
   exact Bd
   refine Do (s':=?_) 4 rfl Aa ?_ ?_
   rotate_left
   refine go A0 false ?_
   conv=>whnf
   (repeat refine Ar ?_)
   exact Bd
   refine Cm [5] Aa ⟨?_,trivial⟩
   refine go A0 false ?_
   conv=>whnf
   refine B4 (A5a g b (l.getD 0 default) hg Ac) rfl (Al ?_)
   refine Cu ?_
   refine Ct A0 false 6 rfl rfl Aa rfl (Af F3) ?_
   refine Kj (s':=?_) 7 rfl Aa ?_ ?_
   rotate_left
   refine go A0 false ?_
   conv=>whnf
   (repeat refine Ar ?_)
   exact Bd
   refine Ct A0 false 9 rfl rfl Aa rfl (Af F3) ?_
   refine Kj (s':=?_) 8 rfl Aa ?_ ?_
   rotate_left
   refine go A0 false ?_
   conv=>whnf
   (repeat refine Ar ?_)
   exact Bd
   refine Ct A0 false 10 rfl rfl Aa rfl (Af F3) ?_
   refine Hu Aa (Al ?_)
   refine B5k A0 rfl rfl rfl rfl rfl rfl rfl rfl (l:=1) rfl rfl (⟨by omega,(show (1:Int)≤(l.length:Int) by omega),by omega⟩) (Ai (l.drop 1)) (Lf (k:=1) h2) (Al ?_)
   have hdl:(l.drop 1).length=l.length-1:=List.length_drop
   simp only [List.length_append] at hm2
   refine Dp A0 rfl rfl rfl rfl rfl rfl rfl rfl rfl rfl rfl (Ai (l.drop 1)) (Eh) (fun _=>Eu _) Ac (Al ?_)
   refine Dp A0 rfl rfl rfl rfl rfl rfl rfl rfl rfl rfl rfl (Ai (l.drop 1++(Eo g b (l.getD 0 default)).2)) (A14 _ _ _ _) (fun _=>Eu _) Ac (Al ?_)
   refine B5 [(1,3),(2,8)] (⟨(Eo g b (l.getD 0 default)).1,l.drop 1++(Eo g b (l.getD 0 default)).2⟩) (⟨hF3,by show (Eo g b (l.getD 0 default)).1.length+Zz e (Eo g b (l.getD 0 default)).1≤_;omega,by show 3 * Zz e (Eo g b (l.getD 0 default)).1+(l.drop 1++(Eo g b (l.getD 0 default)).2).length≤_;rw [List.length_append];omega⟩) ((by show 3 * Zz e (Eo g b (l.getD 0 default)).1+(l.drop 1++(Eo g b (l.getD 0 default)).2).length<3 * Zz e b+l.length;rw [List.length_append];omega)) trivial ⟨rfl,rfl,trivial⟩ Dh Aa D0 Aa
  ·have h2:¬ 0<l.length:=by have:=of_decide_eq_false h2;simp only at this;omega
   have hn:l=[]:=List.eq_nil_of_length_eq_zero Ac
   refine B92 b ⟨by rw [hn] at hFx;exact hFx,by omega⟩ ?_
   refine Ao A0 rfl rfl ?_
   exact Ca
theorem A2a (g:Ad)(e:Int)(ins:List A5)(hg:g.w≤16777216)(hG:E7 g)(hi:Uc ins)(he:0≤e∧e≤3)(hl:ins.length≤20):Ux Tryz.prog (fun _=>True) 13 [.agg g.c,.one (vi e),.one (Ax ins)] (fun l:List A7=>∃best,Si g ins e best []∧l=Ee g best∧l.length≤800000) (fun l=>[.one (Ai l)]):=by
 refine B24 A0 false Tryz.func13 rfl Bu fun W hW=>?_
 conv=>whnf
 refine Jc rfl ?_
 refine Ct A0 false 2 rfl rfl Aa rfl (Af F3) ?_
 refine Ct A0 false 3 rfl rfl Aa rfl (Af F3) ?_
 refine Do (s':=?_) 0 rfl Aa ?_ ?_
 rotate_left
 refine go A0 false ?_
 conv=>whnf
 (repeat refine Ar ?_)
 exact Bd
 refine Do (s':=?_) 1 rfl Aa ?_ ?_
 rotate_left
 refine go A0 false ?_
 conv=>whnf
 (repeat refine Ar ?_)
 exact Bd
 refine Cm [4] Aa ⟨?_,trivial⟩
 refine go A0 false ?_
 conv=>whnf
 refine B2l (A16 g e ins hg hG hi he hl) (fun _ _ _ _=>trivial) hW rfl (fun best hbest=>go A0 false ?_)
 conv=>whnf
 refine Cu ?_
 refine Cm [5] Aa ⟨?_,trivial⟩
 refine go A0 false ?_
 conv=>whnf
 refine B4 (Sc g best hg (by have:=hbest.2;omega)) rfl (Al ?_)
 refine Cu ?_
 refine Ct A0 false 6 rfl rfl Aa rfl (Af F3) ?_
 refine Hu Aa (Al ?_)
 all_goals
  obtain ⟨hb1,hb2⟩:=hbest
  refine B92 (Ee g best) ⟨best,hb1,rfl,Nat.le_trans (List.length_filter_le _ _) hb2⟩ ?_
  refine Ao A0 rfl rfl ?_
  exact Ca
theorem Ye (x:A3)(e:Int)(hx:x.w≤16000000)(he:0≤e∧e≤3)(hC:∀w∈x.workers,w.sums.length=4)(hs:∀w∈x.workers,-1000000≤Dx w e∧Dx w e≤1000000):B0 Tryz.prog 15 [.agg x.c,.one (vi e)] [.one (vi (Ep x e x.workers.length))]:=by
 have hl:=A3.workers_le hx
 have hb:∀k,k≤x.workers.length→ -(1000000 * (k:Int))≤Ep x e k∧Ep x e k≤1000000 * (k:Int):=by
  intro k
  induction k with
  |zero=>intro _;rw [Lz];omega
  |succ k ih=>
   intro hk
   have h1:=ih Ac
   have h2:=hs (wk x k) (Aq Ac)
   rw [Gs Ac]
   omega
 refine Ay A0 false Tryz.func15 rfl Bu fun W=>?_
 conv=>whnf
 refine Bw A0 false [] (fun k:Nat=>[(6,.c (vi k)),(5,.c (vi (Ep x e k)))]) (fun k=>[⟨0,[.c (Bp x.graph.nodes),.c (vi x.graph.workers),.c (vi x.graph.cap),.c (Be x.workers),.c (Dt x.links),.c (C0 x.tokens),.c (Ef x.news)]⟩]) (fun k=>[])
  (fun k=>k≤x.workers.length) (fun k=>x.workers.length-k) 0 (Nat.zero_le _) ⟨by first|rfl|simp [Dl,ren2,ren1,ren0],by first|rfl|simp [Dl,ren2,ren1,ren0],trivial⟩ Dh trivial D0 Aa (fun k hk=>?_)
 conv=>whnf
 conv=>whnf
 refine G5 (fun h=>?_) fun h=>?_<;>conv=>whnf
 ·have h:k<x.workers.length:=by omega
  have hm:x.workers.getD k default∈x.workers:=Aq h
  have h4:=hC _ hm
  have h5:=hs _ hm
  have h6:=hb k Ac
  have hsu:=Gs (e:=e) h
  (repeat refine Ar ?_)
  refine Aw (Jo e 0 ((x.workers.getD k default).sums.length-1)) rfl (Al ?_)
  repeat refine Bi ?_
  refine ⟨fun h7=>?_,fun h7=>?_⟩<;>conv=>whnf
  ·have hs6:Dx (x.workers.getD k default) e=(x.workers.getD k default).sums.getD e.toNat default:=rfl
   (repeat refine Ar ?_)
   have hs1:AV.c (vi (Ep x e k+(x.workers.getD k default).sums.getD e.toNat default))=AV.c (vi (Ep x e (k+1))):=congrArg (fun n=>AV.c (vi n)) hsu.symm
   refine B5 [] (k+1) Ac Ac ⟨rfl,hs1,trivial⟩ trivial Dh Aa D0 Aa
  ·exact absurd ⟨he.1,by omega⟩ (Go.Sx.Az.1 h7)
 ·have hk2:k=x.workers.length:=by omega
  exact Ao A0 rfl rfl ⟨congrArg (fun k=>vi (Ep x e k)) hk2.symm,trivial⟩
theorem A17 (x:A3)(h:x.w≤16777216):B0 Tryz.prog 14 [.agg x.c] [.one (vi (Zx (fun l:C2=>(l.queue.length:Int)) x.links))]:=by
 have hl:=A3.links_le h
 refine Ay A0 false Tryz.func14 rfl Bu fun W=>?_
 conv=>whnf
 refine Bw A0 true [] (fun k:Nat=>[(3,.c (vi (Zx (fun l:C2=>(l.queue.length:Int)) (x.links.take k)))),(4,.c (vi k))]) (fun k=>[⟨0,[.c (Bp x.graph.nodes),.c (vi x.graph.workers),.c (vi x.graph.cap),.c (Be x.workers),.c (Dt x.links),.c (C0 x.tokens),.c (Ef x.news)]⟩]) (fun k=>[])
  (fun k=>k≤x.links.length) (fun k=>x.links.length-k) 0 (Nat.zero_le _) ⟨by first|rfl|simp [Dl,ren2,ren1,ren0],by first|rfl|simp [Dl,ren2,ren1,ren0],trivial⟩ Dh trivial D0 Aa (fun k hk=>?_)
 conv=>whnf
 refine G5 (fun h=>?_) fun h=>?_<;>conv=>whnf
 ·have h:k<x.links.length:=by omega
  (repeat refine Ar ?_)
  refine B5 [] (k+1) Ac Ac ⟨congrArg (fun n=>AV.c (vi n)) (A7p (fun l:C2=>(l.queue.length:Int)) _ k h).symm,congrArg (fun n=>AV.c (vi n)) (A0c k Ac),trivial⟩ trivial Dh Aa D0 Aa
 ·exact Ao A0 rfl rfl ⟨congrArg vi (congrArg _ (Fi x.links k Ac).symm),trivial⟩
theorem Vs (l:List Cn)(n:Nat):Ec n fun i=>Cn.c (l.getD i default):=by
 intro i hi c hc
 simp only [Cn.c,List.mem_cons,List.not_mem_nil,or_false] at hc
 rcases hc with rfl|rfl|rfl<;>exact ⟨_,rfl⟩
theorem Xn (l:List Cn):(G9 Cn.c l).length=l.length * 3:=A2d (es:=3) (fun _=>rfl) l
theorem A3b (l:List Cn)(k:Nat):l.eraseIdx k=l.take k++l.drop (k+1):=List.eraseIdx_eq_take_drop_succ l k
set_option maxHeartbeats 4000000 in
theorem A6o (l:List Cn)(k:Nat)(hk:k<l.length)(hl:l.length≤16777216):M0 Tryz.prog (fun _=>True) 208 [] [.one (Ef l)] [.one (vi k),.one (vi ((k:Int)+1))] (fun _:Unit=>True) (fun _=>[.one (Ef (l.eraseIdx k))]):=by
 refine A0v A0 false Tryz.func208 rfl Bu fun B hH hp=>?_
 conv=>whnf
 refine B1j A0 rfl rfl rfl rfl rfl rfl rfl (l:=(k:Int)) (h:=(k:Int)+1) (m:=(l.length:Int)) rfl rfl rfl ⟨by omega,by omega,by omega,by omega⟩ (Al ?_)
 refine ⟨fun hz=>have hz:=eq_of_beq hz;?_,fun hz=>have hz:=beq_eq_false_iff_ne.1 hz;?_⟩<;>conv=>whnf
 ·omega
 refine Uq 0 3 Cn.c l rfl Ac (Vs _ _) (fun b off cap pre C7 p1 p2 p3 p4=>?_)
 refine Lb 0 0 rfl rfl ?_
 have hlast:l.drop k=(l.drop k).take (l.length-(k+1))++l.drop (l.length-1):=by
  have e:=List.take_append_drop (l.length-(k+1)) (l.drop k)
  rw [List.drop_drop,show k+(l.length-(k+1))=l.length-1 by omega] at e
  exact e.symm
 have hcut:l=l.take k++l.drop k:=(List.take_append_drop k l).symm
 have hcut2:l=l.take (k+1)++l.drop (k+1):=(List.take_append_drop (k+1) l).symm
 have t1:(l.take k).length=k:=by rw [List.length_take];omega
 have t2:((l.drop k).take (l.length-(k+1))).length=l.length-(k+1):=by rw [List.length_take,List.length_drop];omega
 have t3:(l.drop (k+1)).length=l.length-(k+1):=List.length_drop
 have t4:(l.take (k+1)).length=k+1:=by rw [List.length_take];omega
 have t5:(l.drop (l.length-1)).length=1:=by rw [List.length_drop];omega
 have te:(l.take k++l.drop (k+1)).length=l.length-1:=by rw [List.length_append,t1,t3];omega
 have c1:pre++G9 Cn.c l++C7=(pre++G9 Cn.c (l.take k))++G9 Cn.c ((l.drop k).take (l.length-(k+1)))++(G9 Cn.c (l.drop (l.length-1))++C7):=by
  conv=>lhs;rw [hcut,hlast,Gw,Gw]
  simp only [List.append_assoc]
 have c2:pre++G9 Cn.c l++C7=(pre++G9 Cn.c (l.take (k+1)))++G9 Cn.c (l.drop (k+1))++C7:=by
  conv=>lhs;rw [hcut2,Gw]
  simp only [List.append_assoc]
 refine L6 A0 false ?_
 conv=>whnf
 rcases Nat.lt_or_ge (k+1) cap with hlc|hlc
 ·refine Jc rfl ?_
  refine Ct A0 false 0 rfl rfl Aa rfl (Af F3) ?_
  refine Ct A0 false 1 rfl rfl Aa rfl (Af F3) ?_
  refine Ct A0 false 3 rfl rfl Aa rfl (Af F3) ?_
  refine Ct A0 false 4 rfl rfl Aa rfl (Af F3) ?_
  refine Do (s':=?_) 2 rfl Aa ?_ ?_
  rotate_left
  refine L6 A0 false ?_
  conv=>whnf
  refine Hr A0 rfl rfl rfl rfl rfl rfl (l:=0) (h:=(k:Int)) rfl rfl ⟨by omega,by omega,by omega,(fun h=>by cases h),by omega⟩ (off * 3) k cap Bj Bj Bj (L6 A0 false ?_)
  conv=>whnf
  exact Bd
  refine Do (s':=?_) 5 rfl Aa ?_ ?_
  rotate_left
  refine L6 A0 false ?_
  conv=>whnf
  refine Hr A0 rfl rfl rfl rfl rfl rfl (l:=(k:Int)+1) (h:=(l.length:Int)) rfl rfl ⟨by omega,by omega,by omega,fun _=>by omega,by omega⟩ (off * 3+(k+1) * 3) (l.length-(k+1)) (cap-(k+1)) Bj Ac Ac (L6 A0 false ?_)
  conv=>whnf
  exact Bd
  refine S7 [6,7] [] Aa ?_
  refine D5 (s':=?_) A0 rfl Aa Gp ?_ ?_
  rotate_left
  refine L6 A0 false ?_
  conv=>whnf
  refine B7s (kb:=1) (kb2:=1) A0 rfl rfl rfl rfl rfl rfl rfl rfl rfl rfl rfl rfl rfl Ac (pre++G9 Cn.c (l.take k)) (G9 Cn.c ((l.drop k).take (l.length-(k+1)))) (G9 Cn.c (l.drop (l.length-1))++C7) (pre++G9 Cn.c (l.take (k+1))) (G9 Cn.c (l.drop (k+1))) C7 (by exact c1) (by rw [List.length_append,Xn,t1,p1]) (by rw [Xn,Xn,t2,t3]) (by exact c2) (by rw [List.length_append,Xn,t4,p1]) (by rw [Xn,t3]) (by exact B5m Cn.c _) (L6 A0 false ?_)
  conv=>whnf
  exact Bd
  refine D5 (s':=?_) A0 rfl Aa Gp ?_ ?_
  rotate_left
  refine L6 A0 false ?_
  conv=>whnf
  (repeat refine Ar ?_)
  exact Bd
  refine P5 A0 Aa Gp (GW.out (L6 A0 false ?_))
  conv=>whnf
  refine Hr A0 rfl rfl rfl rfl rfl rfl (l:=((k+(l.length-(k+1)):Nat):Int)) (h:=(l.length:Int)) rfl rfl ⟨by omega,by omega,by omega,(fun h=>by cases h),by omega⟩ (off * 3+(l.length-1) * 3) 1 (cap-(l.length-1)) (by rw [show k+(l.length-(k+1))=l.length-1 by omega];simp) Ac Ac (L6 A0 false ?_)
  conv=>whnf
  refine A53 (kb:=1) A0 rfl rfl rfl rfl rfl rfl rfl rfl Ac (pre++G9 Cn.c (l.take k)++G9 Cn.c (l.drop (k+1))) (G9 Cn.c (l.drop (l.length-1))) C7 (by simp only [List.append_assoc]) (by rw [List.length_append,List.length_append,Xn,Xn,p1,t1,t3];omega) (by rw [Xn,t5]) (L6 A0 false ?_)
  conv=>whnf
  refine A4d Tryz.prog 6 1 off 3 Cn.c (l.take k++l.drop (k+1)) pre (List.replicate (1 * 3) .any++C7) rfl (by rw [Gw];simp only [List.append_assoc]) (by exact p1) (fun _=>rfl) (Vs _ _) (by exact p3) (by exact ⟨by rw [te];omega,by rw [te,List.length_append,List.length_replicate];omega⟩) rfl rfl rfl (by rw [te];omega) ?_
  rw [←A3b]
  exact A4w A0 () trivial rfl rfl Ca
 ·have e1:l.length=cap:=by omega
  have e2:k+1=l.length:=by omega
  have d1:l.drop (k+1)=[]:=List.drop_eq_nil_of_le Ac
  have d2:(l.drop k).length=1:=by rw [List.length_drop];omega
  have c3:pre++G9 Cn.c l++C7=(pre++G9 Cn.c (l.take k))++[]++(G9 Cn.c (l.drop k)++C7):=by
   conv=>lhs;rw [hcut,Gw]
   simp only [List.append_assoc,List.nil_append,List.append_nil]
  refine Jc rfl ?_
  refine Ct A0 false 0 rfl rfl Aa rfl (Af F3) ?_
  refine Ct A0 false 1 rfl rfl Aa rfl (Af F3) ?_
  refine Ct A0 false 3 rfl rfl Aa rfl (Af F3) ?_
  refine Ct A0 false 4 rfl rfl Aa rfl (Af F3) ?_
  refine Do (s':=?_) 2 rfl Aa ?_ ?_
  rotate_left
  refine L6 A0 false ?_
  conv=>whnf
  refine Hr A0 rfl rfl rfl rfl rfl rfl (l:=0) (h:=(k:Int)) rfl rfl ⟨by omega,by omega,by omega,(fun h=>by cases h),by omega⟩ (off * 3) k cap Bj Bj Bj (L6 A0 false ?_)
  conv=>whnf
  exact Bd
  refine Do (s':=?_) 5 rfl Aa ?_ ?_
  rotate_left
  refine L6 A0 false ?_
  conv=>whnf
  refine B8s A0 rfl rfl rfl rfl rfl rfl (l:=(k:Int)+1) rfl ⟨by omega,by omega,by omega⟩ (L6 A0 false ?_)
  conv=>whnf
  exact Bd
  refine S7 [6,7] [] Aa ?_
  refine D5 (s':=?_) A0 rfl Aa Gp ?_ ?_
  rotate_left
  refine L6 A0 false ?_
  conv=>whnf
  refine B7s (kb:=1) (kb2:=1) A0 rfl rfl rfl rfl rfl rfl rfl rfl rfl rfl rfl rfl rfl Ac (pre++G9 Cn.c (l.take k)) [] (G9 Cn.c (l.drop k)++C7) pre [] (G9 Cn.c l++C7) (by exact c3) (by rw [List.length_append,Xn,t1,p1]) rfl (by simp only [List.append_nil,List.append_assoc]) (by exact p1) Bj (fun _ h=>by cases h) (L6 A0 false ?_)
  conv=>whnf
  exact Bd
  refine D5 (s':=?_) A0 rfl Aa Gp ?_ ?_
  rotate_left
  refine L6 A0 false ?_
  conv=>whnf
  (repeat refine Ar ?_)
  exact Bd
  refine P5 A0 Aa Gp (GW.out (L6 A0 false ?_))
  conv=>whnf
  refine Hr A0 rfl rfl rfl rfl rfl rfl (l:=((k+0:Nat):Int)) (h:=(l.length:Int)) rfl rfl ⟨by omega,by omega,by omega,(fun h=>by cases h),by omega⟩ (off * 3+k * 3) 1 (cap-k) Bj Ac Ac (L6 A0 false ?_)
  conv=>whnf
  refine A53 (kb:=1) A0 rfl rfl rfl rfl rfl rfl rfl rfl Ac (pre++G9 Cn.c (l.take k)) (G9 Cn.c (l.drop k)) C7 (by simp only [List.append_assoc,List.nil_append,List.append_nil]) (by rw [List.length_append,Xn,p1,t1]) (by rw [Xn,d2]) (L6 A0 false ?_)
  conv=>whnf
  refine A4d Tryz.prog 6 1 off 3 Cn.c (l.take k) pre (List.replicate (1 * 3) .any++C7) rfl (by simp only [List.append_assoc]) (by exact p1) (fun _=>rfl) (Vs _ _) (by exact p3) (by exact ⟨by rw [t1];omega,by rw [t1,List.length_append,List.length_replicate];omega⟩) rfl rfl rfl (by rw [t1];rfl) ?_
  rw [show l.eraseIdx k=l.take k by rw [A3b,d1,List.append_nil]]
  exact A4w A0 () trivial rfl rfl Ca
end Go.Proofs.YtonodkjaoalfjaaGreat
