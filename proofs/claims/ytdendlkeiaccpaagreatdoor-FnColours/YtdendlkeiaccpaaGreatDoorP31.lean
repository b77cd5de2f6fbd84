/- Part 31 of the proof that each of the laws FnColours returns true for every input. No conditions. -/
import Derived.Test.YtdendlkeiaccpaaGreatDoorP5
import Derived.Test.YtdendlkeiaccpaaGreatDoorP28
import Derived.Test.YtdendlkeiaccpaaGreatDoorP20
import Derived.Test.YtdendlkeiaccpaaGreatDoorP30
import Derived.Test.YtdendlkeiaccpaaGreatDoorP19
import Derived.Test.YtdendlkeiaccpaaGreatDoorP15
import Derived.Test.YtdendlkeiaccpaaGreatDoorP22

set_option linter.unusedSimpArgs false
set_option linter.unusedVariables false
set_option maxRecDepth 100000
namespace Go.Proofs.YtdendlkeiaccpaaGreatDoor
open Go.Sx
theorem Xf (l:List Fe)(k:Nat):Re (l.take k).length (l.drop (k+1)).length 3 (fun i=>Fe.c ((l.take k).getD i default)) (fun i=>Fe.c ((l.drop (k+1)).getD i default)) (C5 (l.take k++l.drop (k+1))):=Uy 3 Fe.c _ _
theorem A6c {c:A3}{w:Int}{k:Nat}(hk:k<c.news.length)(hb:∀i,i<k→Kb w (c.news.getD i default)=false)(h:Kb w (c.news.getD k default)=true):Et c w=k∧c.news.any (Kb w)=true:=⟨Qt _ _ k hk hb h,Is hk h⟩
theorem A96 {c:A3}{w:Int}(hb:∀i,i<c.news.length→Kb w (c.news.getD i default)=false):c.news.any (Kb w)=false:=by
 rw [List.any_eq_false]
 intro y hy
 obtain ⟨i,hi,rfl⟩:=List.getElem_of_mem hy
 have:=hb i hi
 rw [show c.news.getD i default=c.news[i] by simp [List.getD,hi]] at this
 simpa using this
set_option maxHeartbeats 8000000 in
theorem B4c (x:A3)(w:Int)(h:x.w≤16000000):Dd Tryz.prog (fun _=>True) 119 [] (rc x) [.one (vi w)] (fun _:Unit=>True) (fun _=>Td (D5 x w).1 (B9 x)) (fun _=>[.one (vb (D5 x w).2)]):=by
 have hnl:=A3.news_le h
 refine Dp A0 false Tryz.func119 rfl Az fun B b hH hp=>?_
 conv=>whnf
 refine C0 A0 false [6] (fun k:Nat=>[(5,.c (vi k))]) (fun k=>[⟨0,[.own 1,.c (vi x.graph.workers),.c (vi x.graph.cap),.own 2,.own 3,.own 4,.own 5,.c (vb (B9 x))]⟩]) (fun k=>[⟨1,Bn x.graph.nodes⟩,⟨2,Al x.workers⟩,⟨3,Cf x.links⟩,⟨4,Bo x.tokens⟩,⟨5,C5 x.news⟩])
  (fun k=>k≤x.news.length∧∀i,i<k→Kb w (x.news.getD i default)=false) (fun k=>x.news.length-k) 0 ⟨Nat.zero_le _,by first|rfl|assumption|simp⟩ ⟨G3,trivial⟩ Cg ⟨Ek,Ek,Ek,Ek,Ek,trivial⟩ Co A7 (fun k hk=>?_)
 obtain ⟨hk,he⟩:=hk
 conv=>whnf
 conv=>whnf
 refine F4 (fun h1=>?_) fun h1=>?_<;>conv=>whnf
 ·have h1:k<x.news.length:=by omega
  repeat refine Bd ?_
  refine ⟨fun hok=>?_,fun hok=>?_⟩<;>conv=>whnf
  ·have hC:As x:=of_decide_eq_true (show B9 x=true from hok)
   repeat refine Bd ?_
   (repeat refine An ?_)
   refine ⟨fun h2=>have h2:=bne_iff_ne.1 h2;?_,fun h2=>have h2:=bne_eq_false_iff_eq.1 h2;?_⟩<;>conv=>whnf
   ·rw [Int.toNat_natCast] at h2
    have h2':Kb w (x.news.getD k default)=false:=by simpa [Kb] using h2
    (repeat refine An ?_)
    refine B8 [] (k+1) ⟨by omega,fun i hi=>(Nat.lt_succ_iff_lt_or_eq.1 hi).elim (fun h4=>he i h4) (fun h4=>by subst h4;exact h2')⟩ Ac ⟨rfl,trivial⟩ ⟨rfl,rfl,rfl,rfl,rfl,trivial⟩ Cg A7 Co A7
   rw [Int.toNat_natCast] at h2
   have h2':Kb w (x.news.getD k default)=true:=by simpa [Kb] using h2
   obtain ⟨hat,hA⟩:=A6c h1 he h2'
   have hH:As x∧x.news.any (Kb w)=true:=⟨hC,hA⟩
   have hno:Dt x w=x.news.getD k default:=by unfold Dt;rw [hat]
   have hwn:=hC.2.2.2.2 _ (Ay (d:=default) h1)
   have hwl:=hC.1.2.1
   have hwb:0≤w∧w<x.workers.length:=by
    have:=hwn.1
    omega
   have hj:w.toNat<x.workers.length:=by omega
   have hww:=A3.worker_le h hj
   have hdl:(x.workers.getD w.toNat default).dones.length≤(x.workers.getD w.toNat default).w:=by simp only [Aa.w];omega
   have htk:=List.length_take_le k x.news
   refine B2q 0 6 5 rfl rfl rfl ?_
   have hh:I8 x w=⟨x.graph,x.workers,x.links,x.tokens,x.news.take k++x.news.drop (k+1)⟩:=by
    unfold I8
    rw [hat,B2h]
   refine Ks rfl ?_
   refine Ca A0 false 0 rfl rfl A7 rfl (A5 Bb) ?_
   refine Ca A0 false 2 rfl rfl A7 rfl (A5 Bb) ?_
   refine Ca A0 false 3 rfl rfl A7 rfl (A5 Bb) ?_
   refine Ca A0 false 4 rfl rfl A7 rfl (A5 Bb) ?_
   refine Ca A0 false 5 rfl rfl A7 rfl (A5 Bb) ?_
   refine Ca A0 false 7 rfl rfl A7 rfl (A5 Bb) ?_
   refine Ca A0 false 10 rfl rfl A7 rfl (A5 Bb) ?_
   refine Ca A0 false 11 rfl rfl A7 rfl (A5 Bb) ?_
   refine Ca A0 false 12 rfl rfl A7 rfl (A5 Bb) ?_
   refine Ca A0 false 13 rfl rfl A7 rfl (A5 Bb) ?_
   refine Ca A0 false 15 rfl rfl A7 rfl (A5 Bb) ?_
   refine Ca A0 false 16 rfl rfl A7 rfl (A5 Bb) ?_
   refine G0 (s':=?_) 6 rfl A7 ?_ ?_
   rotate_left
   refine A8 ?_
   (repeat refine An ?_)
   exact Bh
   refine G0 (s':=?_) 8 rfl A7 ?_ ?_
   rotate_left
   refine A8 ?_
   refine Nl A0 rfl rfl rfl rfl rfl rfl rfl (l:=0) (h:=(k:Int)) rfl rfl ⟨by omega,by omega,by omega⟩ (C5 (x.news.take k)) (Tk Ac) (A8 ?_)
   exact Bh
   refine Mq [9,14,17,18,19,20,21,22] [⟨1,36,.emp 3⟩] A7 ?_
   refine Ji (s1:=?_) (s2:=?_) A0 [9,14,17,18,19,20,21,22] 9 14 [14,17,18,19,20,21,22] [9,17,18,19,20,21,22] rfl rfl A7 Dl Az Az ?_ ?_ ?_ ?_
   rotate_left 2
   refine A8 ?_
   refine B6 A0 rfl rfl rfl rfl rfl rfl rfl rfl rfl rfl rfl (C5 (x.news.take k)) (C1) (fun _=>F6 _) Ac (A8 ?_)
   exact Bh
   refine Bk (s':=?_) A0 rfl A7 Dl ?_ ?_
   rotate_left
   refine A8 ?_
   (repeat refine An ?_)
   exact Bh
   refine Bk (s':=?_) A0 rfl A7 Dl ?_ ?_
   rotate_left
   refine A8 ?_
   refine Nl A0 rfl rfl rfl rfl rfl rfl rfl (l:=(k:Int)+1) (h:=(x.news.length:Int)) rfl rfl ⟨by omega,by omega,by omega⟩ (C5 (x.news.drop (k+1))) (Gt (k:=k+1) h1) (A8 ?_)
   exact Bh
   refine Bk (s':=?_) A0 rfl A7 Dl ?_ ?_
   rotate_left
   refine A8 ?_
   refine B6 A0 rfl rfl rfl rfl rfl rfl rfl rfl rfl rfl rfl (C5 (x.news.take k++x.news.drop (k+1))) (Xf x.news k) (fun _=>F6 _) (by (rw [List.length_take,List.length_drop];omega)) (A8 ?_)
   exact Bh
   refine Bk (s':=?_) A0 rfl A7 Dl ?_ ?_
   rotate_left
   refine A8 ?_
   (repeat refine An ?_)
   exact Bh
   refine Bk (s':=?_) A0 rfl A7 Dl ?_ ?_
   rotate_left
   refine A8 ?_
   (repeat refine An ?_)
   exact Bh
   refine Bk (s':=?_) A0 rfl A7 Dl ?_ ?_
   rotate_left
   refine A8 ?_
   (repeat refine An ?_)
   exact Bh
   refine Bk (s':=?_) A0 rfl A7 Dl ?_ ?_
   rotate_left
   refine A8 ?_
   (repeat refine An ?_)
   exact Bh
   refine Jt A0 A7 Dl (GW.out (I5 ?_))
   conv=>whnf
   rotate_left 1
   refine A8 ?_
   (repeat refine An ?_)
   exact Bh
   refine Ji (s1:=?_) (s2:=?_) A0 [9,17,18,19,20,21,22] 9 17 [17,18,19,20,21,22] [9,18,19,20,21,22] rfl rfl A7 Dl Az Az ?_ ?_ ?_ ?_
   rotate_left 2
   refine A8 ?_
   refine B6 A0 rfl rfl rfl rfl rfl rfl rfl rfl rfl rfl rfl (C5 (x.news.take k)) (C1) (fun _=>F6 _) Ac (A8 ?_)
   exact Bh
   refine Bk (s':=?_) A0 rfl A7 Dl ?_ ?_
   rotate_left
   refine A8 ?_
   refine Nl A0 rfl rfl rfl rfl rfl rfl rfl (l:=(k:Int)+1) (h:=(x.news.length:Int)) rfl rfl ⟨by omega,by omega,by omega⟩ (C5 (x.news.drop (k+1))) (Gt (k:=k+1) h1) (A8 ?_)
   exact Bh
   refine Bk (s':=?_) A0 rfl A7 Dl ?_ ?_
   rotate_left
   refine A8 ?_
   refine B6 A0 rfl rfl rfl rfl rfl rfl rfl rfl rfl rfl rfl (C5 (x.news.take k++x.news.drop (k+1))) (Xf x.news k) (fun _=>F6 _) (by (rw [List.length_take,List.length_drop];omega)) (A8 ?_)
   exact Bh
   refine Bk (s':=?_) A0 rfl A7 Dl ?_ ?_
   rotate_left
   refine A8 ?_
   (repeat refine An ?_)
   exact Bh
   refine Bk (s':=?_) A0 rfl A7 Dl ?_ ?_
   rotate_left
   refine A8 ?_
   (repeat refine An ?_)
   exact Bh
   refine Bk (s':=?_) A0 rfl A7 Dl ?_ ?_
   rotate_left
   refine A8 ?_
   (repeat refine An ?_)
   exact Bh
   refine Bk (s':=?_) A0 rfl A7 Dl ?_ ?_
   rotate_left
   refine A8 ?_
   (repeat refine An ?_)
   exact Bh
   refine Jt A0 A7 Dl (GW.out (I5 ?_))
   conv=>whnf
   rotate_left 1
   refine A8 ?_
   refine Nl A0 rfl rfl rfl rfl rfl rfl rfl (l:=(k:Int)+1) (h:=(x.news.length:Int)) rfl rfl ⟨by omega,by omega,by omega⟩ (C5 (x.news.drop (k+1))) (Gt (k:=k+1) h1) (A8 ?_)
   exact Bh
   refine Bk (s':=?_) A0 rfl A7 Dl ?_ ?_
   rotate_left
   refine A8 ?_
   refine B6 A0 rfl rfl rfl rfl rfl rfl rfl rfl rfl rfl rfl (C5 (x.news.take k)) (C1) (fun _=>F6 _) Ac (A8 ?_)
   exact Bh
   refine Bk (s':=?_) A0 rfl A7 Dl ?_ ?_
   rotate_left
   refine A8 ?_
   refine B6 A0 rfl rfl rfl rfl rfl rfl rfl rfl rfl rfl rfl (C5 (x.news.take k++x.news.drop (k+1))) (Xf x.news k) (fun _=>F6 _) (by (rw [List.length_take,List.length_drop];omega)) (A8 ?_)
   exact Bh
   refine Bk (s':=?_) A0 rfl A7 Dl ?_ ?_
   rotate_left
   refine A8 ?_
   (repeat refine An ?_)
   exact Bh
   refine Bk (s':=?_) A0 rfl A7 Dl ?_ ?_
   rotate_left
   refine A8 ?_
   (repeat refine An ?_)
   exact Bh
   refine Bk (s':=?_) A0 rfl A7 Dl ?_ ?_
   rotate_left
   refine A8 ?_
   (repeat refine An ?_)
   exact Bh
   refine Bk (s':=?_) A0 rfl A7 Dl ?_ ?_
   rotate_left
   refine A8 ?_
   (repeat refine An ?_)
   exact Bh
   refine Jt A0 A7 Dl (GW.out (I5 ?_))
   conv=>whnf
   all_goals
    first|(refine Ax 6 rfl [0,2,3,4,5,6,7,8,10,11,12,13,14,15,16,17,1,9,18,19,20,21,22] A7 (A8 ?_))|(refine Ax 7 rfl [0,1,2,3,4,5,6,7,8,9,10,11] A7 (A8 ?_))|(refine Ax 8 rfl [0,1,2,3,4,5,6,7,8,9,10,11,12,13,14,15,16,17,18,19,20,21,22,23,24] A7 (A8 ?_))
    (repeat refine An ?_)
    refine S9 A0 rfl rfl rfl rfl rfl (jn:=w.toNat) rfl (r:=Aa.c ((x.workers).getD (w.toNat) default)) rfl hj rfl rfl (fun u=>go A0 false ?_)
    conv=>whnf
    refine At (R7 (x.workers.getD w.toNat default) (x.news.getD k default).epoch Ac) rfl (A8 ?_)
    refine ⟨fun hd=>?_,fun hd=>?_⟩<;>conv=>whnf
    ·have hd:Bf (Ab x w) (Dt x w).epoch=false:=by rw [hno];exact (Bool.not_eq_true' _).mp hd
     refine M4 2 (w.toNat) [(0,10),(1,11),(2,12),(3,13),(4,14),(5,15),(6,16),(7,17)] (Al x.workers) hj rfl rfl G2 rfl (Ck rfl) (I5 ?_)
     conv=>whnf
     refine T9 0 3 2 rfl rfl (fun v2=>?_)
     refine Zg 0 3 rfl rfl (fun ho_v2=>?_)
     refine Ks rfl ?_
     refine Ca A0 false 0 rfl rfl A7 rfl (A5 Bb) ?_
     refine Ca A0 false 1 rfl rfl A7 rfl (A5 Bb) ?_
     refine Ca A0 false 2 rfl rfl A7 rfl (A5 Bb) ?_
     refine Ca A0 false 3 rfl rfl A7 rfl (A5 Bb) ?_
     refine Ca A0 false 5 rfl rfl A7 rfl (A5 Bb) ?_
     refine Ca A0 false 6 rfl rfl A7 rfl (A5 Bb) ?_
     refine Ca A0 false 7 rfl rfl A7 rfl (A5 Bb) ?_
     refine Ca A0 false 8 rfl rfl A7 rfl (A5 Bb) ?_
     refine Ca A0 false 9 rfl rfl A7 rfl (A5 Bb) ?_
     refine Ca A0 false 11 rfl rfl A7 rfl (A5 Bb) ?_
     refine Ca A0 false 15 rfl rfl A7 rfl (A5 Bb) ?_
     refine Ca A0 false 17 rfl rfl A7 rfl (A5 Bb) ?_
     refine G0 (s':=?_) 10 rfl A7 ?_ ?_
     rotate_left
     refine A8 ?_
     refine Fz 79 2 rfl rfl (A8 ?_)
     (repeat refine An ?_)
     exact Bh
     refine G0 (s':=?_) 12 rfl A7 ?_ ?_
     rotate_left
     refine A8 ?_
     (repeat refine An ?_)
     exact Bh
     refine Ca A0 false 13 rfl rfl A7 rfl (A5 Bb) ?_
     refine R3 (α:=Value) (s':=?_) 14 rfl A7 ?_ ?_
     rotate_left
     refine A8 ?_
     refine Jc A0 rfl rfl rfl rfl rfl rfl (jn:=w.toNat) rfl rfl rfl (fun v3=>go A0 false ?_)
     conv=>whnf
     exact Vv v3
     intro v3
     refine G0 (s':=?_) 16 rfl A7 ?_ ?_
     rotate_left
     refine A8 ?_
     (repeat refine An ?_)
     exact Bh
     refine G0 (s':=?_) 18 rfl A7 ?_ ?_
     rotate_left
     refine A8 ?_
     (repeat refine An ?_)
     exact Bh
     refine G0 (s':=?_) 19 rfl A7 ?_ ?_
     rotate_left
     refine A8 ?_
     (repeat refine An ?_)
     exact Bh
     refine Mq [20,21,22,23,24] [⟨4,73,.rd v2⟩] A7 ?_
     refine Bk (s':=?_) A0 rfl A7 Dl ?_ ?_
     rotate_left
     refine A8 ?_
     (repeat refine An ?_)
     exact Bh
     refine Bk (s':=?_) A0 rfl A7 Dl ?_ ?_
     rotate_left
     refine A8 ?_
     refine B6 A0 rfl rfl rfl rfl rfl rfl rfl rfl rfl rfl rfl (G1 ((x.workers.getD w.toNat default).dones++[⟨(x.news.getD k default).epoch,(x.news.getD k default).capped⟩])) (Ad rfl) Bp Ac (A8 ?_)
     exact Bh
     refine Bk (s':=?_) A0 rfl A7 Dl ?_ ?_
     rotate_left
     refine A8 ?_
     refine Fz 73 2 rfl rfl (A8 ?_)
     (repeat refine An ?_)
     exact Bh
     refine Bk (s':=?_) A0 rfl A7 Dl ?_ ?_
     rotate_left
     refine A8 ?_
     (repeat refine An ?_)
     exact Bh
     refine Bk (s':=?_) A0 rfl A7 Dl ?_ ?_
     rotate_left
     refine A8 ?_
     refine Am (j:=w) A0 rfl rfl rfl rfl rfl rfl rfl rfl (Al (x.workers.set w.toNat (Ct (Ab x w) ⟨(x.news.getD k default).epoch,(x.news.getD k default).capped⟩))) (G8 hj rfl) (A8 ?_)
     exact Bh
     refine Jt A0 A7 Dl (GW.out (I5 ?_))
     conv=>whnf
     refine B6z Tryz.prog (fun _ g=>T3 0 3 2 rfl rfl rfl g) ?_
     rw [B2v hH hd,hno,hh]
     exact Bu A0 () trivial rfl rfl rfl rfl B1
    have hd:Bf (Ab x w) (Dt x w).epoch=true:=by rw [hno];exact (Bool.not_eq_false' _).mp hd
    refine Ej Tryz.prog 2 (w.toNat) [(0,10),(1,11),(2,12),(3,13),(4,14),(5,15),(6,16),(7,17)] (Al x.workers) hj rfl rfl G2 rfl (Ck rfl) ?_
    rw [B2w hH hd,hh]
    exact Bu A0 () trivial rfl rfl rfl rfl B1
  have hC:¬ As x:=of_decide_eq_false (show B9 x=false from hok)
  repeat refine Bd ?_
  rw [A7s (fun p=>hC p.1)]
  exact Bu A0 () trivial rfl rfl rfl rfl B1
 obtain rfl:k=x.news.length:=by omega
 repeat refine Bd ?_
 rw [A7s (fun p=>by have q:=p.2;rw [A96 he] at q;cases q)]
 exact Bu A0 () trivial rfl rfl rfl rfl B1
theorem Up (c:A3)(e:Int):(Bc c e).1.graph=c.graph:=by
 unfold Bc
 dsimp only
 repeat' split
 all_goals first
  |rfl
  |(unfold F2;split<;>rfl)
theorem A6z (c:A3)(p:C7):(Aj c p).1.graph=c.graph:=by
 unfold Aj
 split
 ·unfold Df;split<;>rfl
 split
 ·unfold Cz;split<;>rfl
 split
 ·unfold C3;repeat' split
  all_goals rfl
 split
 ·unfold Cm;split<;>rfl
 split
 ·unfold Cy;split<;>rfl
 split
 ·exact Up c p.a
 split
 ·unfold D5;repeat' split
  all_goals rfl
 rfl
theorem A4f (l:List C7):∀s:A3×List Bool,(l.foldl Dy s).1.graph=s.1.graph:=by
 induction l with
 |nil=>intro s;rfl
 |cons p r ih=>intro s;exact (ih (Dy s p)).trans (A6z s.1 p)
theorem R4 (c:A3)(l:List C7):(Bg c l).1.graph=c.graph:=A4f l (c,[])
theorem Z6 (c:A3)(k:Nat):(frN c k).graph=c.graph:=by
 induction k with
 |zero=>rfl
 |succ k ih=>exact (R4 (frN c k) _).trans ih
theorem B30 {c d:A3}(h:d.graph=c.graph):Gf d=Gf c:=by
 unfold Gf
 rw [h]
def cnt (c:A3) (l:List C7):Nat:=((Bg c l).2.filter id).length
theorem Tj {c:A3}{p:C7}(h3:p.kind≠3)(h4:p.kind≠4):B9 (Aj c p).1=B9 c:=by
 by_cases hc:As c
 ·rw [Pe hc,if_neg h3,if_neg h4]
  exact (decide_eq_true hc).symm
 rw [L5 hc]
set_option maxHeartbeats 4000000 in
theorem A4q (x:A3)(p:C7)(h:x.w≤8000000)(og:Eu .i64 x.graph.workers):Dd Tryz.prog (fun _=>True) 86 [] (rc x) [.agg p.c] (fun _:Unit=>True) (fun _=>rc (Aj x p).1) (fun _=>[.one (vb (Aj x p).2)]):=by
 refine Dp A0 false Tryz.func86 rfl Az fun B b hH hp=>?_
 conv=>whnf
 refine ⟨fun k1=>have k1:=eq_of_beq k1;?_,fun k1=>have k1:=beq_eq_false_iff_ne.1 k1;?_⟩<;>conv=>whnf
 ·have hfl:=Tj (c:=x) (p:=p) Ac Ac
  refine Ak (B4h x p.a Ac) hH hp rfl B1 rfl rfl (fun r hr=>go A0 false ?_)
  conv=>whnf
  have hz:rc (Aj x p).1=Td (Df x p.a).1 (B9 x):=by
   have e:Aj x p=Df x p.a:=by unfold Aj;rw [if_pos k1]
   show Td (Aj x p).1 (B9 (Aj x p).1)=_
   rw [hfl,e]
  have hv:(Aj x p).2=(Df x p.a).2:=by unfold Aj;rw [if_pos k1]
  rw [hz,hv]
  exact Bu A0 () trivial rfl rfl rfl rfl B1
 refine ⟨fun k2=>have k2:=eq_of_beq k2;?_,fun k2=>have k2:=beq_eq_false_iff_ne.1 k2;?_⟩<;>conv=>whnf
 ·have hfl:=Tj (c:=x) (p:=p) Ac Ac
  refine Ak (B0p x p.a Ac) hH hp rfl B1 rfl rfl (fun r hr=>go A0 false ?_)
  conv=>whnf
  have hz:rc (Aj x p).1=Td (Cz x p.a).1 (B9 x):=by
   have e:Aj x p=Cz x p.a:=by unfold Aj;rw [if_neg k1,if_pos k2]
   show Td (Aj x p).1 (B9 (Aj x p).1)=_
   rw [hfl,e]
  have hv:(Aj x p).2=(Cz x p.a).2:=by unfold Aj;rw [if_neg k1,if_pos k2]
  rw [hz,hv]
  exact Bu A0 () trivial rfl rfl rfl rfl B1
 refine ⟨fun k3=>have k3:=eq_of_beq k3;?_,fun k3=>have k3:=beq_eq_false_iff_ne.1 k3;?_⟩<;>conv=>whnf
 ·refine Ak (B4f x p.a h og) hH hp rfl B1 rfl rfl (fun r hr=>go A0 false ?_)
  conv=>whnf
  have e:Aj x p=C3 x p.a:=by unfold Aj;rw [if_neg k1,if_neg k2,if_pos k3]
  rw [e]
  exact Bu A0 () trivial rfl rfl rfl rfl B1
 refine ⟨fun k4=>have k4:=eq_of_beq k4;?_,fun k4=>have k4:=beq_eq_false_iff_ne.1 k4;?_⟩<;>conv=>whnf
 ·refine Ak (B4g x p.a p.b h og) hH hp rfl B1 rfl rfl (fun r hr=>go A0 false ?_)
  conv=>whnf
  have e:Aj x p=Cm x p.a p.b:=by unfold Aj;rw [if_neg k1,if_neg k2,if_neg k3,if_pos k4]
  rw [e]
  exact Bu A0 () trivial rfl rfl rfl rfl B1
 have hfl:=Tj (c:=x) (p:=p) k3 k4
 refine ⟨fun k5=>have k5:=eq_of_beq k5;?_,fun k5=>have k5:=beq_eq_false_iff_ne.1 k5;?_⟩<;>conv=>whnf
 ·refine Ak (A6p x p.a p.b Ac og) hH hp rfl B1 rfl rfl (fun r hr=>go A0 false ?_)
  conv=>whnf
  have hz:rc (Aj x p).1=Td (Cy x p.a p.b).1 (B9 x):=by
   have e:Aj x p=Cy x p.a p.b:=by unfold Aj;rw [if_neg k1,if_neg k2,if_neg k3,if_neg k4,if_pos k5]
   show Td (Aj x p).1 (B9 (Aj x p).1)=_
   rw [hfl,e]
  have hv:(Aj x p).2=(Cy x p.a p.b).2:=by unfold Aj;rw [if_neg k1,if_neg k2,if_neg k3,if_neg k4,if_pos k5]
  rw [hz,hv]
  exact Bu A0 () trivial rfl rfl rfl rfl B1
 refine ⟨fun k6=>have k6:=eq_of_beq k6;?_,fun k6=>have k6:=beq_eq_false_iff_ne.1 k6;?_⟩<;>conv=>whnf
 ·refine Ak (Zy x p.a Ac) hH hp rfl B1 rfl rfl (fun r hr=>go A0 false ?_)
  conv=>whnf
  have hz:rc (Aj x p).1=Td (Bc x p.a).1 (B9 x):=by
   have e:Aj x p=Bc x p.a:=by unfold Aj;rw [if_neg k1,if_neg k2,if_neg k3,if_neg k4,if_neg k5,if_pos k6]
   show Td (Aj x p).1 (B9 (Aj x p).1)=_
   rw [hfl,e]
  have hv:(Aj x p).2=(Bc x p.a).2:=by unfold Aj;rw [if_neg k1,if_neg k2,if_neg k3,if_neg k4,if_neg k5,if_pos k6]
  rw [hz,hv]
  exact Bu A0 () trivial rfl rfl rfl rfl B1
 refine ⟨fun k7=>have k7:=eq_of_beq k7;?_,fun k7=>have k7:=beq_eq_false_iff_ne.1 k7;?_⟩<;>conv=>whnf
 ·refine Ak (B4c x p.a Ac) hH hp rfl B1 rfl rfl (fun r hr=>go A0 false ?_)
  conv=>whnf
  have hz:rc (Aj x p).1=Td (D5 x p.a).1 (B9 x):=by
   have e:Aj x p=D5 x p.a:=by unfold Aj;rw [if_neg k1,if_neg k2,if_neg k3,if_neg k4,if_neg k5,if_neg k6,if_pos k7]
   show Td (Aj x p).1 (B9 (Aj x p).1)=_
   rw [hfl,e]
  have hv:(Aj x p).2=(D5 x p.a).2:=by unfold Aj;rw [if_neg k1,if_neg k2,if_neg k3,if_neg k4,if_neg k5,if_neg k6,if_pos k7]
  rw [hz,hv]
  exact Bu A0 () trivial rfl rfl rfl rfl B1
 have e:Aj x p=(x,false):=by unfold Aj;rw [if_neg k1,if_neg k2,if_neg k3,if_neg k4,if_neg k5,if_neg k6,if_neg k7]
 rw [e]
 exact Bu A0 () trivial rfl rfl rfl rfl B1
set_option maxHeartbeats 4000000 in
theorem Jh (x:A3)(l:List C7)(h:x.w+4 * l.length≤8000000)(og:Eu .i64 x.graph.workers):Be Tryz.prog 46 [.agg x.c,.one (Ez l)] [.agg (Bg x l).1.c,.one (Dq (Bg x l).2)]:=by
 refine B5 A0 false Tryz.func46 rfl Az fun W=>?_
 conv=>whnf
 have hp:Kv ⟨W,fun _=>False⟩ []:=fun _ h=>by cases h
 have hH:∀w,Ba.rel ⟨W,fun _=>False⟩ w→True:=fun _ _=>trivial
 refine Tp (Ti x Ac) hp rfl (fun r hr=>go A0 false ?_)
 conv=>whnf
 refine Eo 8 (Dq []) rfl Du ?_
 refine C0 A0 false [11] (fun k:Nat=>[(8,.c (vi k))]) (fun k=>[⟨2,[.own 3,.c (vi (Bg x (l.take k)).1.graph.workers),.c (vi (Bg x (l.take k)).1.graph.cap),.own 4,.own 5,.own 6,.own 7,.c (vb (B9 (Bg x (l.take k)).1))]⟩,⟨1,[.c (.val (.slice none 0 0)),.c (vi 0),.c (vi 0),.c (.val (.slice none 0 0)),.c (.val (.slice none 0 0)),.c (.val (.slice none 0 0)),.c (.val (.slice none 0 0))]⟩]) (fun k=>[⟨8,Dq (Bg x (l.take k)).2⟩,⟨3,Bn (Bg x (l.take k)).1.graph.nodes⟩,⟨4,Al (Bg x (l.take k)).1.workers⟩,⟨5,Cf (Bg x (l.take k)).1.links⟩,⟨6,Bo (Bg x (l.take k)).1.tokens⟩,⟨7,C5 (Bg x (l.take k)).1.news⟩])
  (fun k=>k≤l.length) (fun k=>l.length-k) 0 (Nat.zero_le _) ⟨G3,trivial⟩ Cg ⟨Ek,Ek,Ek,Ek,Ek,Ek,trivial⟩ Co A7 (fun k hk=>?_)
 conv=>whnf
 conv=>whnf
 refine F4 (fun hlt=>?_) fun hlt=>?_<;>conv=>whnf
 ·have hlt:k<l.length:=by omega
  have hw:=Mc (c:=x) (l:=l.take k)
  have hn:=A4g (c:=x) (l:=l.take k)
  have ht:(l.take k).length=k:=by rw [List.length_take];omega
  have hs:=Zv (c:=x) hlt
  (repeat refine An ?_)
  refine Ak (A4q (Bg x (l.take k)).1 (l.getD k default) Ac (by rw [R4];exact og)) hH hp rfl B1 rfl rfl (fun r2 hr2=>go A0 false ?_)
  conv=>whnf
  refine B6 A0 rfl rfl rfl rfl rfl rfl rfl rfl rfl rfl rfl (Dq ((Bg x (l.take k)).2++[(Aj (Bg x (l.take k)).1 (l.getD k default)).2])) (Ad rfl) Bp Ac (A8 ?_)
  (repeat refine An ?_)
  refine B8 [(3,9),(4,10),(5,11),(6,12),(7,13),(8,15)] (k+1) Ac Ac ⟨rfl,trivial⟩ ⟨congrArg Dq (by rw [hs];rfl),congrArg (fun s:A3×List Bool=>Bn s.1.graph.nodes) hs.symm,congrArg (fun s:A3×List Bool=>Al s.1.workers) hs.symm,congrArg (fun s:A3×List Bool=>Cf s.1.links) hs.symm,congrArg (fun s:A3×List Bool=>Bo s.1.tokens) hs.symm,congrArg (fun s:A3×List Bool=>C5 s.1.news) hs.symm,trivial⟩ (by rw [hs];repeat' (first|exact trivial|exact rfl|refine ⟨?_,?_⟩)) A7 Co A7
 obtain rfl:k=l.length:=by omega
 rw [List.take_length]
 repeat refine Bd ?_
 refine Ap A0 rfl rfl ?_
 exact B1
set_option maxHeartbeats 4000000 in
theorem B0r (x:A3)(l:List C7)(h:x.w+4 * l.length≤8000000)(og:Eu .i64 x.graph.workers):Dd Tryz.prog (fun _=>True) 67 [] (rc x) [.one (Ez l)] (fun _:Unit=>True) (fun _=>rc (Bg x l).1) (fun _=>[.one (vi (cnt x l))]):=by
 refine Dp A0 false Tryz.func67 rfl Az fun B b hH hp=>?_
 conv=>whnf
 refine C0 A0 false [] (fun k:Nat=>[(6,.c (vi k)),(5,.c (vi (cnt x (l.take k))))]) (fun k=>[⟨0,[.own 1,.c (vi (Bg x (l.take k)).1.graph.workers),.c (vi (Bg x (l.take k)).1.graph.cap),.own 2,.own 3,.own 4,.own 5,.c (vb (B9 (Bg x (l.take k)).1))]⟩]) (fun k=>[⟨1,Bn (Bg x (l.take k)).1.graph.nodes⟩,⟨2,Al (Bg x (l.take k)).1.workers⟩,⟨3,Cf (Bg x (l.take k)).1.links⟩,⟨4,Bo (Bg x (l.take k)).1.tokens⟩,⟨5,C5 (Bg x (l.take k)).1.news⟩])
  (fun k=>k≤l.length) (fun k=>l.length-k) 0 (Nat.zero_le _) ⟨G3,G3,trivial⟩ Cg ⟨Ek,Ek,Ek,Ek,Ek,trivial⟩ Co A7 (fun k hk=>?_)
 conv=>whnf
 conv=>whnf
 refine F4 (fun hlt=>?_) fun hlt=>?_<;>conv=>whnf
 ·have hlt:k<l.length:=by omega
  have hw:=Mc (c:=x) (l:=l.take k)
  have hn:=A4g (c:=x) (l:=l.take k)
  have ht:(l.take k).length=k:=by rw [List.length_take];omega
  have hs:=Zv (c:=x) hlt
  have hcn:cnt x (l.take (k+1))=cnt x (l.take k)+if (Aj (Bg x (l.take k)).1 (l.getD k default)).2=true then 1 else 0:=by
   unfold cnt
   rw [hs]
   show ((((Bg x (l.take k)).2++[(Aj (Bg x (l.take k)).1 (l.getD k default)).2]).filter id)).length=_
   rw [List.filter_append,List.length_append]
   cases (Aj (Bg x (l.take k)).1 (l.getD k default)).2<;>rfl
  have hcl:cnt x (l.take k)≤k:=by
   unfold cnt
   exact Nat.le_trans (List.length_filter_le _ _) Ac
  (repeat refine An ?_)
  refine Ak (A4q (Bg x (l.take k)).1 (l.getD k default) Ac (by rw [R4];exact og)) hH hp rfl B1 rfl rfl (fun r2 hr2=>go A0 false ?_)
  conv=>whnf
  refine ⟨fun hb=>?_,fun hb=>?_⟩<;>conv=>whnf
  ·rw [if_pos hb] at hcn
   (repeat refine An ?_)
   refine B8 [(1,6),(2,7),(3,8),(4,9),(5,10)] (k+1) Ac Ac ⟨rfl,congrArg (fun n:Nat=>AV.c (vi (n:Int))) hcn.symm,trivial⟩ ⟨congrArg (fun s:A3×List Bool=>Bn s.1.graph.nodes) hs.symm,congrArg (fun s:A3×List Bool=>Al s.1.workers) hs.symm,congrArg (fun s:A3×List Bool=>Cf s.1.links) hs.symm,congrArg (fun s:A3×List Bool=>Bo s.1.tokens) hs.symm,congrArg (fun s:A3×List Bool=>C5 s.1.news) hs.symm,trivial⟩ (by rw [hs];repeat' (first|exact trivial|exact rfl|refine ⟨?_,?_⟩)) A7 Co A7
  rw [if_neg (by rw [hb];decide)] at hcn
  (repeat refine An ?_)
  refine B8 [(1,6),(2,7),(3,8),(4,9),(5,10)] (k+1) Ac Ac ⟨rfl,congrArg (fun n:Nat=>AV.c (vi (n:Int))) hcn.symm,trivial⟩ ⟨congrArg (fun s:A3×List Bool=>Bn s.1.graph.nodes) hs.symm,congrArg (fun s:A3×List Bool=>Al s.1.workers) hs.symm,congrArg (fun s:A3×List Bool=>Cf s.1.links) hs.symm,congrArg (fun s:A3×List Bool=>Bo s.1.tokens) hs.symm,congrArg (fun s:A3×List Bool=>C5 s.1.news) hs.symm,trivial⟩ (by rw [hs];repeat' (first|exact trivial|exact rfl|refine ⟨?_,?_⟩)) A7 Co A7
 obtain rfl:k=l.length:=by omega
 rw [List.take_length]
 repeat refine Bd ?_
 exact Bu A0 () trivial rfl rfl rfl rfl B1
theorem Pn (n:Nat):∀c:A3,(D7 n c).1.w≤c.w+176 * n:=by
 induction n with
 |zero=>intro c;exact Nat.le_refl _
 |succ n ih=>
  intro c
  have h1:=A8l (c:=c)
  rw [D7]
  split
  ·show (Bt c).1.w≤_
   omega
  have h2:=ih (Bt c).1
  show (D7 n (Bt c).1).1.w≤_
  omega
end Go.Proofs.YtdendlkeiaccpaaGreatDoor
