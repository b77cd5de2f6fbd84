/- Part 29 of the proof that each of the laws FnTold returns true for every input. No conditions. -/
import Derived.Test.YtdendlkeiaccpaaGreatDoorP5
import Derived.Test.YtdendlkeiaccpaaGreatDoorP26
import Derived.Test.YtdendlkeiaccpaaGreatDoorP18
import Derived.Test.YtdendlkeiaccpaaGreatDoorP28
import Derived.Test.YtdendlkeiaccpaaGreatDoorP14
import Derived.Test.YtdendlkeiaccpaaGreatDoorP20
import Derived.Test.YtdendlkeiaccpaaGreatDoorP13

set_option linter.unusedSimpArgs false
set_option linter.unusedVariables false
set_option maxRecDepth 100000
namespace Go.Proofs.YtdendlkeiaccpaaGreatDoor
open Go.Sx
theorem Vj (l:List Fy)(k:Nat):Pt (l.take k).length (l.drop (k+1)).length 3 (fun i=>Fy.c ((l.take k).getD i default)) (fun i=>Fy.c ((l.drop (k+1)).getD i default)) (Cj (l.take k++l.drop (k+1))):=O5 3 Fy.c _ _
theorem A3y {c:A5}{w:Int}{k:Nat}(hk:k<c.news.length)(hb:∀i,i<k→Kx w (c.news.getD i default)=false)(h:Kx w (c.news.getD k default)=true):Ph c w=k∧c.news.any (Kx w)=true:=⟨P9 _ _ k hk hb h,Ki hk h⟩
theorem A7n {c:A5}{w:Int}(hb:∀i,i<c.news.length→Kx w (c.news.getD i default)=false):c.news.any (Kx w)=false:=by
 rw [List.any_eq_false]
 intro y hy
 obtain ⟨i,hi,rfl⟩:=List.getElem_of_mem hy
 have:=hb i hi
 rw [show c.news.getD i default=c.news[i] by simp [List.getD,hi]] at this
 simpa using this
set_option maxHeartbeats 8000000 in
theorem B1r (x:A5)(w:Int)(h:x.w≤16000000):Cw Tryz.prog (fun _=>True) 119 [] (rc x) [.one (vi w)] (fun _:Unit=>True) (fun _=>Ru (E8 x w).1 (B4 x)) (fun _=>[.one (vb (E8 x w).2)]):=by
 have hnl:=A5.news_le h
 refine Dn A0 false Tryz.func119 rfl Aw fun B b hH hp=>?_
 conv=>whnf
 refine C0 A0 false [6] (fun k:Nat=>[(5,.c (vi k))]) (fun k=>[⟨0,[.own 1,.c (vi x.graph.workers),.c (vi x.graph.cap),.own 2,.own 3,.own 4,.own 5,.c (vb (B4 x))]⟩]) (fun k=>[⟨1,Bp x.graph.nodes⟩,⟨2,Av x.workers⟩,⟨3,Cy x.links⟩,⟨4,C9 x.tokens⟩,⟨5,Cj x.news⟩])
  (fun k=>k≤x.news.length∧∀i,i<k→Kx w (x.news.getD i default)=false) (fun k=>x.news.length-k) 0 ⟨Nat.zero_le _,by first|rfl|assumption|simp⟩ ⟨G9,trivial⟩ Cf ⟨Eu,Eu,Eu,Eu,Eu,trivial⟩ Cr A7 (fun k hk=>?_)
 obtain ⟨hk,he⟩:=hk
 conv=>whnf
 conv=>whnf
 refine Fi (fun h1=>?_) fun h1=>?_<;>conv=>whnf
 ·have h1:k<x.news.length:=by omega
  repeat refine Bj ?_
  refine ⟨fun hok=>?_,fun hok=>?_⟩<;>conv=>whnf
  ·have hC:B6 x:=of_decide_eq_true (show B4 x=true from hok)
   repeat refine Bj ?_
   (repeat refine An ?_)
   refine ⟨fun h2=>have h2:=bne_iff_ne.1 h2;?_,fun h2=>have h2:=bne_eq_false_iff_eq.1 h2;?_⟩<;>conv=>whnf
   ·rw [Int.toNat_natCast] at h2
    have h2':Kx w (x.news.getD k default)=false:=by simpa [Kx] using h2
    (repeat refine An ?_)
    refine B9 [] (k+1) ⟨by omega,fun i hi=>(Nat.lt_succ_iff_lt_or_eq.1 hi).elim (fun h4=>he i h4) (fun h4=>by subst h4;exact h2')⟩ Ab ⟨rfl,trivial⟩ ⟨rfl,rfl,rfl,rfl,rfl,trivial⟩ Cf A7 Cr A7
   rw [Int.toNat_natCast] at h2
   have h2':Kx w (x.news.getD k default)=true:=by simpa [Kx] using h2
   obtain ⟨hat,hA⟩:=A3y h1 he h2'
   have hH:B6 x∧x.news.any (Kx w)=true:=⟨hC,hA⟩
   have hno:Gt x w=x.news.getD k default:=by unfold Gt;rw [hat]
   have hwn:=hC.2.2.2.2 _ (B8 (d:=default) h1)
   have hwl:=hC.1.2.1
   have hwb:0≤w∧w<x.workers.length:=by
    have:=hwn.1
    omega
   have hj:w.toNat<x.workers.length:=by omega
   have hww:=A5.worker_le h hj
   have hdl:(x.workers.getD w.toNat default).dones.length≤(x.workers.getD w.toNat default).w:=by simp only [A9.w];omega
   have htk:=List.length_take_le k x.news
   refine A9y 0 6 5 rfl rfl rfl ?_
   have hh:Ks x w=⟨x.graph,x.workers,x.links,x.tokens,x.news.take k++x.news.drop (k+1)⟩:=by
    unfold Ks
    rw [hat,A9p]
   refine J8 rfl ?_
   refine Bu A0 false 0 rfl rfl A7 rfl (A4 B2) ?_
   refine Bu A0 false 2 rfl rfl A7 rfl (A4 B2) ?_
   refine Bu A0 false 3 rfl rfl A7 rfl (A4 B2) ?_
   refine Bu A0 false 4 rfl rfl A7 rfl (A4 B2) ?_
   refine Bu A0 false 5 rfl rfl A7 rfl (A4 B2) ?_
   refine Bu A0 false 7 rfl rfl A7 rfl (A4 B2) ?_
   refine Bu A0 false 10 rfl rfl A7 rfl (A4 B2) ?_
   refine Bu A0 false 11 rfl rfl A7 rfl (A4 B2) ?_
   refine Bu A0 false 12 rfl rfl A7 rfl (A4 B2) ?_
   refine Bu A0 false 13 rfl rfl A7 rfl (A4 B2) ?_
   refine Bu A0 false 15 rfl rfl A7 rfl (A4 B2) ?_
   refine Bu A0 false 16 rfl rfl A7 rfl (A4 B2) ?_
   refine Ej (s':=?_) 6 rfl A7 ?_ ?_
   rotate_left
   refine A8 ?_
   (repeat refine An ?_)
   exact Bf
   refine Ej (s':=?_) 8 rfl A7 ?_ ?_
   rotate_left
   refine A8 ?_
   refine Nn A0 rfl rfl rfl rfl rfl rfl rfl (l:=0) (h:=(k:Int)) rfl rfl ⟨by omega,by omega,by omega⟩ (Cj (x.news.take k)) (S2 Ab) (A8 ?_)
   exact Bf
   refine Lf [9,14,17,18,19,20,21,22] [⟨1,36,.emp 3⟩] A7 ?_
   refine L4 (s1:=?_) (s2:=?_) A0 [9,14,17,18,19,20,21,22] 9 14 [14,17,18,19,20,21,22] [9,17,18,19,20,21,22] rfl rfl A7 E5 Aw Aw ?_ ?_ ?_ ?_
   rotate_left 2
   refine A8 ?_
   refine B1 A0 rfl rfl rfl rfl rfl rfl rfl rfl rfl rfl rfl (Cj (x.news.take k)) (Ci) (fun _=>Gp _) Ab (A8 ?_)
   exact Bf
   refine Bm (s':=?_) A0 rfl A7 E5 ?_ ?_
   rotate_left
   refine A8 ?_
   (repeat refine An ?_)
   exact Bf
   refine Bm (s':=?_) A0 rfl A7 E5 ?_ ?_
   rotate_left
   refine A8 ?_
   refine Nn A0 rfl rfl rfl rfl rfl rfl rfl (l:=(k:Int)+1) (h:=(x.news.length:Int)) rfl rfl ⟨by omega,by omega,by omega⟩ (Cj (x.news.drop (k+1))) (G8 (k:=k+1) h1) (A8 ?_)
   exact Bf
   refine Bm (s':=?_) A0 rfl A7 E5 ?_ ?_
   rotate_left
   refine A8 ?_
   refine B1 A0 rfl rfl rfl rfl rfl rfl rfl rfl rfl rfl rfl (Cj (x.news.take k++x.news.drop (k+1))) (Vj x.news k) (fun _=>Gp _) (by (rw [List.length_take,List.length_drop];omega)) (A8 ?_)
   exact Bf
   refine Bm (s':=?_) A0 rfl A7 E5 ?_ ?_
   rotate_left
   refine A8 ?_
   (repeat refine An ?_)
   exact Bf
   refine Bm (s':=?_) A0 rfl A7 E5 ?_ ?_
   rotate_left
   refine A8 ?_
   (repeat refine An ?_)
   exact Bf
   refine Bm (s':=?_) A0 rfl A7 E5 ?_ ?_
   rotate_left
   refine A8 ?_
   (repeat refine An ?_)
   exact Bf
   refine Bm (s':=?_) A0 rfl A7 E5 ?_ ?_
   rotate_left
   refine A8 ?_
   (repeat refine An ?_)
   exact Bf
   refine K3 A0 A7 E5 (GW.out (Ji ?_))
   conv=>whnf
   rotate_left 1
   refine A8 ?_
   (repeat refine An ?_)
   exact Bf
   refine L4 (s1:=?_) (s2:=?_) A0 [9,17,18,19,20,21,22] 9 17 [17,18,19,20,21,22] [9,18,19,20,21,22] rfl rfl A7 E5 Aw Aw ?_ ?_ ?_ ?_
   rotate_left 2
   refine A8 ?_
   refine B1 A0 rfl rfl rfl rfl rfl rfl rfl rfl rfl rfl rfl (Cj (x.news.take k)) (Ci) (fun _=>Gp _) Ab (A8 ?_)
   exact Bf
   refine Bm (s':=?_) A0 rfl A7 E5 ?_ ?_
   rotate_left
   refine A8 ?_
   refine Nn A0 rfl rfl rfl rfl rfl rfl rfl (l:=(k:Int)+1) (h:=(x.news.length:Int)) rfl rfl ⟨by omega,by omega,by omega⟩ (Cj (x.news.drop (k+1))) (G8 (k:=k+1) h1) (A8 ?_)
   exact Bf
   refine Bm (s':=?_) A0 rfl A7 E5 ?_ ?_
   rotate_left
   refine A8 ?_
   refine B1 A0 rfl rfl rfl rfl rfl rfl rfl rfl rfl rfl rfl (Cj (x.news.take k++x.news.drop (k+1))) (Vj x.news k) (fun _=>Gp _) (by (rw [List.length_take,List.length_drop];omega)) (A8 ?_)
   exact Bf
   refine Bm (s':=?_) A0 rfl A7 E5 ?_ ?_
   rotate_left
   refine A8 ?_
   (repeat refine An ?_)
   exact Bf
   refine Bm (s':=?_) A0 rfl A7 E5 ?_ ?_
   rotate_left
   refine A8 ?_
   (repeat refine An ?_)
   exact Bf
   refine Bm (s':=?_) A0 rfl A7 E5 ?_ ?_
   rotate_left
   refine A8 ?_
   (repeat refine An ?_)
   exact Bf
   refine Bm (s':=?_) A0 rfl A7 E5 ?_ ?_
   rotate_left
   refine A8 ?_
   (repeat refine An ?_)
   exact Bf
   refine K3 A0 A7 E5 (GW.out (Ji ?_))
   conv=>whnf
   rotate_left 1
   refine A8 ?_
   refine Nn A0 rfl rfl rfl rfl rfl rfl rfl (l:=(k:Int)+1) (h:=(x.news.length:Int)) rfl rfl ⟨by omega,by omega,by omega⟩ (Cj (x.news.drop (k+1))) (G8 (k:=k+1) h1) (A8 ?_)
   exact Bf
   refine Bm (s':=?_) A0 rfl A7 E5 ?_ ?_
   rotate_left
   refine A8 ?_
   refine B1 A0 rfl rfl rfl rfl rfl rfl rfl rfl rfl rfl rfl (Cj (x.news.take k)) (Ci) (fun _=>Gp _) Ab (A8 ?_)
   exact Bf
   refine Bm (s':=?_) A0 rfl A7 E5 ?_ ?_
   rotate_left
   refine A8 ?_
   refine B1 A0 rfl rfl rfl rfl rfl rfl rfl rfl rfl rfl rfl (Cj (x.news.take k++x.news.drop (k+1))) (Vj x.news k) (fun _=>Gp _) (by (rw [List.length_take,List.length_drop];omega)) (A8 ?_)
   exact Bf
   refine Bm (s':=?_) A0 rfl A7 E5 ?_ ?_
   rotate_left
   refine A8 ?_
   (repeat refine An ?_)
   exact Bf
   refine Bm (s':=?_) A0 rfl A7 E5 ?_ ?_
   rotate_left
   refine A8 ?_
   (repeat refine An ?_)
   exact Bf
   refine Bm (s':=?_) A0 rfl A7 E5 ?_ ?_
   rotate_left
   refine A8 ?_
   (repeat refine An ?_)
   exact Bf
   refine Bm (s':=?_) A0 rfl A7 E5 ?_ ?_
   rotate_left
   refine A8 ?_
   (repeat refine An ?_)
   exact Bf
   refine K3 A0 A7 E5 (GW.out (Ji ?_))
   conv=>whnf
   all_goals
    first|(refine B7 6 rfl [0,2,3,4,5,6,7,8,10,11,12,13,14,15,16,17,1,9,18,19,20,21,22] A7 (A8 ?_))|(refine B7 7 rfl [0,1,2,3,4,5,6,7,8,9,10,11] A7 (A8 ?_))|(refine B7 8 rfl [0,1,2,3,4,5,6,7,8,9,10,11,12,13,14,15,16,17,18,19,20,21,22,23,24] A7 (A8 ?_))
    (repeat refine An ?_)
    refine V1 A0 rfl rfl rfl rfl rfl (jn:=w.toNat) rfl (r:=A9.c ((x.workers).getD (w.toNat) default)) rfl hj rfl rfl (fun u=>go A0 false ?_)
    conv=>whnf
    refine B5 (Vo (x.workers.getD w.toNat default) (x.news.getD k default).epoch Ab) rfl (A8 ?_)
    refine ⟨fun hd=>?_,fun hd=>?_⟩<;>conv=>whnf
    ·have hd:Gf (Ad x w) (Gt x w).epoch=false:=by rw [hno];exact (Bool.not_eq_true' _).mp hd
     refine Mr 2 (w.toNat) [(0,10),(1,11),(2,12),(3,13),(4,14),(5,15),(6,16),(7,17)] (Av x.workers) hj rfl rfl Ht rfl (D5 rfl) (Ji ?_)
     conv=>whnf
     refine Rq 0 3 2 rfl rfl (fun v2=>?_)
     refine Xv 0 3 rfl rfl (fun ho_v2=>?_)
     refine J8 rfl ?_
     refine Bu A0 false 0 rfl rfl A7 rfl (A4 B2) ?_
     refine Bu A0 false 1 rfl rfl A7 rfl (A4 B2) ?_
     refine Bu A0 false 2 rfl rfl A7 rfl (A4 B2) ?_
     refine Bu A0 false 3 rfl rfl A7 rfl (A4 B2) ?_
     refine Bu A0 false 5 rfl rfl A7 rfl (A4 B2) ?_
     refine Bu A0 false 6 rfl rfl A7 rfl (A4 B2) ?_
     refine Bu A0 false 7 rfl rfl A7 rfl (A4 B2) ?_
     refine Bu A0 false 8 rfl rfl A7 rfl (A4 B2) ?_
     refine Bu A0 false 9 rfl rfl A7 rfl (A4 B2) ?_
     refine Bu A0 false 11 rfl rfl A7 rfl (A4 B2) ?_
     refine Bu A0 false 15 rfl rfl A7 rfl (A4 B2) ?_
     refine Bu A0 false 17 rfl rfl A7 rfl (A4 B2) ?_
     refine Ej (s':=?_) 10 rfl A7 ?_ ?_
     rotate_left
     refine A8 ?_
     refine K0 79 2 rfl rfl (A8 ?_)
     (repeat refine An ?_)
     exact Bf
     refine Ej (s':=?_) 12 rfl A7 ?_ ?_
     rotate_left
     refine A8 ?_
     (repeat refine An ?_)
     exact Bf
     refine Bu A0 false 13 rfl rfl A7 rfl (A4 B2) ?_
     refine Pj (α:=Value) (s':=?_) 14 rfl A7 ?_ ?_
     rotate_left
     refine A8 ?_
     refine I9 A0 rfl rfl rfl rfl rfl rfl (jn:=w.toNat) rfl rfl rfl (fun v3=>go A0 false ?_)
     conv=>whnf
     exact Tz v3
     intro v3
     refine Ej (s':=?_) 16 rfl A7 ?_ ?_
     rotate_left
     refine A8 ?_
     (repeat refine An ?_)
     exact Bf
     refine Ej (s':=?_) 18 rfl A7 ?_ ?_
     rotate_left
     refine A8 ?_
     (repeat refine An ?_)
     exact Bf
     refine Ej (s':=?_) 19 rfl A7 ?_ ?_
     rotate_left
     refine A8 ?_
     (repeat refine An ?_)
     exact Bf
     refine Lf [20,21,22,23,24] [⟨4,73,.rd v2⟩] A7 ?_
     refine Bm (s':=?_) A0 rfl A7 E5 ?_ ?_
     rotate_left
     refine A8 ?_
     (repeat refine An ?_)
     exact Bf
     refine Bm (s':=?_) A0 rfl A7 E5 ?_ ?_
     rotate_left
     refine A8 ?_
     refine B1 A0 rfl rfl rfl rfl rfl rfl rfl rfl rfl rfl rfl (Hv ((x.workers.getD w.toNat default).dones++[⟨(x.news.getD k default).epoch,(x.news.getD k default).capped⟩])) (Aa rfl) Bg Ab (A8 ?_)
     exact Bf
     refine Bm (s':=?_) A0 rfl A7 E5 ?_ ?_
     rotate_left
     refine A8 ?_
     refine K0 73 2 rfl rfl (A8 ?_)
     (repeat refine An ?_)
     exact Bf
     refine Bm (s':=?_) A0 rfl A7 E5 ?_ ?_
     rotate_left
     refine A8 ?_
     (repeat refine An ?_)
     exact Bf
     refine Bm (s':=?_) A0 rfl A7 E5 ?_ ?_
     rotate_left
     refine A8 ?_
     refine Ao (j:=w) A0 rfl rfl rfl rfl rfl rfl rfl rfl (Av (x.workers.set w.toNat (H2 (Ad x w) ⟨(x.news.getD k default).epoch,(x.news.getD k default).capped⟩))) (Fo hj rfl) (A8 ?_)
     exact Bf
     refine K3 A0 A7 E5 (GW.out (Ji ?_))
     conv=>whnf
     refine B1k Tryz.prog (fun _ g=>Rm 0 3 2 rfl rfl rfl g) ?_
     rw [A95 hH hd,hno,hh]
     exact Bl A0 () trivial rfl rfl rfl rfl Ay
    have hd:Gf (Ad x w) (Gt x w).epoch=true:=by rw [hno];exact (Bool.not_eq_false' _).mp hd
    refine Gu Tryz.prog 2 (w.toNat) [(0,10),(1,11),(2,12),(3,13),(4,14),(5,15),(6,16),(7,17)] (Av x.workers) hj rfl rfl Ht rfl (D5 rfl) ?_
    rw [A96 hH hd,hh]
    exact Bl A0 () trivial rfl rfl rfl rfl Ay
  have hC:¬ B6 x:=of_decide_eq_false (show B4 x=false from hok)
  repeat refine Bj ?_
  rw [A5d (fun p=>hC p.1)]
  exact Bl A0 () trivial rfl rfl rfl rfl Ay
 obtain rfl:k=x.news.length:=by omega
 repeat refine Bj ?_
 rw [A5d (fun p=>by have q:=p.2;rw [A7n he] at q;cases q)]
 exact Bl A0 () trivial rfl rfl rfl rfl Ay
theorem T5 (c:A5)(e:Int):(Cu c e).1.graph=c.graph:=by
 unfold Cu
 dsimp only
 repeat' split
 all_goals first
  |rfl
  |(unfold It;split<;>rfl)
theorem A4n (c:A5)(p:Cz):(Ar c p).1.graph=c.graph:=by
 unfold Ar
 split
 ·unfold Eh;split<;>rfl
 split
 ·unfold Du;split<;>rfl
 split
 ·unfold Cg;repeat' split
  all_goals rfl
 split
 ·unfold Dh;split<;>rfl
 split
 ·unfold Dr;split<;>rfl
 split
 ·exact T5 c p.a
 split
 ·unfold E8;repeat' split
  all_goals rfl
 rfl
theorem A2f (l:List Cz):∀s:A5×List Bool,(l.foldl Fw s).1.graph=s.1.graph:=by
 induction l with
 |nil=>intro s;rfl
 |cons p r ih=>intro s;exact (ih (Fw s p)).trans (A4n s.1 p)
theorem Pl (c:A5)(l:List Cz):(Bi c l).1.graph=c.graph:=A2f l (c,[])
theorem Xk (c:A5)(k:Nat):(Mn c k).graph=c.graph:=by
 induction k with
 |zero=>rfl
 |succ k ih=>exact (Pl (Mn c k) _).trans ih
theorem B1b {c d:A5}(h:d.graph=c.graph):Hl d=Hl c:=by
 unfold Hl
 rw [h]
def cnt (c:A5) (l:List Cz):Nat:=((Bi c l).2.filter id).length
theorem S0 {c:A5}{p:Cz}(h3:p.kind≠3)(h4:p.kind≠4):B4 (Ar c p).1=B4 c:=by
 by_cases hc:B6 c
 ·rw [T0 hc,if_neg h3,if_neg h4]
  exact (decide_eq_true hc).symm
 rw [Le hc]
set_option maxHeartbeats 4000000 in
theorem A2o (x:A5)(p:Cz)(h:x.w≤8000000)(og:Ee .i64 x.graph.workers):Cw Tryz.prog (fun _=>True) 86 [] (rc x) [.agg p.c] (fun _:Unit=>True) (fun _=>rc (Ar x p).1) (fun _=>[.one (vb (Ar x p).2)]):=by
 refine Dn A0 false Tryz.func86 rfl Aw fun B b hH hp=>?_
 conv=>whnf
 refine ⟨fun k1=>have k1:=eq_of_beq k1;?_,fun k1=>have k1:=beq_eq_false_iff_ne.1 k1;?_⟩<;>conv=>whnf
 ·have hfl:=S0 (c:=x) (p:=p) Ab Ab
  refine Aj (B1w x p.a Ab) hH hp rfl Ay rfl rfl (fun r hr=>go A0 false ?_)
  conv=>whnf
  have hz:rc (Ar x p).1=Ru (Eh x p.a).1 (B4 x):=by
   have e:Ar x p=Eh x p.a:=by unfold Ar;rw [if_pos k1]
   show Ru (Ar x p).1 (B4 (Ar x p).1)=_
   rw [hfl,e]
  have hv:(Ar x p).2=(Eh x p.a).2:=by unfold Ar;rw [if_pos k1]
  rw [hz,hv]
  exact Bl A0 () trivial rfl rfl rfl rfl Ay
 refine ⟨fun k2=>have k2:=eq_of_beq k2;?_,fun k2=>have k2:=beq_eq_false_iff_ne.1 k2;?_⟩<;>conv=>whnf
 ·have hfl:=S0 (c:=x) (p:=p) Ab Ab
  refine Aj (A73 x p.a Ab) hH hp rfl Ay rfl rfl (fun r hr=>go A0 false ?_)
  conv=>whnf
  have hz:rc (Ar x p).1=Ru (Du x p.a).1 (B4 x):=by
   have e:Ar x p=Du x p.a:=by unfold Ar;rw [if_neg k1,if_pos k2]
   show Ru (Ar x p).1 (B4 (Ar x p).1)=_
   rw [hfl,e]
  have hv:(Ar x p).2=(Du x p.a).2:=by unfold Ar;rw [if_neg k1,if_pos k2]
  rw [hz,hv]
  exact Bl A0 () trivial rfl rfl rfl rfl Ay
 refine ⟨fun k3=>have k3:=eq_of_beq k3;?_,fun k3=>have k3:=beq_eq_false_iff_ne.1 k3;?_⟩<;>conv=>whnf
 ·refine Aj (B1u x p.a h og) hH hp rfl Ay rfl rfl (fun r hr=>go A0 false ?_)
  conv=>whnf
  have e:Ar x p=Cg x p.a:=by unfold Ar;rw [if_neg k1,if_neg k2,if_pos k3]
  rw [e]
  exact Bl A0 () trivial rfl rfl rfl rfl Ay
 refine ⟨fun k4=>have k4:=eq_of_beq k4;?_,fun k4=>have k4:=beq_eq_false_iff_ne.1 k4;?_⟩<;>conv=>whnf
 ·refine Aj (B1v x p.a p.b h og) hH hp rfl Ay rfl rfl (fun r hr=>go A0 false ?_)
  conv=>whnf
  have e:Ar x p=Dh x p.a p.b:=by unfold Ar;rw [if_neg k1,if_neg k2,if_neg k3,if_pos k4]
  rw [e]
  exact Bl A0 () trivial rfl rfl rfl rfl Ay
 have hfl:=S0 (c:=x) (p:=p) k3 k4
 refine ⟨fun k5=>have k5:=eq_of_beq k5;?_,fun k5=>have k5:=beq_eq_false_iff_ne.1 k5;?_⟩<;>conv=>whnf
 ·refine Aj (A4e x p.a p.b Ab og) hH hp rfl Ay rfl rfl (fun r hr=>go A0 false ?_)
  conv=>whnf
  have hz:rc (Ar x p).1=Ru (Dr x p.a p.b).1 (B4 x):=by
   have e:Ar x p=Dr x p.a p.b:=by unfold Ar;rw [if_neg k1,if_neg k2,if_neg k3,if_neg k4,if_pos k5]
   show Ru (Ar x p).1 (B4 (Ar x p).1)=_
   rw [hfl,e]
  have hv:(Ar x p).2=(Dr x p.a p.b).2:=by unfold Ar;rw [if_neg k1,if_neg k2,if_neg k3,if_neg k4,if_pos k5]
  rw [hz,hv]
  exact Bl A0 () trivial rfl rfl rfl rfl Ay
 refine ⟨fun k6=>have k6:=eq_of_beq k6;?_,fun k6=>have k6:=beq_eq_false_iff_ne.1 k6;?_⟩<;>conv=>whnf
 ·refine Aj (A76 x p.a Ab) hH hp rfl Ay rfl rfl (fun r hr=>go A0 false ?_)
  conv=>whnf
  have hz:rc (Ar x p).1=Ru (Cu x p.a).1 (B4 x):=by
   have e:Ar x p=Cu x p.a:=by unfold Ar;rw [if_neg k1,if_neg k2,if_neg k3,if_neg k4,if_neg k5,if_pos k6]
   show Ru (Ar x p).1 (B4 (Ar x p).1)=_
   rw [hfl,e]
  have hv:(Ar x p).2=(Cu x p.a).2:=by unfold Ar;rw [if_neg k1,if_neg k2,if_neg k3,if_neg k4,if_neg k5,if_pos k6]
  rw [hz,hv]
  exact Bl A0 () trivial rfl rfl rfl rfl Ay
 refine ⟨fun k7=>have k7:=eq_of_beq k7;?_,fun k7=>have k7:=beq_eq_false_iff_ne.1 k7;?_⟩<;>conv=>whnf
 ·refine Aj (B1r x p.a Ab) hH hp rfl Ay rfl rfl (fun r hr=>go A0 false ?_)
  conv=>whnf
  have hz:rc (Ar x p).1=Ru (E8 x p.a).1 (B4 x):=by
   have e:Ar x p=E8 x p.a:=by unfold Ar;rw [if_neg k1,if_neg k2,if_neg k3,if_neg k4,if_neg k5,if_neg k6,if_pos k7]
   show Ru (Ar x p).1 (B4 (Ar x p).1)=_
   rw [hfl,e]
  have hv:(Ar x p).2=(E8 x p.a).2:=by unfold Ar;rw [if_neg k1,if_neg k2,if_neg k3,if_neg k4,if_neg k5,if_neg k6,if_pos k7]
  rw [hz,hv]
  exact Bl A0 () trivial rfl rfl rfl rfl Ay
 have e:Ar x p=(x,false):=by unfold Ar;rw [if_neg k1,if_neg k2,if_neg k3,if_neg k4,if_neg k5,if_neg k6,if_neg k7]
 rw [e]
 exact Bl A0 () trivial rfl rfl rfl rfl Ay
set_option maxHeartbeats 4000000 in
theorem R2 (x:A5)(l:List Cz)(h:x.w+4 * l.length≤8000000)(og:Ee .i64 x.graph.workers):Bo Tryz.prog 46 [.agg x.c,.one (Fg l)] [.agg (Bi x l).1.c,.one (Ek (Bi x l).2)]:=by
 refine Bh A0 false Tryz.func46 rfl Aw fun W=>?_
 conv=>whnf
 have hp:Kc ⟨W,fun _=>False⟩ []:=fun _ h=>by cases h
 have hH:∀w,Ax.rel ⟨W,fun _=>False⟩ w→True:=fun _ _=>trivial
 refine X7 (Y8 x Ab) hp rfl (fun r hr=>go A0 false ?_)
 conv=>whnf
 refine Ed 8 (Ek []) rfl De ?_
 refine C0 A0 false [11] (fun k:Nat=>[(8,.c (vi k))]) (fun k=>[⟨2,[.own 3,.c (vi (Bi x (l.take k)).1.graph.workers),.c (vi (Bi x (l.take k)).1.graph.cap),.own 4,.own 5,.own 6,.own 7,.c (vb (B4 (Bi x (l.take k)).1))]⟩,⟨1,[.c (.val (.slice none 0 0)),.c (vi 0),.c (vi 0),.c (.val (.slice none 0 0)),.c (.val (.slice none 0 0)),.c (.val (.slice none 0 0)),.c (.val (.slice none 0 0))]⟩]) (fun k=>[⟨8,Ek (Bi x (l.take k)).2⟩,⟨3,Bp (Bi x (l.take k)).1.graph.nodes⟩,⟨4,Av (Bi x (l.take k)).1.workers⟩,⟨5,Cy (Bi x (l.take k)).1.links⟩,⟨6,C9 (Bi x (l.take k)).1.tokens⟩,⟨7,Cj (Bi x (l.take k)).1.news⟩])
  (fun k=>k≤l.length) (fun k=>l.length-k) 0 (Nat.zero_le _) ⟨G9,trivial⟩ Cf ⟨Eu,Eu,Eu,Eu,Eu,Eu,trivial⟩ Cr A7 (fun k hk=>?_)
 conv=>whnf
 conv=>whnf
 refine Fi (fun hlt=>?_) fun hlt=>?_<;>conv=>whnf
 ·have hlt:k<l.length:=by omega
  have hw:=Pm (c:=x) (l:=l.take k)
  have hn:=A2g (c:=x) (l:=l.take k)
  have ht:(l.take k).length=k:=by rw [List.length_take];omega
  have hs:=Y5 (c:=x) hlt
  (repeat refine An ?_)
  refine Aj (A2o (Bi x (l.take k)).1 (l.getD k default) Ab (by rw [Pl];exact og)) hH hp rfl Ay rfl rfl (fun r2 hr2=>go A0 false ?_)
  conv=>whnf
  refine B1 A0 rfl rfl rfl rfl rfl rfl rfl rfl rfl rfl rfl (Ek ((Bi x (l.take k)).2++[(Ar (Bi x (l.take k)).1 (l.getD k default)).2])) (Aa rfl) Bg Ab (A8 ?_)
  (repeat refine An ?_)
  refine B9 [(3,9),(4,10),(5,11),(6,12),(7,13),(8,15)] (k+1) Ab Ab ⟨rfl,trivial⟩ ⟨congrArg Ek (by rw [hs];rfl),congrArg (fun s:A5×List Bool=>Bp s.1.graph.nodes) hs.symm,congrArg (fun s:A5×List Bool=>Av s.1.workers) hs.symm,congrArg (fun s:A5×List Bool=>Cy s.1.links) hs.symm,congrArg (fun s:A5×List Bool=>C9 s.1.tokens) hs.symm,congrArg (fun s:A5×List Bool=>Cj s.1.news) hs.symm,trivial⟩ (by rw [hs];repeat' (first|exact trivial|exact rfl|refine ⟨?_,?_⟩)) A7 Cr A7
 obtain rfl:k=l.length:=by omega
 rw [List.take_length]
 repeat refine Bj ?_
 refine B3 A0 rfl rfl ?_
 exact Ay
set_option maxHeartbeats 4000000 in
theorem A75 (x:A5)(l:List Cz)(h:x.w+4 * l.length≤8000000)(og:Ee .i64 x.graph.workers):Cw Tryz.prog (fun _=>True) 67 [] (rc x) [.one (Fg l)] (fun _:Unit=>True) (fun _=>rc (Bi x l).1) (fun _=>[.one (vi (cnt x l))]):=by
 refine Dn A0 false Tryz.func67 rfl Aw fun B b hH hp=>?_
 conv=>whnf
 refine C0 A0 false [] (fun k:Nat=>[(6,.c (vi k)),(5,.c (vi (cnt x (l.take k))))]) (fun k=>[⟨0,[.own 1,.c (vi (Bi x (l.take k)).1.graph.workers),.c (vi (Bi x (l.take k)).1.graph.cap),.own 2,.own 3,.own 4,.own 5,.c (vb (B4 (Bi x (l.take k)).1))]⟩]) (fun k=>[⟨1,Bp (Bi x (l.take k)).1.graph.nodes⟩,⟨2,Av (Bi x (l.take k)).1.workers⟩,⟨3,Cy (Bi x (l.take k)).1.links⟩,⟨4,C9 (Bi x (l.take k)).1.tokens⟩,⟨5,Cj (Bi x (l.take k)).1.news⟩])
  (fun k=>k≤l.length) (fun k=>l.length-k) 0 (Nat.zero_le _) ⟨G9,G9,trivial⟩ Cf ⟨Eu,Eu,Eu,Eu,Eu,trivial⟩ Cr A7 (fun k hk=>?_)
 conv=>whnf
 conv=>whnf
 refine Fi (fun hlt=>?_) fun hlt=>?_<;>conv=>whnf
 ·have hlt:k<l.length:=by omega
  have hw:=Pm (c:=x) (l:=l.take k)
  have hn:=A2g (c:=x) (l:=l.take k)
  have ht:(l.take k).length=k:=by rw [List.length_take];omega
  have hs:=Y5 (c:=x) hlt
  have hcn:cnt x (l.take (k+1))=cnt x (l.take k)+if (Ar (Bi x (l.take k)).1 (l.getD k default)).2=true then 1 else 0:=by
   unfold cnt
   rw [hs]
   show ((((Bi x (l.take k)).2++[(Ar (Bi x (l.take k)).1 (l.getD k default)).2]).filter id)).length=_
   rw [List.filter_append,List.length_append]
   cases (Ar (Bi x (l.take k)).1 (l.getD k default)).2<;>rfl
  have hcl:cnt x (l.take k)≤k:=by
   unfold cnt
   exact Nat.le_trans (List.length_filter_le _ _) Ab
  (repeat refine An ?_)
  refine Aj (A2o (Bi x (l.take k)).1 (l.getD k default) Ab (by rw [Pl];exact og)) hH hp rfl Ay rfl rfl (fun r2 hr2=>go A0 false ?_)
  conv=>whnf
  refine ⟨fun hb=>?_,fun hb=>?_⟩<;>conv=>whnf
  ·rw [if_pos hb] at hcn
   (repeat refine An ?_)
   refine B9 [(1,6),(2,7),(3,8),(4,9),(5,10)] (k+1) Ab Ab ⟨rfl,congrArg (fun n:Nat=>AV.c (vi (n:Int))) hcn.symm,trivial⟩ ⟨congrArg (fun s:A5×List Bool=>Bp s.1.graph.nodes) hs.symm,congrArg (fun s:A5×List Bool=>Av s.1.workers) hs.symm,congrArg (fun s:A5×List Bool=>Cy s.1.links) hs.symm,congrArg (fun s:A5×List Bool=>C9 s.1.tokens) hs.symm,congrArg (fun s:A5×List Bool=>Cj s.1.news) hs.symm,trivial⟩ (by rw [hs];repeat' (first|exact trivial|exact rfl|refine ⟨?_,?_⟩)) A7 Cr A7
  rw [if_neg (by rw [hb];decide)] at hcn
  (repeat refine An ?_)
  refine B9 [(1,6),(2,7),(3,8),(4,9),(5,10)] (k+1) Ab Ab ⟨rfl,congrArg (fun n:Nat=>AV.c (vi (n:Int))) hcn.symm,trivial⟩ ⟨congrArg (fun s:A5×List Bool=>Bp s.1.graph.nodes) hs.symm,congrArg (fun s:A5×List Bool=>Av s.1.workers) hs.symm,congrArg (fun s:A5×List Bool=>Cy s.1.links) hs.symm,congrArg (fun s:A5×List Bool=>C9 s.1.tokens) hs.symm,congrArg (fun s:A5×List Bool=>Cj s.1.news) hs.symm,trivial⟩ (by rw [hs];repeat' (first|exact trivial|exact rfl|refine ⟨?_,?_⟩)) A7 Cr A7
 obtain rfl:k=l.length:=by omega
 rw [List.take_length]
 repeat refine Bj ?_
 exact Bl A0 () trivial rfl rfl rfl rfl Ay
theorem Xc (n:Nat):∀c:A5,(Dt n c).1.w≤c.w+176 * n:=by
 induction n with
 |zero=>intro c;exact Nat.le_refl _
 |succ n ih=>
  intro c
  have h1:=A52 (c:=c)
  rw [Dt]
  split
  ·show (Ck c).1.w≤_
   omega
  have h2:=ih (Ck c).1
  show (Dt n (Ck c).1).1.w≤_
  omega
end Go.Proofs.YtdendlkeiaccpaaGreatDoor
