/- Part 30 of the proof that each of the laws FnTotals returns true for every input. No conditions. -/
import Derived.Test.YtdendlkeiaccpaaGreatP5
import Derived.Test.YtdendlkeiaccpaaGreatP27
import Derived.Test.YtdendlkeiaccpaaGreatP19
import Derived.Test.YtdendlkeiaccpaaGreatP29
import Derived.Test.YtdendlkeiaccpaaGreatP17
import Derived.Test.YtdendlkeiaccpaaGreatP20
import Derived.Test.YtdendlkeiaccpaaGreatP14

set_option linter.unusedSimpArgs false
set_option linter.unusedVariables false
set_option maxRecDepth 100000
namespace Go.Proofs.YtdendlkeiaccpaaGreat
open Go.Sx
theorem V7 (l:List Fm)(k:Nat):Ph (l.take k).length (l.drop (k+1)).length 3 (fun i=>Fm.c ((l.take k).getD i default)) (fun i=>Fm.c ((l.drop (k+1)).getD i default)) (Ch (l.take k++l.drop (k+1))):=F8 3 Fm.c _ _
theorem A2z {c:A6}{w:Int}{k:Nat}(hk:k<c.news.length)(hb:∀i,i<k→Ky w (c.news.getD i default)=false)(h:Ky w (c.news.getD k default)=true):P5 c w=k∧c.news.any (Ky w)=true:=⟨P0 _ _ k hk hb h,Mz hk h⟩
theorem A6v {c:A6}{w:Int}(hb:∀i,i<c.news.length→Ky w (c.news.getD i default)=false):c.news.any (Ky w)=false:=by
 rw [List.any_eq_false]
 intro y hy
 obtain ⟨i,hi,rfl⟩:=List.getElem_of_mem hy
 have:=hb i hi
 rw [show c.news.getD i default=c.news[i] by simp [List.getD,hi]] at this
 simpa using this
set_option maxHeartbeats 8000000 in
theorem B03 (x:A6)(w:Int)(h:x.w≤16000000):Cr Tryz.prog (fun _=>True) 165 [] (rc x) [.one (vi w)] (fun _:Unit=>True) (fun _=>Rc (Dw x w).1 (B3 x)) (fun _=>[.one (vb (Dw x w).2)]):=by
 have hnl:=A6.news_le h
 refine Df A0 false Tryz.func165 rfl Aw fun B b hH hp=>?_
 conv=>whnf
 refine Bv A0 false [6] (fun k:Nat=>[(5,.c (vi k))]) (fun k=>[⟨0,[.own 1,.c (vi x.graph.workers),.c (vi x.graph.cap),.own 2,.own 3,.own 4,.own 5,.c (vb (B3 x))]⟩]) (fun k=>[⟨1,Br x.graph.nodes⟩,⟨2,Ar x.workers⟩,⟨3,Ct x.links⟩,⟨4,C9 x.tokens⟩,⟨5,Ch x.news⟩])
  (fun k=>k≤x.news.length∧∀i,i<k→Ky w (x.news.getD i default)=false) (fun k=>x.news.length-k) 0 ⟨Nat.zero_le _,by first|rfl|assumption|simp⟩ ⟨F3,trivial⟩ Cf ⟨F2,F2,F2,F2,F2,trivial⟩ Cj A7 (fun k hk=>?_)
 obtain ⟨hk,he⟩:=hk
 conv=>whnf
 conv=>whnf
 refine Es (fun h1=>?_) fun h1=>?_<;>conv=>whnf
 ·have h1:k<x.news.length:=by omega
  repeat refine B7 ?_
  refine ⟨fun hok=>?_,fun hok=>?_⟩<;>conv=>whnf
  ·have hC:B4 x:=of_decide_eq_true (show B3 x=true from hok)
   repeat refine B7 ?_
   (repeat refine Am ?_)
   refine ⟨fun h2=>have h2:=bne_iff_ne.1 h2;?_,fun h2=>have h2:=bne_eq_false_iff_eq.1 h2;?_⟩<;>conv=>whnf
   ·rw [Int.toNat_natCast] at h2
    have h2':Ky w (x.news.getD k default)=false:=by simpa [Ky] using h2
    (repeat refine Am ?_)
    refine B6 [] (k+1) ⟨by omega,fun i hi=>(Nat.lt_succ_iff_lt_or_eq.1 hi).elim (fun h4=>he i h4) (fun h4=>by subst h4;exact h2')⟩ Ab ⟨rfl,trivial⟩ ⟨rfl,rfl,rfl,rfl,rfl,trivial⟩ Cf A7 Cj A7
   rw [Int.toNat_natCast] at h2
   have h2':Ky w (x.news.getD k default)=true:=by simpa [Ky] using h2
   obtain ⟨hat,hA⟩:=A2z h1 he h2'
   have hH:B4 x∧x.news.any (Ky w)=true:=⟨hC,hA⟩
   have hno:Gg x w=x.news.getD k default:=by unfold Gg;rw [hat]
   have hwn:=hC.2.2.2.2 _ (B9 (d:=default) h1)
   have hwl:=hC.1.2.1
   have hwb:0≤w∧w<x.workers.length:=by
    have:=hwn.1
    omega
   have hj:w.toNat<x.workers.length:=by omega
   have hww:=A6.worker_le h hj
   have hdl:(x.workers.getD w.toNat default).dones.length≤(x.workers.getD w.toNat default).w:=by simp only [Ac.w];omega
   have htk:=List.length_take_le k x.news
   refine A89 0 6 5 rfl rfl rfl ?_
   have hh:Kq x w=⟨x.graph,x.workers,x.links,x.tokens,x.news.take k++x.news.drop (k+1)⟩:=by
    unfold Kq
    rw [hat,A81]
   refine Je rfl ?_
   refine Bu A0 false 0 rfl rfl A7 rfl (A4 B1) ?_
   refine Bu A0 false 2 rfl rfl A7 rfl (A4 B1) ?_
   refine Bu A0 false 3 rfl rfl A7 rfl (A4 B1) ?_
   refine Bu A0 false 4 rfl rfl A7 rfl (A4 B1) ?_
   refine Bu A0 false 5 rfl rfl A7 rfl (A4 B1) ?_
   refine Bu A0 false 7 rfl rfl A7 rfl (A4 B1) ?_
   refine Bu A0 false 10 rfl rfl A7 rfl (A4 B1) ?_
   refine Bu A0 false 11 rfl rfl A7 rfl (A4 B1) ?_
   refine Bu A0 false 12 rfl rfl A7 rfl (A4 B1) ?_
   refine Bu A0 false 13 rfl rfl A7 rfl (A4 B1) ?_
   refine Bu A0 false 15 rfl rfl A7 rfl (A4 B1) ?_
   refine Bu A0 false 16 rfl rfl A7 rfl (A4 B1) ?_
   refine Dt (s':=?_) 6 rfl A7 ?_ ?_
   rotate_left
   refine A8 ?_
   (repeat refine Am ?_)
   exact Bh
   refine Dt (s':=?_) 8 rfl A7 ?_ ?_
   rotate_left
   refine A8 ?_
   refine Nk A0 rfl rfl rfl rfl rfl rfl rfl (l:=0) (h:=(k:Int)) rfl rfl ⟨by omega,by omega,by omega⟩ (Ch (x.news.take k)) (Rl Ab) (A8 ?_)
   exact Bh
   refine Ng [9,14,17,18,19,20,21,22] [⟨1,36,.emp 3⟩] A7 ?_
   refine L6 (s1:=?_) (s2:=?_) A0 [9,14,17,18,19,20,21,22] 9 14 [14,17,18,19,20,21,22] [9,17,18,19,20,21,22] rfl rfl A7 Dx Aw Aw ?_ ?_ ?_ ?_
   rotate_left 2
   refine A8 ?_
   refine Av A0 rfl rfl rfl rfl rfl rfl rfl rfl rfl rfl rfl (Ch (x.news.take k)) (Cc) (fun _=>Ga _) Ab (A8 ?_)
   exact Bh
   refine Bp (s':=?_) A0 rfl A7 Dx ?_ ?_
   rotate_left
   refine A8 ?_
   (repeat refine Am ?_)
   exact Bh
   refine Bp (s':=?_) A0 rfl A7 Dx ?_ ?_
   rotate_left
   refine A8 ?_
   refine Nk A0 rfl rfl rfl rfl rfl rfl rfl (l:=(k:Int)+1) (h:=(x.news.length:Int)) rfl rfl ⟨by omega,by omega,by omega⟩ (Ch (x.news.drop (k+1))) (Fw (k:=k+1) h1) (A8 ?_)
   exact Bh
   refine Bp (s':=?_) A0 rfl A7 Dx ?_ ?_
   rotate_left
   refine A8 ?_
   refine Av A0 rfl rfl rfl rfl rfl rfl rfl rfl rfl rfl rfl (Ch (x.news.take k++x.news.drop (k+1))) (V7 x.news k) (fun _=>Ga _) (by (rw [List.length_take,List.length_drop];omega)) (A8 ?_)
   exact Bh
   refine Bp (s':=?_) A0 rfl A7 Dx ?_ ?_
   rotate_left
   refine A8 ?_
   (repeat refine Am ?_)
   exact Bh
   refine Bp (s':=?_) A0 rfl A7 Dx ?_ ?_
   rotate_left
   refine A8 ?_
   (repeat refine Am ?_)
   exact Bh
   refine Bp (s':=?_) A0 rfl A7 Dx ?_ ?_
   rotate_left
   refine A8 ?_
   (repeat refine Am ?_)
   exact Bh
   refine Bp (s':=?_) A0 rfl A7 Dx ?_ ?_
   rotate_left
   refine A8 ?_
   (repeat refine Am ?_)
   exact Bh
   refine L0 A0 A7 Dx (GW.out (Jf ?_))
   conv=>whnf
   rotate_left 1
   refine A8 ?_
   (repeat refine Am ?_)
   exact Bh
   refine L6 (s1:=?_) (s2:=?_) A0 [9,17,18,19,20,21,22] 9 17 [17,18,19,20,21,22] [9,18,19,20,21,22] rfl rfl A7 Dx Aw Aw ?_ ?_ ?_ ?_
   rotate_left 2
   refine A8 ?_
   refine Av A0 rfl rfl rfl rfl rfl rfl rfl rfl rfl rfl rfl (Ch (x.news.take k)) (Cc) (fun _=>Ga _) Ab (A8 ?_)
   exact Bh
   refine Bp (s':=?_) A0 rfl A7 Dx ?_ ?_
   rotate_left
   refine A8 ?_
   refine Nk A0 rfl rfl rfl rfl rfl rfl rfl (l:=(k:Int)+1) (h:=(x.news.length:Int)) rfl rfl ⟨by omega,by omega,by omega⟩ (Ch (x.news.drop (k+1))) (Fw (k:=k+1) h1) (A8 ?_)
   exact Bh
   refine Bp (s':=?_) A0 rfl A7 Dx ?_ ?_
   rotate_left
   refine A8 ?_
   refine Av A0 rfl rfl rfl rfl rfl rfl rfl rfl rfl rfl rfl (Ch (x.news.take k++x.news.drop (k+1))) (V7 x.news k) (fun _=>Ga _) (by (rw [List.length_take,List.length_drop];omega)) (A8 ?_)
   exact Bh
   refine Bp (s':=?_) A0 rfl A7 Dx ?_ ?_
   rotate_left
   refine A8 ?_
   (repeat refine Am ?_)
   exact Bh
   refine Bp (s':=?_) A0 rfl A7 Dx ?_ ?_
   rotate_left
   refine A8 ?_
   (repeat refine Am ?_)
   exact Bh
   refine Bp (s':=?_) A0 rfl A7 Dx ?_ ?_
   rotate_left
   refine A8 ?_
   (repeat refine Am ?_)
   exact Bh
   refine Bp (s':=?_) A0 rfl A7 Dx ?_ ?_
   rotate_left
   refine A8 ?_
   (repeat refine Am ?_)
   exact Bh
   refine L0 A0 A7 Dx (GW.out (Jf ?_))
   conv=>whnf
   rotate_left 1
   refine A8 ?_
   refine Nk A0 rfl rfl rfl rfl rfl rfl rfl (l:=(k:Int)+1) (h:=(x.news.length:Int)) rfl rfl ⟨by omega,by omega,by omega⟩ (Ch (x.news.drop (k+1))) (Fw (k:=k+1) h1) (A8 ?_)
   exact Bh
   refine Bp (s':=?_) A0 rfl A7 Dx ?_ ?_
   rotate_left
   refine A8 ?_
   refine Av A0 rfl rfl rfl rfl rfl rfl rfl rfl rfl rfl rfl (Ch (x.news.take k)) (Cc) (fun _=>Ga _) Ab (A8 ?_)
   exact Bh
   refine Bp (s':=?_) A0 rfl A7 Dx ?_ ?_
   rotate_left
   refine A8 ?_
   refine Av A0 rfl rfl rfl rfl rfl rfl rfl rfl rfl rfl rfl (Ch (x.news.take k++x.news.drop (k+1))) (V7 x.news k) (fun _=>Ga _) (by (rw [List.length_take,List.length_drop];omega)) (A8 ?_)
   exact Bh
   refine Bp (s':=?_) A0 rfl A7 Dx ?_ ?_
   rotate_left
   refine A8 ?_
   (repeat refine Am ?_)
   exact Bh
   refine Bp (s':=?_) A0 rfl A7 Dx ?_ ?_
   rotate_left
   refine A8 ?_
   (repeat refine Am ?_)
   exact Bh
   refine Bp (s':=?_) A0 rfl A7 Dx ?_ ?_
   rotate_left
   refine A8 ?_
   (repeat refine Am ?_)
   exact Bh
   refine Bp (s':=?_) A0 rfl A7 Dx ?_ ?_
   rotate_left
   refine A8 ?_
   (repeat refine Am ?_)
   exact Bh
   refine L0 A0 A7 Dx (GW.out (Jf ?_))
   conv=>whnf
   all_goals
    first|(refine B5 6 rfl [0,2,3,4,5,6,7,8,10,11,12,13,14,15,16,17,1,9,18,19,20,21,22] A7 (A8 ?_))|(refine B5 7 rfl [0,1,2,3,4,5,6,7,8,9,10,11] A7 (A8 ?_))|(refine B5 8 rfl [0,1,2,3,4,5,6,7,8,9,10,11,12,13,14,15,16,17,18,19,20,21,22,23,24] A7 (A8 ?_))
    (repeat refine Am ?_)
    refine Up A0 rfl rfl rfl rfl rfl (jn:=w.toNat) rfl (r:=Ac.c ((x.workers).getD (w.toNat) default)) rfl hj rfl rfl (fun u=>go A0 false ?_)
    conv=>whnf
    refine Az (Vb (x.workers.getD w.toNat default) (x.news.getD k default).epoch Ab) rfl (A8 ?_)
    refine ⟨fun hd=>?_,fun hd=>?_⟩<;>conv=>whnf
    ·have hd:G0 (Af x w) (Gg x w).epoch=false:=by rw [hno];exact (Bool.not_eq_true' _).mp hd
     refine Mq 2 (w.toNat) [(0,10),(1,11),(2,12),(3,13),(4,14),(5,15),(6,16),(7,17)] (Ar x.workers) hj rfl rfl Hi rfl (D0 rfl) (Jf ?_)
     conv=>whnf
     refine R7 0 3 2 rfl rfl (fun v2=>?_)
     refine Xc 0 3 rfl rfl (fun ho_v2=>?_)
     refine Je rfl ?_
     refine Bu A0 false 0 rfl rfl A7 rfl (A4 B1) ?_
     refine Bu A0 false 1 rfl rfl A7 rfl (A4 B1) ?_
     refine Bu A0 false 2 rfl rfl A7 rfl (A4 B1) ?_
     refine Bu A0 false 3 rfl rfl A7 rfl (A4 B1) ?_
     refine Bu A0 false 5 rfl rfl A7 rfl (A4 B1) ?_
     refine Bu A0 false 6 rfl rfl A7 rfl (A4 B1) ?_
     refine Bu A0 false 7 rfl rfl A7 rfl (A4 B1) ?_
     refine Bu A0 false 8 rfl rfl A7 rfl (A4 B1) ?_
     refine Bu A0 false 9 rfl rfl A7 rfl (A4 B1) ?_
     refine Bu A0 false 11 rfl rfl A7 rfl (A4 B1) ?_
     refine Bu A0 false 15 rfl rfl A7 rfl (A4 B1) ?_
     refine Bu A0 false 17 rfl rfl A7 rfl (A4 B1) ?_
     refine Dt (s':=?_) 10 rfl A7 ?_ ?_
     rotate_left
     refine A8 ?_
     refine Jw 79 2 rfl rfl (A8 ?_)
     (repeat refine Am ?_)
     exact Bh
     refine Dt (s':=?_) 12 rfl A7 ?_ ?_
     rotate_left
     refine A8 ?_
     (repeat refine Am ?_)
     exact Bh
     refine Bu A0 false 13 rfl rfl A7 rfl (A4 B1) ?_
     refine P7 (α:=Value) (s':=?_) 14 rfl A7 ?_ ?_
     rotate_left
     refine A8 ?_
     refine I1 A0 rfl rfl rfl rfl rfl rfl (jn:=w.toNat) rfl rfl rfl (fun v3=>go A0 false ?_)
     conv=>whnf
     exact Tn v3
     intro v3
     refine Dt (s':=?_) 16 rfl A7 ?_ ?_
     rotate_left
     refine A8 ?_
     (repeat refine Am ?_)
     exact Bh
     refine Dt (s':=?_) 18 rfl A7 ?_ ?_
     rotate_left
     refine A8 ?_
     (repeat refine Am ?_)
     exact Bh
     refine Dt (s':=?_) 19 rfl A7 ?_ ?_
     rotate_left
     refine A8 ?_
     (repeat refine Am ?_)
     exact Bh
     refine Ng [20,21,22,23,24] [⟨4,73,.rd v2⟩] A7 ?_
     refine Bp (s':=?_) A0 rfl A7 Dx ?_ ?_
     rotate_left
     refine A8 ?_
     (repeat refine Am ?_)
     exact Bh
     refine Bp (s':=?_) A0 rfl A7 Dx ?_ ?_
     rotate_left
     refine A8 ?_
     refine Av A0 rfl rfl rfl rfl rfl rfl rfl rfl rfl rfl rfl (Il ((x.workers.getD w.toNat default).dones++[⟨(x.news.getD k default).epoch,(x.news.getD k default).capped⟩])) (Ad rfl) Bj Ab (A8 ?_)
     exact Bh
     refine Bp (s':=?_) A0 rfl A7 Dx ?_ ?_
     rotate_left
     refine A8 ?_
     refine Jw 73 2 rfl rfl (A8 ?_)
     (repeat refine Am ?_)
     exact Bh
     refine Bp (s':=?_) A0 rfl A7 Dx ?_ ?_
     rotate_left
     refine A8 ?_
     (repeat refine Am ?_)
     exact Bh
     refine Bp (s':=?_) A0 rfl A7 Dx ?_ ?_
     rotate_left
     refine A8 ?_
     refine Al (j:=w) A0 rfl rfl rfl rfl rfl rfl rfl rfl (Ar (x.workers.set w.toNat (Gr (Af x w) ⟨(x.news.getD k default).epoch,(x.news.getD k default).capped⟩))) (Fg hj rfl) (A8 ?_)
     exact Bh
     refine L0 A0 A7 Dx (GW.out (Jf ?_))
     conv=>whnf
     refine B3h Tryz.prog (fun _ g=>R3 0 3 2 rfl rfl rfl g) ?_
     rw [A9e hH hd,hno,hh]
     exact Bm A0 () trivial rfl rfl rfl rfl At
    have hd:G0 (Af x w) (Gg x w).epoch=true:=by rw [hno];exact (Bool.not_eq_false' _).mp hd
    refine Gi Tryz.prog 2 (w.toNat) [(0,10),(1,11),(2,12),(3,13),(4,14),(5,15),(6,16),(7,17)] (Ar x.workers) hj rfl rfl Hi rfl (D0 rfl) ?_
    rw [A9f hH hd,hh]
    exact Bm A0 () trivial rfl rfl rfl rfl At
  have hC:¬ B4 x:=of_decide_eq_false (show B3 x=false from hok)
  repeat refine B7 ?_
  rw [A4p (fun p=>hC p.1)]
  exact Bm A0 () trivial rfl rfl rfl rfl At
 obtain rfl:k=x.news.length:=by omega
 repeat refine B7 ?_
 rw [A4p (fun p=>by have q:=p.2;rw [A6v he] at q;cases q)]
 exact Bm A0 () trivial rfl rfl rfl rfl At
theorem Ss (c:A6)(e:Int):(Cq c e).1.graph=c.graph:=by
 unfold Cq
 dsimp only
 repeat' split
 all_goals first
  |rfl
  |(unfold Ip;split<;>rfl)
theorem A3v (c:A6)(p:D5):(As c p).1.graph=c.graph:=by
 unfold As
 split
 ·unfold E5;split<;>rfl
 split
 ·unfold Dn;split<;>rfl
 split
 ·unfold Ce;repeat' split
  all_goals rfl
 split
 ·unfold D9;split<;>rfl
 split
 ·unfold Dl;split<;>rfl
 split
 ·exact Ss c p.a
 split
 ·unfold Dw;repeat' split
  all_goals rfl
 rfl
theorem A1k (l:List D5):∀s:A6×List Bool,(l.foldl Gh s).1.graph=s.1.graph:=by
 induction l with
 |nil=>intro s;rfl
 |cons p r ih=>intro s;exact (ih (Gh s p)).trans (A3v s.1 p)
theorem P9 (c:A6)(l:List D5):(Bk c l).1.graph=c.graph:=A1k l (c,[])
theorem X1 (c:A6)(k:Nat):(Ml c k).graph=c.graph:=by
 induction k with
 |zero=>rfl
 |succ k ih=>exact (P9 (Ml c k) _).trans ih
theorem B0m {c d:A6}(h:d.graph=c.graph):Hb d=Hb c:=by
 unfold Hb
 rw [h]
def cnt (c:A6) (l:List D5):Nat:=((Bk c l).2.filter id).length
theorem Rk {c:A6}{p:D5}(h3:p.kind≠3)(h4:p.kind≠4):B3 (As c p).1=B3 c:=by
 by_cases hc:B4 c
 ·rw [Sh hc,if_neg h3,if_neg h4]
  exact (decide_eq_true hc).symm
 rw [Nu hc]
set_option maxHeartbeats 4000000 in
theorem A1s (x:A6)(p:D5)(h:x.w≤8000000)(og:Et .i64 x.graph.workers):Cr Tryz.prog (fun _=>True) 127 [] (rc x) [.agg p.c] (fun _:Unit=>True) (fun _=>rc (As x p).1) (fun _=>[.one (vb (As x p).2)]):=by
 refine Df A0 false Tryz.func127 rfl Aw fun B b hH hp=>?_
 conv=>whnf
 refine ⟨fun k1=>have k1:=eq_of_beq k1;?_,fun k1=>have k1:=beq_eq_false_iff_ne.1 k1;?_⟩<;>conv=>whnf
 ·have hfl:=Rk (c:=x) (p:=p) Ab Ab
  refine Ai (B08 x p.a Ab) hH hp rfl At rfl rfl (fun r hr=>go A0 false ?_)
  conv=>whnf
  have hz:rc (As x p).1=Rc (E5 x p.a).1 (B3 x):=by
   have e:As x p=E5 x p.a:=by unfold As;rw [if_pos k1]
   show Rc (As x p).1 (B3 (As x p).1)=_
   rw [hfl,e]
  have hv:(As x p).2=(E5 x p.a).2:=by unfold As;rw [if_pos k1]
  rw [hz,hv]
  exact Bm A0 () trivial rfl rfl rfl rfl At
 refine ⟨fun k2=>have k2:=eq_of_beq k2;?_,fun k2=>have k2:=beq_eq_false_iff_ne.1 k2;?_⟩<;>conv=>whnf
 ·have hfl:=Rk (c:=x) (p:=p) Ab Ab
  refine Ai (A7e x p.a Ab) hH hp rfl At rfl rfl (fun r hr=>go A0 false ?_)
  conv=>whnf
  have hz:rc (As x p).1=Rc (Dn x p.a).1 (B3 x):=by
   have e:As x p=Dn x p.a:=by unfold As;rw [if_neg k1,if_pos k2]
   show Rc (As x p).1 (B3 (As x p).1)=_
   rw [hfl,e]
  have hv:(As x p).2=(Dn x p.a).2:=by unfold As;rw [if_neg k1,if_pos k2]
  rw [hz,hv]
  exact Bm A0 () trivial rfl rfl rfl rfl At
 refine ⟨fun k3=>have k3:=eq_of_beq k3;?_,fun k3=>have k3:=beq_eq_false_iff_ne.1 k3;?_⟩<;>conv=>whnf
 ·refine Ai (B06 x p.a h og) hH hp rfl At rfl rfl (fun r hr=>go A0 false ?_)
  conv=>whnf
  have e:As x p=Ce x p.a:=by unfold As;rw [if_neg k1,if_neg k2,if_pos k3]
  rw [e]
  exact Bm A0 () trivial rfl rfl rfl rfl At
 refine ⟨fun k4=>have k4:=eq_of_beq k4;?_,fun k4=>have k4:=beq_eq_false_iff_ne.1 k4;?_⟩<;>conv=>whnf
 ·refine Ai (B07 x p.a p.b h og) hH hp rfl At rfl rfl (fun r hr=>go A0 false ?_)
  conv=>whnf
  have e:As x p=D9 x p.a p.b:=by unfold As;rw [if_neg k1,if_neg k2,if_neg k3,if_pos k4]
  rw [e]
  exact Bm A0 () trivial rfl rfl rfl rfl At
 have hfl:=Rk (c:=x) (p:=p) k3 k4
 refine ⟨fun k5=>have k5:=eq_of_beq k5;?_,fun k5=>have k5:=beq_eq_false_iff_ne.1 k5;?_⟩<;>conv=>whnf
 ·refine Ai (A3k x p.a p.b Ab og) hH hp rfl At rfl rfl (fun r hr=>go A0 false ?_)
  conv=>whnf
  have hz:rc (As x p).1=Rc (Dl x p.a p.b).1 (B3 x):=by
   have e:As x p=Dl x p.a p.b:=by unfold As;rw [if_neg k1,if_neg k2,if_neg k3,if_neg k4,if_pos k5]
   show Rc (As x p).1 (B3 (As x p).1)=_
   rw [hfl,e]
  have hv:(As x p).2=(Dl x p.a p.b).2:=by unfold As;rw [if_neg k1,if_neg k2,if_neg k3,if_neg k4,if_pos k5]
  rw [hz,hv]
  exact Bm A0 () trivial rfl rfl rfl rfl At
 refine ⟨fun k6=>have k6:=eq_of_beq k6;?_,fun k6=>have k6:=beq_eq_false_iff_ne.1 k6;?_⟩<;>conv=>whnf
 ·refine Ai (A7h x p.a Ab) hH hp rfl At rfl rfl (fun r hr=>go A0 false ?_)
  conv=>whnf
  have hz:rc (As x p).1=Rc (Cq x p.a).1 (B3 x):=by
   have e:As x p=Cq x p.a:=by unfold As;rw [if_neg k1,if_neg k2,if_neg k3,if_neg k4,if_neg k5,if_pos k6]
   show Rc (As x p).1 (B3 (As x p).1)=_
   rw [hfl,e]
  have hv:(As x p).2=(Cq x p.a).2:=by unfold As;rw [if_neg k1,if_neg k2,if_neg k3,if_neg k4,if_neg k5,if_pos k6]
  rw [hz,hv]
  exact Bm A0 () trivial rfl rfl rfl rfl At
 refine ⟨fun k7=>have k7:=eq_of_beq k7;?_,fun k7=>have k7:=beq_eq_false_iff_ne.1 k7;?_⟩<;>conv=>whnf
 ·refine Ai (B03 x p.a Ab) hH hp rfl At rfl rfl (fun r hr=>go A0 false ?_)
  conv=>whnf
  have hz:rc (As x p).1=Rc (Dw x p.a).1 (B3 x):=by
   have e:As x p=Dw x p.a:=by unfold As;rw [if_neg k1,if_neg k2,if_neg k3,if_neg k4,if_neg k5,if_neg k6,if_pos k7]
   show Rc (As x p).1 (B3 (As x p).1)=_
   rw [hfl,e]
  have hv:(As x p).2=(Dw x p.a).2:=by unfold As;rw [if_neg k1,if_neg k2,if_neg k3,if_neg k4,if_neg k5,if_neg k6,if_pos k7]
  rw [hz,hv]
  exact Bm A0 () trivial rfl rfl rfl rfl At
 have e:As x p=(x,false):=by unfold As;rw [if_neg k1,if_neg k2,if_neg k3,if_neg k4,if_neg k5,if_neg k6,if_neg k7]
 rw [e]
 exact Bm A0 () trivial rfl rfl rfl rfl At
set_option maxHeartbeats 4000000 in
theorem Qk (x:A6)(l:List D5)(h:x.w+4 * l.length≤8000000)(og:Et .i64 x.graph.workers):Bi Tryz.prog 94 [.agg x.c,.one (F7 l)] [.agg (Bk x l).1.c,.one (Eg (Bk x l).2)]:=by
 refine Bd A0 false Tryz.func94 rfl Aw fun W=>?_
 conv=>whnf
 have hp:K8 ⟨W,fun _=>False⟩ []:=fun _ h=>by cases h
 have hH:∀w,B0.rel ⟨W,fun _=>False⟩ w→True:=fun _ _=>trivial
 refine A4e (Xl x Ab) hp rfl (fun r hr=>go A0 false ?_)
 conv=>whnf
 refine Dv 8 (Eg []) rfl Ds ?_
 refine Bv A0 false [11] (fun k:Nat=>[(8,.c (vi k))]) (fun k=>[⟨2,[.own 3,.c (vi (Bk x (l.take k)).1.graph.workers),.c (vi (Bk x (l.take k)).1.graph.cap),.own 4,.own 5,.own 6,.own 7,.c (vb (B3 (Bk x (l.take k)).1))]⟩,⟨1,[.c (.val (.slice none 0 0)),.c (vi 0),.c (vi 0),.c (.val (.slice none 0 0)),.c (.val (.slice none 0 0)),.c (.val (.slice none 0 0)),.c (.val (.slice none 0 0))]⟩]) (fun k=>[⟨8,Eg (Bk x (l.take k)).2⟩,⟨3,Br (Bk x (l.take k)).1.graph.nodes⟩,⟨4,Ar (Bk x (l.take k)).1.workers⟩,⟨5,Ct (Bk x (l.take k)).1.links⟩,⟨6,C9 (Bk x (l.take k)).1.tokens⟩,⟨7,Ch (Bk x (l.take k)).1.news⟩])
  (fun k=>k≤l.length) (fun k=>l.length-k) 0 (Nat.zero_le _) ⟨F3,trivial⟩ Cf ⟨F2,F2,F2,F2,F2,F2,trivial⟩ Cj A7 (fun k hk=>?_)
 conv=>whnf
 conv=>whnf
 refine Es (fun hlt=>?_) fun hlt=>?_<;>conv=>whnf
 ·have hlt:k<l.length:=by omega
  have hw:=V3 (c:=x) (l:=l.take k)
  have hn:=A1l (c:=x) (l:=l.take k)
  have ht:(l.take k).length=k:=by rw [List.length_take];omega
  have hs:=Xj (c:=x) hlt
  (repeat refine Am ?_)
  refine Ai (A1s (Bk x (l.take k)).1 (l.getD k default) Ab (by rw [P9];exact og)) hH hp rfl At rfl rfl (fun r2 hr2=>go A0 false ?_)
  conv=>whnf
  refine Av A0 rfl rfl rfl rfl rfl rfl rfl rfl rfl rfl rfl (Eg ((Bk x (l.take k)).2++[(As (Bk x (l.take k)).1 (l.getD k default)).2])) (Ad rfl) Bj Ab (A8 ?_)
  (repeat refine Am ?_)
  refine B6 [(3,9),(4,10),(5,11),(6,12),(7,13),(8,15)] (k+1) Ab Ab ⟨rfl,trivial⟩ ⟨congrArg Eg (by rw [hs];rfl),congrArg (fun s:A6×List Bool=>Br s.1.graph.nodes) hs.symm,congrArg (fun s:A6×List Bool=>Ar s.1.workers) hs.symm,congrArg (fun s:A6×List Bool=>Ct s.1.links) hs.symm,congrArg (fun s:A6×List Bool=>C9 s.1.tokens) hs.symm,congrArg (fun s:A6×List Bool=>Ch s.1.news) hs.symm,trivial⟩ (by rw [hs];repeat' (first|exact trivial|exact rfl|refine ⟨?_,?_⟩)) A7 Cj A7
 obtain rfl:k=l.length:=by omega
 rw [List.take_length]
 repeat refine B7 ?_
 refine B2 A0 rfl rfl ?_
 exact At
set_option maxHeartbeats 4000000 in
theorem A7g (x:A6)(l:List D5)(h:x.w+4 * l.length≤8000000)(og:Et .i64 x.graph.workers):Cr Tryz.prog (fun _=>True) 119 [] (rc x) [.one (F7 l)] (fun _:Unit=>True) (fun _=>rc (Bk x l).1) (fun _=>[.one (vi (cnt x l))]):=by
 refine Df A0 false Tryz.func119 rfl Aw fun B b hH hp=>?_
 conv=>whnf
 refine Bv A0 false [] (fun k:Nat=>[(6,.c (vi k)),(5,.c (vi (cnt x (l.take k))))]) (fun k=>[⟨0,[.own 1,.c (vi (Bk x (l.take k)).1.graph.workers),.c (vi (Bk x (l.take k)).1.graph.cap),.own 2,.own 3,.own 4,.own 5,.c (vb (B3 (Bk x (l.take k)).1))]⟩]) (fun k=>[⟨1,Br (Bk x (l.take k)).1.graph.nodes⟩,⟨2,Ar (Bk x (l.take k)).1.workers⟩,⟨3,Ct (Bk x (l.take k)).1.links⟩,⟨4,C9 (Bk x (l.take k)).1.tokens⟩,⟨5,Ch (Bk x (l.take k)).1.news⟩])
  (fun k=>k≤l.length) (fun k=>l.length-k) 0 (Nat.zero_le _) ⟨F3,F3,trivial⟩ Cf ⟨F2,F2,F2,F2,F2,trivial⟩ Cj A7 (fun k hk=>?_)
 conv=>whnf
 conv=>whnf
 refine Es (fun hlt=>?_) fun hlt=>?_<;>conv=>whnf
 ·have hlt:k<l.length:=by omega
  have hw:=V3 (c:=x) (l:=l.take k)
  have hn:=A1l (c:=x) (l:=l.take k)
  have ht:(l.take k).length=k:=by rw [List.length_take];omega
  have hs:=Xj (c:=x) hlt
  have hcn:cnt x (l.take (k+1))=cnt x (l.take k)+if (As (Bk x (l.take k)).1 (l.getD k default)).2=true then 1 else 0:=by
   unfold cnt
   rw [hs]
   show ((((Bk x (l.take k)).2++[(As (Bk x (l.take k)).1 (l.getD k default)).2]).filter id)).length=_
   rw [List.filter_append,List.length_append]
   cases (As (Bk x (l.take k)).1 (l.getD k default)).2<;>rfl
  have hcl:cnt x (l.take k)≤k:=by
   unfold cnt
   exact Nat.le_trans (List.length_filter_le _ _) Ab
  (repeat refine Am ?_)
  refine Ai (A1s (Bk x (l.take k)).1 (l.getD k default) Ab (by rw [P9];exact og)) hH hp rfl At rfl rfl (fun r2 hr2=>go A0 false ?_)
  conv=>whnf
  refine ⟨fun hb=>?_,fun hb=>?_⟩<;>conv=>whnf
  ·rw [if_pos hb] at hcn
   (repeat refine Am ?_)
   refine B6 [(1,6),(2,7),(3,8),(4,9),(5,10)] (k+1) Ab Ab ⟨rfl,congrArg (fun n:Nat=>AV.c (vi (n:Int))) hcn.symm,trivial⟩ ⟨congrArg (fun s:A6×List Bool=>Br s.1.graph.nodes) hs.symm,congrArg (fun s:A6×List Bool=>Ar s.1.workers) hs.symm,congrArg (fun s:A6×List Bool=>Ct s.1.links) hs.symm,congrArg (fun s:A6×List Bool=>C9 s.1.tokens) hs.symm,congrArg (fun s:A6×List Bool=>Ch s.1.news) hs.symm,trivial⟩ (by rw [hs];repeat' (first|exact trivial|exact rfl|refine ⟨?_,?_⟩)) A7 Cj A7
  rw [if_neg (by rw [hb];decide)] at hcn
  (repeat refine Am ?_)
  refine B6 [(1,6),(2,7),(3,8),(4,9),(5,10)] (k+1) Ab Ab ⟨rfl,congrArg (fun n:Nat=>AV.c (vi (n:Int))) hcn.symm,trivial⟩ ⟨congrArg (fun s:A6×List Bool=>Br s.1.graph.nodes) hs.symm,congrArg (fun s:A6×List Bool=>Ar s.1.workers) hs.symm,congrArg (fun s:A6×List Bool=>Ct s.1.links) hs.symm,congrArg (fun s:A6×List Bool=>C9 s.1.tokens) hs.symm,congrArg (fun s:A6×List Bool=>Ch s.1.news) hs.symm,trivial⟩ (by rw [hs];repeat' (first|exact trivial|exact rfl|refine ⟨?_,?_⟩)) A7 Cj A7
 obtain rfl:k=l.length:=by omega
 rw [List.take_length]
 repeat refine B7 ?_
 exact Bm A0 () trivial rfl rfl rfl rfl At
theorem A6f (n:Nat):∀c:A6,(Dz n c).1.w≤c.w+176 * n:=by
 induction n with
 |zero=>intro c;exact Nat.le_refl _
 |succ n ih=>
  intro c
  have h1:=A5e (c:=c)
  rw [Dz]
  split
  ·show (Cp c).1.w≤_
   omega
  have h2:=ih (Cp c).1
  show (Dz n (Cp c).1).1.w≤_
  omega
end Go.Proofs.YtdendlkeiaccpaaGreat
