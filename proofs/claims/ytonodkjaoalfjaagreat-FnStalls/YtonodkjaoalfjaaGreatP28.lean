/- Part 28 of the proof that each of the laws FnStalls returns true for every input. No conditions. -/
import Derived.Test.YtonodkjaoalfjaaGreatP5
import Derived.Test.YtonodkjaoalfjaaGreatP26
import Derived.Test.YtonodkjaoalfjaaGreatP27

set_option linter.unusedSimpArgs false
set_option linter.unusedVariables false
set_option maxRecDepth 100000
namespace Go.Proofs.YtonodkjaoalfjaaGreat
open Go.Sx
theorem C2d (l:List Cn)(k:Nat):Ut (l.take k).length (l.drop (k+1)).length 3 (fun i=>Cn.c ((l.take k).getD i default)) (fun i=>Cn.c ((l.drop (k+1)).getD i default)) (Ef (l.take k++l.drop (k+1))):=A14 3 Cn.c _ _
theorem C3q {c:A3}{w:Int}{k:Nat}(hk:k<c.news.length)(hb:∀i,i<k→Is w (c.news.getD i default)=false)(h:Is w (c.news.getD k default)=true):Ej c w=k∧c.news.any (Is w)=true:=⟨Qw _ _ k hk hb h,Tm hk h⟩
theorem C4g {c:A3}{w:Int}(hb:∀i,i<c.news.length→Is w (c.news.getD i default)=false):c.news.any (Is w)=false:=by
 rw [List.any_eq_false]
 intro y hy
 obtain ⟨i,hi,rfl⟩:=List.getElem_of_mem hy
 have:=hb i hi
 rw [show c.news.getD i default=c.news[i] by simp [List.getD,hi]] at this
 simpa using this
set_option maxHeartbeats 8000000 in
theorem C40 (x:A3)(w:Int)(h:x.w≤16000000):Iv Tryz.prog (fun _=>True) 215 [] (rc x) [.one (vi w)] (fun _:Unit=>True) (fun _=>rcb (D4 x w).1 (Fp x)) (fun _=>[.one (vb (D4 x w).2)]):=by
 have hnl:=A3.news_le h
 refine Ol A0 false Tryz.func215 rfl Bu fun B b hH hp=>?_
 conv=>whnf
 refine Bw A0 false [6] (fun k:Nat=>[(5,.c (vi k))]) (fun k=>[⟨0,[.own 1,.c (vi x.graph.workers),.c (vi x.graph.cap),.own 2,.own 3,.own 4,.own 5,.c (vb (Fp x))]⟩]) (fun k=>[⟨1,Bp x.graph.nodes⟩,⟨2,Be x.workers⟩,⟨3,Dt x.links⟩,⟨4,C0 x.tokens⟩,⟨5,Ef x.news⟩])
  (fun k=>k≤x.news.length∧∀i,i<k→Is w (x.news.getD i default)=false) (fun k=>x.news.length-k) 0 ⟨Nat.zero_le _,by first|rfl|assumption|simp⟩ ⟨by first|rfl|simp [Dl,ren2,ren1,ren0],trivial⟩ F3 ⟨by first|rfl|exact (congrArg (fun l=>Du _ _ l) (List.append_nil _)).symm|(show (_:A8)=_;simp)|simp,by first|rfl|exact (congrArg (fun l=>Du _ _ l) (List.append_nil _)).symm|(show (_:A8)=_;simp)|simp,by first|rfl|exact (congrArg (fun l=>Du _ _ l) (List.append_nil _)).symm|(show (_:A8)=_;simp)|simp,by first|rfl|exact (congrArg (fun l=>Du _ _ l) (List.append_nil _)).symm|(show (_:A8)=_;simp)|simp,by first|rfl|exact (congrArg (fun l=>Du _ _ l) (List.append_nil _)).symm|(show (_:A8)=_;simp)|simp,trivial⟩ Dh Aa (fun k hk=>?_)
 obtain ⟨hk,he⟩:=hk
 conv=>whnf
 conv=>whnf
 refine G5 (fun h1=>?_) fun h1=>?_<;>conv=>whnf
 ·have h1:k<x.news.length:=by omega
  repeat refine Bi ?_
  refine ⟨fun hok=>?_,fun hok=>?_⟩<;>conv=>whnf
  ·have hC:Ap x:=of_decide_eq_true (show Fp x=true from hok)
   repeat refine Bi ?_
   (repeat refine Ar ?_)
   refine ⟨fun h2=>have h2:=bne_iff_ne.1 h2;?_,fun h2=>have h2:=bne_eq_false_iff_eq.1 h2;?_⟩<;>conv=>whnf
   ·rw [Int.toNat_natCast] at h2
    have h2':Is w (x.news.getD k default)=false:=by simpa [Is] using h2
    (repeat refine Ar ?_)
    refine B5 [] (k+1) ⟨by omega,fun i hi=>(Nat.lt_succ_iff_lt_or_eq.1 hi).elim (fun h4=>he i h4) (fun h4=>by subst h4;exact h2')⟩ Ac ⟨rfl,trivial⟩ ⟨rfl,rfl,rfl,rfl,rfl,trivial⟩ F3 Aa Dh Aa
   ·rw [Int.toNat_natCast] at h2
    have h2':Is w (x.news.getD k default)=true:=by simpa [Is] using h2
    obtain ⟨hat,hA⟩:=C3q h1 he h2'
    have hH:Ap x∧x.news.any (Is w)=true:=⟨hC,hA⟩
    have hno:Dd x w=x.news.getD k default:=by unfold Dd;rw [hat]
    have hwn:=hC.2.2.2.2 _ (Aq (d:=default) h1)
    have hwl:=hC.1.2.1
    have hwb:0≤w∧w<x.workers.length:=by
     have:=hwn.1
     omega
    have hj:w.toNat<x.workers.length:=by omega
    have hww:=A3.worker_le h hj
    have hdl:(x.workers.getD w.toNat default).dones.length≤(x.workers.getD w.toNat default).w:=by simp only [Ab.w];omega
    have htk:=List.length_take_le k x.news
    refine C4t 0 6 5 rfl rfl rfl ?_
    have hh:Ih x w=⟨x.graph,x.workers,x.links,x.tokens,x.news.take k++x.news.drop (k+1)⟩:=by
     unfold Ih
     rw [hat,A3b]
    refine Jc rfl ?_
    refine Ct A0 false 0 rfl rfl Aa rfl (Af D0) ?_
    refine Ct A0 false 2 rfl rfl Aa rfl (Af D0) ?_
    refine Ct A0 false 3 rfl rfl Aa rfl (Af D0) ?_
    refine Ct A0 false 4 rfl rfl Aa rfl (Af D0) ?_
    refine Ct A0 false 5 rfl rfl Aa rfl (Af D0) ?_
    refine Ct A0 false 7 rfl rfl Aa rfl (Af D0) ?_
    refine Ct A0 false 10 rfl rfl Aa rfl (Af D0) ?_
    refine Ct A0 false 11 rfl rfl Aa rfl (Af D0) ?_
    refine Ct A0 false 12 rfl rfl Aa rfl (Af D0) ?_
    refine Ct A0 false 13 rfl rfl Aa rfl (Af D0) ?_
    refine Ct A0 false 15 rfl rfl Aa rfl (Af D0) ?_
    refine Ct A0 false 16 rfl rfl Aa rfl (Af D0) ?_
    refine Do (s':=?_) 6 rfl Aa ?_ ?_
    rotate_left
    refine go A0 false ?_
    conv=>whnf
    (repeat refine Ar ?_)
    exact Bd
    refine Do (s':=?_) 8 rfl Aa ?_ ?_
    rotate_left
    refine go A0 false ?_
    conv=>whnf
    refine Xi A0 rfl rfl rfl rfl rfl rfl rfl (l:=0) (h:=(k:Int)) rfl rfl ⟨by omega,by omega,by omega⟩ (Ef (x.news.take k)) (Zw Ac) (Al ?_)
    exact Bd
    refine S7 [9,14,17,18,19,20,21,22] [⟨1,36,.emp 3⟩] Aa ?_
    refine Pg (s1:=?_) (s2:=?_) A0 [9,14,17,18,19,20,21,22] 9 14 [14,17,18,19,20,21,22] [9,17,18,19,20,21,22] rfl rfl Aa Gp Bu Bu ?_ ?_ ?_ ?_
    rotate_left 2
    refine go A0 false ?_
    conv=>whnf
    refine Dp A0 rfl rfl rfl rfl rfl rfl rfl rfl rfl rfl rfl (Ef (x.news.take k)) (Eh) (fun _=>Pq _) Ac (Al ?_)
    exact Bd
    refine D5 (s':=?_) A0 rfl Aa Gp ?_ ?_
    rotate_left
    refine go A0 false ?_
    conv=>whnf
    (repeat refine Ar ?_)
    exact Bd
    refine D5 (s':=?_) A0 rfl Aa Gp ?_ ?_
    rotate_left
    refine go A0 false ?_
    conv=>whnf
    refine Xi A0 rfl rfl rfl rfl rfl rfl rfl (l:=(k:Int)+1) (h:=(x.news.length:Int)) rfl rfl ⟨by omega,by omega,by omega⟩ (Ef (x.news.drop (k+1))) (Lf (k:=k+1) h1) (Al ?_)
    exact Bd
    refine D5 (s':=?_) A0 rfl Aa Gp ?_ ?_
    rotate_left
    refine go A0 false ?_
    conv=>whnf
    refine Dp A0 rfl rfl rfl rfl rfl rfl rfl rfl rfl rfl rfl (Ef (x.news.take k++x.news.drop (k+1))) (C2d x.news k) (fun _=>Pq _) (by (rw [List.length_take,List.length_drop];omega)) (Al ?_)
    exact Bd
    refine D5 (s':=?_) A0 rfl Aa Gp ?_ ?_
    rotate_left
    refine go A0 false ?_
    conv=>whnf
    (repeat refine Ar ?_)
    exact Bd
    refine D5 (s':=?_) A0 rfl Aa Gp ?_ ?_
    rotate_left
    refine go A0 false ?_
    conv=>whnf
    (repeat refine Ar ?_)
    exact Bd
    refine D5 (s':=?_) A0 rfl Aa Gp ?_ ?_
    rotate_left
    refine go A0 false ?_
    conv=>whnf
    (repeat refine Ar ?_)
    exact Bd
    refine D5 (s':=?_) A0 rfl Aa Gp ?_ ?_
    rotate_left
    refine go A0 false ?_
    conv=>whnf
    (repeat refine Ar ?_)
    exact Bd
    refine P5 A0 Aa Gp (GW.out (Tt ?_))
    conv=>whnf
    rotate_left 1
    refine go A0 false ?_
    conv=>whnf
    (repeat refine Ar ?_)
    exact Bd
    refine Pg (s1:=?_) (s2:=?_) A0 [9,17,18,19,20,21,22] 9 17 [17,18,19,20,21,22] [9,18,19,20,21,22] rfl rfl Aa Gp Bu Bu ?_ ?_ ?_ ?_
    rotate_left 2
    refine go A0 false ?_
    conv=>whnf
    refine Dp A0 rfl rfl rfl rfl rfl rfl rfl rfl rfl rfl rfl (Ef (x.news.take k)) (Eh) (fun _=>Pq _) Ac (Al ?_)
    exact Bd
    refine D5 (s':=?_) A0 rfl Aa Gp ?_ ?_
    rotate_left
    refine go A0 false ?_
    conv=>whnf
    refine Xi A0 rfl rfl rfl rfl rfl rfl rfl (l:=(k:Int)+1) (h:=(x.news.length:Int)) rfl rfl ⟨by omega,by omega,by omega⟩ (Ef (x.news.drop (k+1))) (Lf (k:=k+1) h1) (Al ?_)
    exact Bd
    refine D5 (s':=?_) A0 rfl Aa Gp ?_ ?_
    rotate_left
    refine go A0 false ?_
    conv=>whnf
    refine Dp A0 rfl rfl rfl rfl rfl rfl rfl rfl rfl rfl rfl (Ef (x.news.take k++x.news.drop (k+1))) (C2d x.news k) (fun _=>Pq _) (by (rw [List.length_take,List.length_drop];omega)) (Al ?_)
    exact Bd
    refine D5 (s':=?_) A0 rfl Aa Gp ?_ ?_
    rotate_left
    refine go A0 false ?_
    conv=>whnf
    (repeat refine Ar ?_)
    exact Bd
    refine D5 (s':=?_) A0 rfl Aa Gp ?_ ?_
    rotate_left
    refine go A0 false ?_
    conv=>whnf
    (repeat refine Ar ?_)
    exact Bd
    refine D5 (s':=?_) A0 rfl Aa Gp ?_ ?_
    rotate_left
    refine go A0 false ?_
    conv=>whnf
    (repeat refine Ar ?_)
    exact Bd
    refine D5 (s':=?_) A0 rfl Aa Gp ?_ ?_
    rotate_left
    refine go A0 false ?_
    conv=>whnf
    (repeat refine Ar ?_)
    exact Bd
    refine P5 A0 Aa Gp (GW.out (Tt ?_))
    conv=>whnf
    rotate_left 1
    refine go A0 false ?_
    conv=>whnf
    refine Xi A0 rfl rfl rfl rfl rfl rfl rfl (l:=(k:Int)+1) (h:=(x.news.length:Int)) rfl rfl ⟨by omega,by omega,by omega⟩ (Ef (x.news.drop (k+1))) (Lf (k:=k+1) h1) (Al ?_)
    exact Bd
    refine D5 (s':=?_) A0 rfl Aa Gp ?_ ?_
    rotate_left
    refine go A0 false ?_
    conv=>whnf
    refine Dp A0 rfl rfl rfl rfl rfl rfl rfl rfl rfl rfl rfl (Ef (x.news.take k)) (Eh) (fun _=>Pq _) Ac (Al ?_)
    exact Bd
    refine D5 (s':=?_) A0 rfl Aa Gp ?_ ?_
    rotate_left
    refine go A0 false ?_
    conv=>whnf
    refine Dp A0 rfl rfl rfl rfl rfl rfl rfl rfl rfl rfl rfl (Ef (x.news.take k++x.news.drop (k+1))) (C2d x.news k) (fun _=>Pq _) (by (rw [List.length_take,List.length_drop];omega)) (Al ?_)
    exact Bd
    refine D5 (s':=?_) A0 rfl Aa Gp ?_ ?_
    rotate_left
    refine go A0 false ?_
    conv=>whnf
    (repeat refine Ar ?_)
    exact Bd
    refine D5 (s':=?_) A0 rfl Aa Gp ?_ ?_
    rotate_left
    refine go A0 false ?_
    conv=>whnf
    (repeat refine Ar ?_)
    exact Bd
    refine D5 (s':=?_) A0 rfl Aa Gp ?_ ?_
    rotate_left
    refine go A0 false ?_
    conv=>whnf
    (repeat refine Ar ?_)
    exact Bd
    refine D5 (s':=?_) A0 rfl Aa Gp ?_ ?_
    rotate_left
    refine go A0 false ?_
    conv=>whnf
    (repeat refine Ar ?_)
    exact Bd
    refine P5 A0 Aa Gp (GW.out (Tt ?_))
    conv=>whnf
    all_goals
     first|(refine B9 6 rfl [0,2,3,4,5,6,7,8,10,11,12,13,14,15,16,17,1,9,18,19,20,21,22] Aa (Al ?_))|(refine B9 7 rfl [0,1,2,3,4,5,6,7,8,9,10,11] Aa (Al ?_))|(refine B9 8 rfl [0,1,2,3,4,5,6,7,8,9,10,11,12,13,14,15,16,17,18,19,20,21,22,23,24] Aa (Al ?_))
     (repeat refine Ar ?_)
     refine B90 A0 rfl rfl rfl rfl rfl (jn:=w.toNat) rfl (r:=Ab.c ((x.workers).getD (w.toNat) default)) rfl hj rfl rfl (fun u=>go A0 false ?_)
     conv=>whnf
     refine Aw (C2g (x.workers.getD w.toNat default) (x.news.getD k default).epoch Ac) rfl (Al ?_)
     refine ⟨fun hd=>?_,fun hd=>?_⟩<;>conv=>whnf
     ·have hd:B1 (A6 x w) (Dd x w).epoch=false:=by rw [hno];exact (Bool.not_eq_true' _).mp hd
      refine B5c 2 (w.toNat) [(0,10),(1,11),(2,12),(3,13),(4,14),(5,15),(6,16),(7,17)] (Be x.workers) hj rfl rfl Kc rfl (Mg rfl) (Tt ?_)
      conv=>whnf
      refine B8m 0 3 2 rfl rfl (fun v2=>?_)
      refine B9u 0 3 rfl rfl (fun ho_v2=>?_)
      refine Jc rfl ?_
      refine Ct A0 false 0 rfl rfl Aa rfl (Af D0) ?_
      refine Ct A0 false 1 rfl rfl Aa rfl (Af D0) ?_
      refine Ct A0 false 2 rfl rfl Aa rfl (Af D0) ?_
      refine Ct A0 false 3 rfl rfl Aa rfl (Af D0) ?_
      refine Ct A0 false 5 rfl rfl Aa rfl (Af D0) ?_
      refine Ct A0 false 6 rfl rfl Aa rfl (Af D0) ?_
      refine Ct A0 false 7 rfl rfl Aa rfl (Af D0) ?_
      refine Ct A0 false 8 rfl rfl Aa rfl (Af D0) ?_
      refine Ct A0 false 9 rfl rfl Aa rfl (Af D0) ?_
      refine Ct A0 false 11 rfl rfl Aa rfl (Af D0) ?_
      refine Ct A0 false 15 rfl rfl Aa rfl (Af D0) ?_
      refine Ct A0 false 17 rfl rfl Aa rfl (Af D0) ?_
      refine Do (s':=?_) 10 rfl Aa ?_ ?_
      rotate_left
      refine go A0 false ?_
      conv=>whnf
      refine Je 79 2 rfl rfl (Al ?_)
      (repeat refine Ar ?_)
      exact Bd
      refine Do (s':=?_) 12 rfl Aa ?_ ?_
      rotate_left
      refine go A0 false ?_
      conv=>whnf
      (repeat refine Ar ?_)
      exact Bd
      refine Ct A0 false 13 rfl rfl Aa rfl (Af D0) ?_
      refine B8p (α:=Value) (s':=?_) 14 rfl Aa ?_ ?_
      rotate_left
      refine go A0 false ?_
      conv=>whnf
      refine B8f A0 rfl rfl rfl rfl rfl rfl (jn:=w.toNat) rfl rfl rfl (fun v3=>go A0 false ?_)
      conv=>whnf
      exact B9f v3
      intro v3
      refine Do (s':=?_) 16 rfl Aa ?_ ?_
      rotate_left
      refine go A0 false ?_
      conv=>whnf
      (repeat refine Ar ?_)
      exact Bd
      refine Do (s':=?_) 18 rfl Aa ?_ ?_
      rotate_left
      refine go A0 false ?_
      conv=>whnf
      (repeat refine Ar ?_)
      exact Bd
      refine Do (s':=?_) 19 rfl Aa ?_ ?_
      rotate_left
      refine go A0 false ?_
      conv=>whnf
      (repeat refine Ar ?_)
      exact Bd
      refine S7 [20,21,22,23,24] [⟨4,73,.rd v2⟩] Aa ?_
      refine D5 (s':=?_) A0 rfl Aa Gp ?_ ?_
      rotate_left
      refine go A0 false ?_
      conv=>whnf
      (repeat refine Ar ?_)
      exact Bd
      refine D5 (s':=?_) A0 rfl Aa Gp ?_ ?_
      rotate_left
      refine go A0 false ?_
      conv=>whnf
      refine Dp A0 rfl rfl rfl rfl rfl rfl rfl rfl rfl rfl rfl (Jn ((x.workers.getD w.toNat default).dones++[⟨(x.news.getD k default).epoch,(x.news.getD k default).capped⟩])) (Bf rfl) M1 Ac (Al ?_)
      exact Bd
      refine D5 (s':=?_) A0 rfl Aa Gp ?_ ?_
      rotate_left
      refine go A0 false ?_
      conv=>whnf
      refine Je 73 2 rfl rfl (Al ?_)
      (repeat refine Ar ?_)
      exact Bd
      refine D5 (s':=?_) A0 rfl Aa Gp ?_ ?_
      rotate_left
      refine go A0 false ?_
      conv=>whnf
      (repeat refine Ar ?_)
      exact Bd
      refine D5 (s':=?_) A0 rfl Aa Gp ?_ ?_
      rotate_left
      refine go A0 false ?_
      conv=>whnf
      refine D7 (j:=w) A0 rfl rfl rfl rfl rfl rfl rfl rfl (Be (x.workers.set w.toNat (Cx (A6 x w) ⟨(x.news.getD k default).epoch,(x.news.getD k default).capped⟩))) (B1i hj rfl) (Al ?_)
      exact Bd
      refine P5 A0 Aa Gp (GW.out (Tt ?_))
      conv=>whnf
      refine B8r Tryz.prog (fun _ g=>B8j 0 3 2 rfl rfl rfl g) ?_
      rw [B3k hH hd,hno,hh]
      exact Kk A0 () trivial rfl rfl rfl rfl Ca
     ·have hd:B1 (A6 x w) (Dd x w).epoch=true:=by rw [hno];exact (Bool.not_eq_false' _).mp hd
      refine M9 Tryz.prog 2 (w.toNat) [(0,10),(1,11),(2,12),(3,13),(4,14),(5,15),(6,16),(7,17)] (Be x.workers) hj rfl rfl Kc rfl (Mg rfl) ?_
      rw [B3l hH hd,hh]
      exact Kk A0 () trivial rfl rfl rfl rfl Ca
  ·have hC:¬ Ap x:=of_decide_eq_false (show Fp x=false from hok)
   repeat refine Bi ?_
   rw [A8j (fun p=>hC p.1)]
   exact Kk A0 () trivial rfl rfl rfl rfl Ca
 ·obtain rfl:k=x.news.length:=by omega
  repeat refine Bi ?_
  rw [A8j (fun p=>by have q:=p.2;rw [C4g he] at q;cases q)]
  exact Kk A0 () trivial rfl rfl rfl rfl Ca
end Go.Proofs.YtonodkjaoalfjaaGreat
