/- Part 10 of the proof that each of the laws FnStalls returns true for every input. No conditions. -/
import Derived.Test.YtonodkjaoalfjaaGreatP9
import Derived.Test.YtonodkjaoalfjaaGreatP8
import Derived.Test.YtonodkjaoalfjaaGreatP6
import Derived.Test.YtonodkjaoalfjaaGreatP5
import Derived.Test.YtonodkjaoalfjaaGreatP7

set_option linter.unusedSimpArgs false
set_option linter.unusedVariables false
set_option maxRecDepth 100000
namespace Go.Proofs.YtonodkjaoalfjaaGreat
open Go.Sx
theorem A2k (x:Ad)(h:x.w≤16777216):B0 Tryz.prog 88 [.agg x.c] [.agg x.c]:=by
 have h:x.nodes.length+(x.nodes.map Cb.w).sum≤16777216:=h
 refine Ay A0 false Tryz.func88 rfl Bu fun W=>?_
 conv=>whnf
 refine G4 3 (Bp []) rfl F8 ?_
 refine Bw A0 false [7] (fun k:Nat=>[(4,.c (vi k))]) (fun _=>[⟨0,[.c (Bp x.nodes),.c (vi x.workers),.c (vi x.cap)]⟩,⟨2,[.own 3,.c (vi x.workers),.c (vi x.cap)]⟩,⟨1,[.any,.any,.any]⟩]) (fun k=>[⟨3,Bp (x.nodes.take k)⟩])
  (fun k=>k≤x.nodes.length) (fun k=>x.nodes.length-k) 0 (Nat.zero_le _) ⟨rfl,trivial⟩ F3 ⟨rfl,trivial⟩ trivial Aa (fun k hk=>?_)
 conv=>whnf
 refine G5 (fun h=>?_) fun h=>?_<;>conv=>whnf
 ·have h:k<x.nodes.length:=by omega
  have hle:=Hg Cb.w x.nodes k h
  have ho:(x.nodes.getD k default).outs.length≤16777216:=by simp only [Cb.w] at hle;omega
  (repeat refine Ar ?_)
  refine Dp A0 rfl rfl rfl rfl rfl rfl rfl rfl rfl rfl rfl (F1 (x.nodes.getD k default).outs) (Eh) (fun _=>Sy _) (by first|omega|(simp only [Int.toNat_natCast];omega)) (Al ?_)
  refine Qp A0 rfl rfl rfl rfl rfl rfl rfl rfl rfl (Al ?_)
  refine Dp A0 rfl rfl rfl rfl rfl rfl rfl rfl rfl rfl rfl (Bp (x.nodes.take k++[x.nodes.getD k default])) (Bf rfl) M1 (by simp only [List.length_take];omega) (Al ?_)
  (repeat refine Ar ?_)
  refine B5 [(3,8)] (k+1) Ac Ac ⟨rfl,trivial⟩ ⟨?_,trivial⟩ F3 Aa trivial Aa
  exact congrArg Bp (G1 x.nodes k h).symm
 ·refine Ao A0 rfl rfl ⟨⟨?_,rfl,rfl,trivial⟩,trivial⟩
  exact congrArg Bp (Fi _ _ Ac)
set_option maxHeartbeats 8000000 in
theorem C15 (x:A3)(h:x.w≤16777216):B0 Tryz.prog 125 [.agg x.c] [.agg x.c]:=by
 have hg:=A3.graph_le h
 have h2:=h
 simp only [A3.w,wS] at h2
 refine B23 A0 false Tryz.func125 rfl Bu fun W us hul huv huo hp=>?_
 match us,hul with
 | [v0,v1,v2,v3,v4,v5,v6],_=>
 conv=>whnf
 refine B7t 4 ?_
 refine C0h A0 false (J:=Unit) [8,9,12,13,16,17] (fun _=>[(3,.box 2 0)]) (fun _=>[⟨2,[.own 3,.c (vi x.graph.workers),.c (vi x.graph.cap),.c (.val (.slice none 0 0)),.c (.val (.slice none 0 0)),.own 4,.own 5]⟩,⟨0,[.c (.val v0),.c (.val v1),.c (.val v2),.c (.val v3),.c (.val v4),.c (.val v5),.c (.val v6)]⟩,⟨1,[.c (.val (.slice none 0 0)),.c (vi 0),.c (vi 0),.c (.val (.slice none 0 0)),.c (.val (.slice none 0 0)),.c (.val (.slice none 0 0)),.c (.val (.slice none 0 0))]⟩]) (fun _=>[⟨3,Bp x.graph.nodes⟩,⟨4,C0 x.tokens⟩,⟨5,Ef x.news⟩]) (fun _=>True) ?_ ?_
 ·conv=>whnf
  refine Jc rfl ?_
  refine Ct A0 false 0 rfl rfl Aa rfl (Af D0) ?_
  refine Ct A0 false 4 rfl rfl Aa rfl (Af D0) ?_
  refine Ct A0 false 8 rfl rfl Aa rfl (Af D0) ?_
  refine S7 [2,6,10,11,12,13] [⟨1,7,.ra [v0,v1,v2]⟩,⟨3,9,.emp 5⟩,⟨5,11,.rd v5⟩,⟨7,13,.emp 3⟩,⟨9,15,.rd v6⟩] Aa ?_
  refine Pg (s1:=?_) (s2:=?_) A0 [2,6,10,11,12,13] 2 12 [6,10,11,12,13] [2,6,10,11,13] rfl rfl Aa Gp Bu Bu ?_ ?_ ?_ ?_
  rotate_left 2
  refine go A0 false ?_
  conv=>whnf
  refine Tg hp 0 0 0 rfl rfl rfl ?_
  refine Tg hp 0 1 1 rfl rfl rfl ?_
  refine Tg hp 0 2 2 rfl rfl rfl ?_
  refine B4 (A2k x.graph hg) rfl (Al ?_)
  exact Bd
  refine Pg (s1:=?_) (s2:=?_) A0 [6,10,11,12,13] 6 12 [10,11,12,13] [6,10,11,13] rfl rfl Aa Gp Bu Bu ?_ ?_ ?_ ?_
  rotate_left 2
  refine go A0 false ?_
  conv=>whnf
  refine Pf hp 5 rfl 11 rfl ?_
  refine Dp A0 rfl rfl rfl rfl rfl rfl rfl rfl rfl rfl rfl (C0 x.tokens) (Eh) (fun _=>Om x.tokens) Ac (Al ?_)
  exact Bd
  refine Pg (s1:=?_) (s2:=?_) A0 [10,11,12,13] 10 12 [11,12,13] [10,11,13] rfl rfl Aa Gp Bu Bu ?_ ?_ ?_ ?_
  rotate_left 2
  refine go A0 false ?_
  conv=>whnf
  refine Pf hp 6 rfl 15 rfl ?_
  refine Dp A0 rfl rfl rfl rfl rfl rfl rfl rfl rfl rfl rfl (Ef x.news) (Eh) (fun _=>Pq x.news) Ac (Al ?_)
  exact Bd
  refine Pg (s1:=?_) (s2:=?_) A0 [11,12,13] 11 12 [12,13] [11,13] rfl rfl Aa Gp Bu Bu ?_ ?_ ?_ ?_
  rotate_left 2
  refine go A0 false ?_
  conv=>whnf
  (repeat refine Ar ?_)
  exact Bd
  refine D5 (s':=?_) A0 rfl Aa Gp ?_ ?_
  rotate_left
  refine go A0 false ?_
  conv=>whnf
  (repeat refine Ar ?_)
  exact Bd
  refine D5 (s':=?_) A0 rfl Aa Gp ?_ ?_
  rotate_left
  refine go A0 false ?_
  conv=>whnf
  (repeat refine Ar ?_)
  exact Bd
  refine P5 A0 Aa Gp (GW.out (Tt ?_))
  conv=>whnf
  exact B5 [(2,11),(3,6),(4,8),(5,10)] () trivial (by exact Nat.zero_lt_one) ⟨rfl,trivial⟩ ⟨rfl,rfl,rfl,trivial⟩ F3 Aa trivial Aa
  refine go A0 false ?_
  conv=>whnf
  (repeat refine Ar ?_)
  exact Bd
  refine D5 (s':=?_) A0 rfl Aa Gp ?_ ?_
  rotate_left
  refine go A0 false ?_
  conv=>whnf
  (repeat refine Ar ?_)
  exact Bd
  refine D5 (s':=?_) A0 rfl Aa Gp ?_ ?_
  rotate_left
  refine go A0 false ?_
  conv=>whnf
  (repeat refine Ar ?_)
  exact Bd
  refine P5 A0 Aa Gp (GW.out (Tt ?_))
  conv=>whnf
  exact B5 [(2,11),(3,6),(4,8),(5,10)] () trivial (by exact Nat.zero_lt_one) ⟨rfl,trivial⟩ ⟨rfl,rfl,rfl,trivial⟩ F3 Aa trivial Aa
  refine go A0 false ?_
  conv=>whnf
  (repeat refine Ar ?_)
  exact Bd
  refine D5 (s':=?_) A0 rfl Aa Gp ?_ ?_
  rotate_left
  refine go A0 false ?_
  conv=>whnf
  refine Pf hp 6 rfl 15 rfl ?_
  refine Dp A0 rfl rfl rfl rfl rfl rfl rfl rfl rfl rfl rfl (Ef x.news) (Eh) (fun _=>Pq x.news) Ac (Al ?_)
  exact Bd
  refine D5 (s':=?_) A0 rfl Aa Gp ?_ ?_
  rotate_left
  refine go A0 false ?_
  conv=>whnf
  (repeat refine Ar ?_)
  exact Bd
  refine D5 (s':=?_) A0 rfl Aa Gp ?_ ?_
  rotate_left
  refine go A0 false ?_
  conv=>whnf
  (repeat refine Ar ?_)
  exact Bd
  refine P5 A0 Aa Gp (GW.out (Tt ?_))
  conv=>whnf
  exact B5 [(2,9),(3,6),(4,8),(5,11)] () trivial (by exact Nat.zero_lt_one) ⟨rfl,trivial⟩ ⟨rfl,rfl,rfl,trivial⟩ F3 Aa trivial Aa
  refine go A0 false ?_
  conv=>whnf
  (repeat refine Ar ?_)
  exact Bd
  refine D5 (s':=?_) A0 rfl Aa Gp ?_ ?_
  rotate_left
  refine go A0 false ?_
  conv=>whnf
  refine Pf hp 5 rfl 11 rfl ?_
  refine Dp A0 rfl rfl rfl rfl rfl rfl rfl rfl rfl rfl rfl (C0 x.tokens) (Eh) (fun _=>Om x.tokens) Ac (Al ?_)
  exact Bd
  refine D5 (s':=?_) A0 rfl Aa Gp ?_ ?_
  rotate_left
  refine go A0 false ?_
  conv=>whnf
  refine Pf hp 6 rfl 15 rfl ?_
  refine Dp A0 rfl rfl rfl rfl rfl rfl rfl rfl rfl rfl rfl (Ef x.news) (Eh) (fun _=>Pq x.news) Ac (Al ?_)
  exact Bd
  refine D5 (s':=?_) A0 rfl Aa Gp ?_ ?_
  rotate_left
  refine go A0 false ?_
  conv=>whnf
  (repeat refine Ar ?_)
  exact Bd
  refine D5 (s':=?_) A0 rfl Aa Gp ?_ ?_
  rotate_left
  refine go A0 false ?_
  conv=>whnf
  (repeat refine Ar ?_)
  exact Bd
  refine P5 A0 Aa Gp (GW.out (Tt ?_))
  conv=>whnf
  exact B5 [(2,7),(3,6),(4,9),(5,11)] () trivial (by exact Nat.zero_lt_one) ⟨rfl,trivial⟩ ⟨rfl,rfl,rfl,trivial⟩ F3 Aa trivial Aa
  refine go A0 false ?_
  conv=>whnf
  (repeat refine Ar ?_)
  exact Bd
  refine D5 (s':=?_) A0 rfl Aa Gp ?_ ?_
  rotate_left
  refine go A0 false ?_
  conv=>whnf
  refine Tg hp 0 0 0 rfl rfl rfl ?_
  refine Tg hp 0 1 1 rfl rfl rfl ?_
  refine Tg hp 0 2 2 rfl rfl rfl ?_
  refine B4 (A2k x.graph hg) rfl (Al ?_)
  exact Bd
  refine D5 (s':=?_) A0 rfl Aa Gp ?_ ?_
  rotate_left
  refine go A0 false ?_
  conv=>whnf
  refine Pf hp 5 rfl 11 rfl ?_
  refine Dp A0 rfl rfl rfl rfl rfl rfl rfl rfl rfl rfl rfl (C0 x.tokens) (Eh) (fun _=>Om x.tokens) Ac (Al ?_)
  exact Bd
  refine D5 (s':=?_) A0 rfl Aa Gp ?_ ?_
  rotate_left
  refine go A0 false ?_
  conv=>whnf
  refine Pf hp 6 rfl 15 rfl ?_
  refine Dp A0 rfl rfl rfl rfl rfl rfl rfl rfl rfl rfl rfl (Ef x.news) (Eh) (fun _=>Pq x.news) Ac (Al ?_)
  exact Bd
  refine D5 (s':=?_) A0 rfl Aa Gp ?_ ?_
  rotate_left
  refine go A0 false ?_
  conv=>whnf
  (repeat refine Ar ?_)
  exact Bd
  refine D5 (s':=?_) A0 rfl Aa Gp ?_ ?_
  rotate_left
  refine go A0 false ?_
  conv=>whnf
  (repeat refine Ar ?_)
  exact Bd
  refine P5 A0 Aa Gp (GW.out (Tt ?_))
  conv=>whnf
  exact B5 [(2,6),(3,7),(4,9),(5,11)] () trivial (by exact Nat.zero_lt_one) ⟨rfl,trivial⟩ ⟨rfl,rfl,rfl,trivial⟩ F3 Aa trivial Aa
 intro _ _
 refine B5b hp 0 3 3 rfl rfl rfl ?_
 refine B5b hp 0 4 4 rfl rfl rfl ?_
 refine B4g 2 3 8 (fun i=>Ab.c (([]:List Ab).getD i default)) rfl rfl ?_
 refine B4g 2 4 6 (fun i=>C2.c (([]:List C2).getD i default)) rfl rfl ?_
 refine go A0 false ?_
 conv=>whnf
 refine Bw A0 false [] (fun k:Nat=>[(4,.c (vi k))]) (fun k=>[⟨2,[.own 3,.c (vi x.graph.workers),.c (vi x.graph.cap),.own 6,.own 7,.own 4,.own 5]⟩,⟨0,[.c (.val v0),.c (.val v1),.c (.val v2),.c (Be x.workers),.c (Dt x.links),.c (.val v5),.c (.val v6)]⟩,⟨1,[.c (.val (.slice none 0 0)),.c (vi 0),.c (vi 0),.c (.val (.slice none 0 0)),.c (.val (.slice none 0 0)),.c (.val (.slice none 0 0)),.c (.val (.slice none 0 0))]⟩]) (fun k=>[⟨3,Bp x.graph.nodes⟩,⟨4,C0 x.tokens⟩,⟨5,Ef x.news⟩,⟨6,Be (x.workers.take k)⟩,⟨7,Dt []⟩])
  (fun k=>k≤x.workers.length) (fun k=>x.workers.length-k) 0 (Nat.zero_le _) ⟨by first|rfl|simp [Dl,ren2,ren1,ren0],trivial⟩ F3 ⟨by first|rfl|exact (congrArg (fun l=>Du _ _ l) (List.append_nil _)).symm|(show (_:A8)=_;simp)|simp,by first|rfl|exact (congrArg (fun l=>Du _ _ l) (List.append_nil _)).symm|(show (_:A8)=_;simp)|simp,by first|rfl|exact (congrArg (fun l=>Du _ _ l) (List.append_nil _)).symm|(show (_:A8)=_;simp)|simp,by first|rfl|exact (congrArg (fun l=>Du _ _ l) (List.append_nil _)).symm|(show (_:A8)=_;simp)|simp,by first|rfl|exact (congrArg (fun l=>Du _ _ l) (List.append_nil _)).symm|(show (_:A8)=_;simp)|simp,trivial⟩ Dh Aa (fun k hk=>?_)
 conv=>whnf
 refine G5 (fun h'=>?_) fun h'=>?_<;>conv=>whnf
 ·have h':k<x.workers.length:=by omega
  have hw:=A3.worker_le h h'
  (repeat refine Ar ?_)
  first|(refine B9 1 rfl [0,1,4,5,8,9,2,3,6,7,10,11,12,13] Aa (Al ?_))|(refine B9 5 rfl [0,1,2,3,4,5,6,7,8,9,10,11] Aa (Al ?_))|(refine B9 9 rfl [0,1,2,3,4,5,6,7,8,9,10,11] Aa (Al ?_))
  (repeat refine Ar ?_)
  refine B4 (B5t (x.workers.getD k default) hw) rfl (Al ?_)
  refine Qp A0 rfl rfl rfl rfl rfl rfl rfl rfl rfl (Al ?_)
  refine Dp A0 rfl rfl rfl rfl rfl rfl rfl rfl rfl rfl rfl (Be (x.workers.take k++[x.workers.getD k default])) (Bf rfl) M1 (by simp only [List.length_take];omega) (Al ?_)
  (repeat refine Ar ?_)
  refine B5 [(6,17)] (k+1) Ac Ac ⟨rfl,trivial⟩ ⟨rfl,rfl,rfl,congrArg Be (G1 x.workers k h').symm,rfl,trivial⟩ F3 Aa Dh Aa
 rw [Fi x.workers k Ac]
 refine Bw A0 false [] (fun j:Nat=>[(5,.c (vi j))]) (fun j=>[⟨2,[.own 3,.c (vi x.graph.workers),.c (vi x.graph.cap),.own 6,.own 7,.own 4,.own 5]⟩,⟨0,[.c (.val v0),.c (.val v1),.c (.val v2),.c (Be x.workers),.c (Dt x.links),.c (.val v5),.c (.val v6)]⟩,⟨1,[.c (.val (.slice none 0 0)),.c (vi 0),.c (vi 0),.c (.val (.slice none 0 0)),.c (.val (.slice none 0 0)),.c (.val (.slice none 0 0)),.c (.val (.slice none 0 0))]⟩]) (fun j=>[⟨3,Bp x.graph.nodes⟩,⟨4,C0 x.tokens⟩,⟨5,Ef x.news⟩,⟨6,Be x.workers⟩,⟨7,Dt (x.links.take j)⟩])
  (fun j=>j≤x.links.length) (fun j=>x.links.length-j) 0 (Nat.zero_le _) ⟨by first|rfl|simp [Dl,ren2,ren1,ren0],trivial⟩ F3 ⟨by first|rfl|exact (congrArg (fun l=>Du _ _ l) (List.append_nil _)).symm|(show (_:A8)=_;simp)|simp,by first|rfl|exact (congrArg (fun l=>Du _ _ l) (List.append_nil _)).symm|(show (_:A8)=_;simp)|simp,by first|rfl|exact (congrArg (fun l=>Du _ _ l) (List.append_nil _)).symm|(show (_:A8)=_;simp)|simp,by first|rfl|exact (congrArg (fun l=>Du _ _ l) (List.append_nil _)).symm|(show (_:A8)=_;simp)|simp,by first|rfl|exact (congrArg (fun l=>Du _ _ l) (List.append_nil _)).symm|(show (_:A8)=_;simp)|simp,trivial⟩ Dh Aa (fun j hj=>?_)
 conv=>whnf
 refine G5 (fun h''=>?_) fun h''=>?_<;>conv=>whnf
 ·have h'':j<x.links.length:=by omega
  have hl:=A3.link_le h h''
  (repeat refine Ar ?_)
  first|(refine B9 1 rfl [0,1,4,5,8,9,2,3,6,7,10,11,12,13] Aa (Al ?_))|(refine B9 5 rfl [0,1,2,3,4,5,6,7,8,9,10,11] Aa (Al ?_))|(refine B9 9 rfl [0,1,2,3,4,5,6,7,8,9,10,11] Aa (Al ?_))
  (repeat refine Ar ?_)
  refine B4 (B98 (x.links.getD j default) hl) rfl (Al ?_)
  refine Qp A0 rfl rfl rfl rfl rfl rfl rfl rfl rfl (Al ?_)
  refine Dp A0 rfl rfl rfl rfl rfl rfl rfl rfl rfl rfl rfl (Dt (x.links.take j++[x.links.getD j default])) (Bf rfl) M1 (by simp only [List.length_take];omega) (Al ?_)
  (repeat refine Ar ?_)
  refine B5 [(7,10)] (j+1) Ac Ac ⟨rfl,trivial⟩ ⟨rfl,rfl,rfl,rfl,congrArg Dt (G1 x.links j h'').symm,trivial⟩ F3 Aa Dh Aa
 ·refine Ao A0 rfl rfl ⟨⟨rfl,rfl,rfl,rfl,?_,rfl,rfl,trivial⟩,trivial⟩
  exact congrArg Dt (Fi _ _ Ac)
theorem C09 (x:A3)(e:Int)(h:x.w≤16777216):B0 Tryz.prog 82 [.agg x.c,.one (vi e)] [.one (vb (B1z x e))]:=by
 have hl:=A3.workers_le h
 refine Ay A0 false Tryz.func82 rfl Bu fun W=>?_
 conv=>whnf
 refine G5 (fun h0=>?_) fun h0=>?_<;>conv=>whnf
 ·have hw:=Go.Sx.A3.worker_le h (show 0<x.workers.length by omega)
  repeat' (first|(refine Ms ?_;conv=>whnf)|(refine Mt ?_;conv=>whnf)|(refine ⟨fun h=>?_,fun h=>?_⟩<;>conv=>whnf)|(refine Kf ?_;conv=>whnf)|fail)
  refine Aw (C2g (x.workers.getD 0 default) e Ac) rfl (Al ?_)
  repeat' (first|(refine Ms ?_;conv=>whnf)|(refine Mt ?_;conv=>whnf)|(refine ⟨fun h=>?_,fun h=>?_⟩<;>conv=>whnf)|(refine Kf ?_;conv=>whnf)|fail)
  exact Ao A0 rfl rfl ⟨congrArg vb (by rw [B1z,if_pos Ac]),trivial⟩
 ·repeat' (first|(refine Ms ?_;conv=>whnf)|(refine Mt ?_;conv=>whnf)|(refine ⟨fun h=>?_,fun h=>?_⟩<;>conv=>whnf)|(refine Kf ?_;conv=>whnf)|fail)
  exact Ao A0 rfl rfl ⟨congrArg vb (by rw [B1z,if_neg Ac]),trivial⟩
theorem C2a (x:A3)(e:Int)(h:x.w≤16777216):B0 Tryz.prog 80 [.agg x.c,.one (vi e)] [.one (vb (B1z x e))]:=by
 have hl:=A3.workers_le h
 refine Ay A0 false Tryz.func80 rfl Bu fun W=>?_
 conv=>whnf
 refine G5 (fun h0=>?_) fun h0=>?_<;>conv=>whnf
 ·have hw:=Go.Sx.A3.worker_le h (show 0<x.workers.length by omega)
  repeat' (first|(refine Ms ?_;conv=>whnf)|(refine Mt ?_;conv=>whnf)|(refine ⟨fun h=>?_,fun h=>?_⟩<;>conv=>whnf)|(refine Kf ?_;conv=>whnf)|fail)
  refine Aw (Wa (x.workers.getD 0 default) e Ac) rfl (Al ?_)
  repeat' (first|(refine Ms ?_;conv=>whnf)|(refine Mt ?_;conv=>whnf)|(refine ⟨fun h=>?_,fun h=>?_⟩<;>conv=>whnf)|(refine Kf ?_;conv=>whnf)|fail)
  exact Ao A0 rfl rfl ⟨congrArg vb (by rw [B1z,if_pos Ac]),trivial⟩
 ·repeat' (first|(refine Ms ?_;conv=>whnf)|(refine Mt ?_;conv=>whnf)|(refine ⟨fun h=>?_,fun h=>?_⟩<;>conv=>whnf)|(refine Kf ?_;conv=>whnf)|fail)
  exact Ao A0 rfl rfl ⟨congrArg vb (by rw [B1z,if_neg Ac]),trivial⟩
theorem C26 (x:A3)(e:Int)(hx:x.w≤16777216):B0 Tryz.prog 30 [.agg x.c,.one (vi e)] [.one (vi (B1x x e))]:=by
 have hl:=A3.workers_le hx
 have hl':=A3.tokens_le hx
 refine Ay A0 false Tryz.func30 rfl Bu fun W=>?_
 conv=>whnf
 (repeat refine Ar ?_)
 refine Aw (Jo e 0 (x.tokens.length-1)) rfl (Al ?_)
 by_cases h1:Eg e 0 (x.tokens.length-1)=true
 ·have h2:=Go.Sx.Am.1 h1
  refine ⟨fun h=>?_,fun h=>?_⟩<;>conv=>whnf
  ·rw [h1] at h;cases h
  repeat' (first|(refine Ms ?_;conv=>whnf)|(refine Mt ?_;conv=>whnf)|(refine ⟨fun h=>?_,fun h=>?_⟩<;>conv=>whnf)|(refine Kf ?_;conv=>whnf)|fail)
  refine Aw (C09 x e hx) rfl (Al ?_)
  repeat' (first|(refine Ms ?_;conv=>whnf)|(refine Mt ?_;conv=>whnf)|(refine ⟨fun h=>?_,fun h=>?_⟩<;>conv=>whnf)|(refine Kf ?_;conv=>whnf)|fail)
  ·exact Ao A0 rfl rfl ⟨congrArg vi (by simp_all [B1x]),trivial⟩
  ·refine Aw (Jo (x.tokens.getD e.toNat default).at_ 0 (x.workers.length-1)) rfl (Al ?_)
   by_cases h3:Eg (x.tokens.getD e.toNat default).at_ 0 (x.workers.length-1)=true
   ·have h4:=Go.Sx.Am.1 h3
    have hw:=Go.Sx.A3.worker_le hx (show (x.tokens.getD e.toNat default).at_.toNat<x.workers.length by omega)
    refine ⟨fun h=>?_,fun h=>?_⟩<;>conv=>whnf
    ·rw [h3] at h;cases h
    repeat' (first|(refine Ms ?_;conv=>whnf)|(refine Mt ?_;conv=>whnf)|(refine ⟨fun h=>?_,fun h=>?_⟩<;>conv=>whnf)|(refine Kf ?_;conv=>whnf)|fail)
    refine Aw (C1f (x.workers.getD (x.tokens.getD e.toNat default).at_.toNat default) e Ac) rfl (Al ?_)
    repeat' (first|(refine Ms ?_;conv=>whnf)|(refine Mt ?_;conv=>whnf)|(refine ⟨fun h=>?_,fun h=>?_⟩<;>conv=>whnf)|(refine Kf ?_;conv=>whnf)|fail)
    ·exact Ao A0 rfl rfl ⟨congrArg vi (by simp_all [B1x]),trivial⟩
    ·exact Ao A0 rfl rfl ⟨congrArg vi (by simp_all [B1x]),trivial⟩
   ·refine ⟨fun h=>?_,fun h=>?_⟩<;>conv=>whnf
    ·repeat' (first|(refine Ms ?_;conv=>whnf)|(refine Mt ?_;conv=>whnf)|(refine ⟨fun h=>?_,fun h=>?_⟩<;>conv=>whnf)|(refine Kf ?_;conv=>whnf)|fail)
     exact Ao A0 rfl rfl ⟨congrArg vi (by simp_all [B1x]),trivial⟩
    ·rw [Bool.not_eq_true] at h3;rw [h3] at h;cases h
 ·refine ⟨fun h=>?_,fun h=>?_⟩<;>conv=>whnf
  ·repeat' (first|(refine Ms ?_;conv=>whnf)|(refine Mt ?_;conv=>whnf)|(refine ⟨fun h=>?_,fun h=>?_⟩<;>conv=>whnf)|(refine Kf ?_;conv=>whnf)|fail)
   exact Ao A0 rfl rfl ⟨congrArg vi (by simp_all [B1x]),trivial⟩
  ·rw [Bool.not_eq_true] at h1;rw [h1] at h;cases h
theorem B5y (x:A3)(e:Int)(hx:x.w≤16777216):B0 Tryz.prog 29 [.agg x.c,.one (vi e)] [.one (vi (B1x x e))]:=by
 have hl:=A3.workers_le hx
 have hl':=A3.tokens_le hx
 refine Ay A0 false Tryz.func29 rfl Bu fun W=>?_
 conv=>whnf
 (repeat refine Ar ?_)
 refine Aw (He e 0 (x.tokens.length-1)) rfl (Al ?_)
 by_cases h1:Eg e 0 (x.tokens.length-1)=true
 ·have h2:=Go.Sx.Am.1 h1
  refine ⟨fun h=>?_,fun h=>?_⟩<;>conv=>whnf
  ·rw [h1] at h;cases h
  repeat' (first|(refine Ms ?_;conv=>whnf)|(refine Mt ?_;conv=>whnf)|(refine ⟨fun h=>?_,fun h=>?_⟩<;>conv=>whnf)|(refine Kf ?_;conv=>whnf)|fail)
  refine Aw (C2a x e hx) rfl (Al ?_)
  repeat' (first|(refine Ms ?_;conv=>whnf)|(refine Mt ?_;conv=>whnf)|(refine ⟨fun h=>?_,fun h=>?_⟩<;>conv=>whnf)|(refine Kf ?_;conv=>whnf)|fail)
  ·exact Ao A0 rfl rfl ⟨congrArg vi (by simp_all [B1x]),trivial⟩
  ·refine Aw (He (x.tokens.getD e.toNat default).at_ 0 (x.workers.length-1)) rfl (Al ?_)
   by_cases h3:Eg (x.tokens.getD e.toNat default).at_ 0 (x.workers.length-1)=true
   ·have h4:=Go.Sx.Am.1 h3
    have hw:=Go.Sx.A3.worker_le hx (show (x.tokens.getD e.toNat default).at_.toNat<x.workers.length by omega)
    refine ⟨fun h=>?_,fun h=>?_⟩<;>conv=>whnf
    ·rw [h3] at h;cases h
    repeat' (first|(refine Ms ?_;conv=>whnf)|(refine Mt ?_;conv=>whnf)|(refine ⟨fun h=>?_,fun h=>?_⟩<;>conv=>whnf)|(refine Kf ?_;conv=>whnf)|fail)
    refine Aw (Y2 (x.workers.getD (x.tokens.getD e.toNat default).at_.toNat default) e Ac) rfl (Al ?_)
    repeat' (first|(refine Ms ?_;conv=>whnf)|(refine Mt ?_;conv=>whnf)|(refine ⟨fun h=>?_,fun h=>?_⟩<;>conv=>whnf)|(refine Kf ?_;conv=>whnf)|fail)
    ·exact Ao A0 rfl rfl ⟨congrArg vi (by simp_all [B1x]),trivial⟩
    ·exact Ao A0 rfl rfl ⟨congrArg vi (by simp_all [B1x]),trivial⟩
   ·refine ⟨fun h=>?_,fun h=>?_⟩<;>conv=>whnf
    ·repeat' (first|(refine Ms ?_;conv=>whnf)|(refine Mt ?_;conv=>whnf)|(refine ⟨fun h=>?_,fun h=>?_⟩<;>conv=>whnf)|(refine Kf ?_;conv=>whnf)|fail)
     exact Ao A0 rfl rfl ⟨congrArg vi (by simp_all [B1x]),trivial⟩
    ·rw [Bool.not_eq_true] at h3;rw [h3] at h;cases h
 ·refine ⟨fun h=>?_,fun h=>?_⟩<;>conv=>whnf
  ·repeat' (first|(refine Ms ?_;conv=>whnf)|(refine Mt ?_;conv=>whnf)|(refine ⟨fun h=>?_,fun h=>?_⟩<;>conv=>whnf)|(refine Kf ?_;conv=>whnf)|fail)
   exact Ao A0 rfl rfl ⟨congrArg vi (by simp_all [B1x]),trivial⟩
  ·rw [Bool.not_eq_true] at h1;rw [h1] at h;cases h
def A4 (c:A3) (e:Int):Es:=c.tokens.getD e.toNat default
def A6 (c:A3) (j:Int):Ab:=c.workers.getD j.toNat default
def Cp (c:A3) (e:Int) (t:Es):A3:=⟨c.graph,c.workers,c.links,c.tokens.set e.toNat t,c.news⟩
def Av (c:A3) (j:Int) (w:Ab):A3:=⟨c.graph,c.workers.set j.toNat w,c.links,c.tokens,c.news⟩
def G8 (w:Ab) (e:Int):Ab:=⟨w.queue,w.staged,w.inputs,w.cells,w.sums,w.black.set e.toNat false,w.caps,w.dones⟩
def Cx (w:Ab) (d:E3):Ab:=⟨w.queue,w.staged,w.inputs,w.cells,w.sums,w.black,w.caps,w.dones++[d]⟩
def H1 (e:Int) (b:Bool) (k:Nat):List Cn:=(List.range k).map fun (i:Nat)=>(⟨(i:Int)+1,e,b⟩:Cn)
def I0 (c:A3) (l:List Cn):A3:=⟨c.graph,c.workers,c.links,c.tokens,c.news++l⟩
def Gn (c:A3) (e:Int) (t:Es) (w:Ab):A3:=
 if t.black=false∧w.black.getD e.toNat default=false∧t.sum+w.sums.getD e.toNat default=0 then
  I0 (Av c 0 (Cx w ⟨e,t.capped||w.caps.getD e.toNat default⟩)) (H1 e (t.capped||w.caps.getD e.toNat default) (c.workers.length-1))
 else c
def Kv (c:A3) (e:Int):Prop:=Ap c∧(0≤e∧e≤3)∧B1 (A6 c 0) e=false∧De (A6 c (A4 c e).at_) e=true
instance (c:A3) (e:Int):Decidable (Kv c e):=by unfold Kv;infer_instance
def Bo (c:A3) (e:Int):A3×Bool:=
 if Kv c e then
  let t:=A4 c e
  let w:=A6 c t.at_
  if t.going=false then (Av (Cp c e ⟨true,(c.workers.length:Int)-1,0,false,w.caps.getD e.toNat default⟩) t.at_ (G8 w e),true)
  else if t.at_>0 then
   if Jy (t.sum+w.sums.getD e.toNat default) then
    (Av (Cp c e ⟨t.going,t.at_-1,t.sum+w.sums.getD e.toNat default,t.black||w.black.getD e.toNat default,t.capped||w.caps.getD e.toNat default⟩) t.at_ (G8 w e),true)
   else (c,false)
  else (Gn (Cp c e ⟨false,t.at_,t.sum,t.black,t.capped⟩) e t w,true)
 else (c,false)
theorem Zy {c:A3}{e:Int}(h:Kv c e)(hg:(A4 c e).going=false):Bo c e=(Av (Cp c e ⟨true,(c.workers.length:Int)-1,0,false,(A6 c (A4 c e).at_).caps.getD e.toNat default⟩) (A4 c e).at_ (G8 (A6 c (A4 c e).at_) e),true):=by
 rw [Bo,if_pos h]
 simp only [hg,if_true]
theorem B7m {c:A3}{e:Int}(h:Kv c e)(hg:(A4 c e).going=true)(ha:(A4 c e).at_>0)(hs:¬ Jy ((A4 c e).sum+(A6 c (A4 c e).at_).sums.getD e.toNat default)):Bo c e=(c,false):=by
 rw [Bo,if_pos h]
 simp only [hg,Bool.true_eq_false,if_false,if_pos ha,if_neg hs]
theorem Pj {c:A3}{e:Int}(h:Kv c e)(hg:(A4 c e).going=true)(ha:(A4 c e).at_>0)(hs:Jy ((A4 c e).sum+(A6 c (A4 c e).at_).sums.getD e.toNat default)):
  Bo c e=(Av (Cp c e ⟨true,(A4 c e).at_-1,(A4 c e).sum+(A6 c (A4 c e).at_).sums.getD e.toNat default,(A4 c e).black||(A6 c (A4 c e).at_).black.getD e.toNat default,(A4 c e).capped||(A6 c (A4 c e).at_).caps.getD e.toNat default⟩) (A4 c e).at_ (G8 (A6 c (A4 c e).at_) e),true):=by
 rw [Bo,if_pos h]
 simp only [hg,Bool.true_eq_false,if_false,if_pos ha,if_pos hs]
theorem Tj {c:A3}{e:Int}(h:¬ Kv c e):Bo c e=(c,false):=by rw [Bo,if_neg h]
theorem Mg {α:Type} [Inhabited α] {es:Nat}{e:α→List A8}{l:List α}{j:Nat}{r:List A8}(h:r=e (l.getD j default)):Iu (.sl l.length es (Fq (fun i=>e (l.getD i default)) j r)) (Du es e l):=by
 refine ⟨rfl,rfl,fun i _=>?_⟩
 unfold Fq
 split
 ·rename_i e;subst e;rw [h];exact Gb.rfl' _
 ·exact Gb.rfl' _
theorem Kz {α:Type} [Inhabited α] {es:Nat}{e:α→List A8}{l:List α}{j:Nat}{r:List A8}{x:α}(hj:j<l.length)(h:r=e x):Iu (.sl l.length es (Fq (fun i=>e (l.getD i default)) j r)) (Du es e (l.set j x)):=by
 refine ⟨by rw [List.length_set],rfl,fun i _=>?_⟩
 unfold Fq
 split
 ·rename_i q
  subst q
  show Gb r (e ((l.set i x).getD i default))
  rw [h,Sx.getD_set_self _ _ _ _ hj]
  exact Gb.rfl' _
 ·rename_i q
  show Gb (e (l.getD i default)) (e ((l.set j x).getD i default))
  rw [Sx.getD_set_ne _ _ _ _ _ q]
  exact Gb.rfl' _
abbrev rcb (x:A3) (b:Bool):List A8:=[Bp x.graph.nodes,vi x.graph.workers,vi x.graph.cap,Be x.workers,Dt x.links,C0 x.tokens,Ef x.news,vb b]
abbrev rc (x:A3):List A8:=rcb x (Fp x)
theorem Q5 {c:A3}{e:Int}(h:Kv c e)(hg:(A4 c e).going=true)(ha:¬ (A4 c e).at_>0):Bo c e=(Gn (Cp c e ⟨false,(A4 c e).at_,(A4 c e).sum,(A4 c e).black,(A4 c e).capped⟩) e (A4 c e) (A6 c (A4 c e).at_),true):=by
 rw [Bo,if_pos h]
 simp only [hg,Bool.true_eq_false,if_false,if_neg ha]
def I2 (l:List A7) (x:A7):Bool:=l.any fun y=>decide (y=x)
def J2 (l:List A7) (x:A7):Nat:=Ek (fun y=>!decide (Jr y x<0)) l
def Cy (l:List A7) (x:A7):List A7:=if I2 l x=true then l else l.take (J2 l x)++x::l.drop (J2 l x)
def L7 (op e k:Int) (s:Int×Bool) (x:A7):Int×Bool:=if (x.op=op∧x.epoch=e∧x.key=k)∧(s.2=false∨x.val<s.1) then (x.val,true) else s
def H8 (l:List A7) (op e k:Int):Int×Bool:=l.foldl (L7 op e k) (0,false)
def B2 (a b:A7):Bool:=decide (a.op=b.op∧a.epoch=b.epoch∧a.key=b.key)
def G7 (l:List A7) (x:A7):Prop:=(H8 l x.op x.epoch x.key).2=true∧(H8 l x.op x.epoch x.key).1≤x.val
instance (l:List A7) (x:A7):Decidable (G7 l x):=by unfold G7;infer_instance
def Dq (l:List A7) (x:A7):List A7×Bool:=if G7 l x then (l,false) else (Cy (l.filter fun y=>!B2 x y) x,true)
def Bb (k:Int) (l:List A7) (x:A7):List A7×Bool:=
 if k=5∨k=8 then Dq l x else if k=6 then (if I2 l x=true then (l,false) else (Cy l x,true)) else (l,true)
end Go.Proofs.YtonodkjaoalfjaaGreat
