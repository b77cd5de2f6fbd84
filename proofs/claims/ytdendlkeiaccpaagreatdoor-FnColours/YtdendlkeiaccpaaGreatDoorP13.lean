/- Part 13 of the proof that each of the laws FnColours returns true for every input. No conditions. -/
import Derived.Test.YtdendlkeiaccpaaGreatDoorP11
import Derived.Test.YtdendlkeiaccpaaGreatDoorP12

set_option linter.unusedSimpArgs false
set_option linter.unusedVariables false
set_option maxRecDepth 100000
namespace Go.Proofs.YtdendlkeiaccpaaGreatDoor
open Go.Sx
theorem B11 (x:Av)(h:x.w≤16777216):Be Tryz.prog 162 [.agg x.c] [.agg x.c]:=by
 have h:x.outs.length≤16777216:=h
 refine B5 A0 false Tryz.func162 rfl Az fun W=>?_
 conv=>whnf
 refine B6 A0 rfl rfl rfl rfl rfl rfl rfl rfl rfl rfl rfl (Au x.outs) (C1) (fun _=>Mn x.outs) Ac (A8 ?_)
 exact Ap A0 rfl rfl ⟨⟨rfl,rfl,rfl,rfl,trivial⟩,trivial⟩
theorem Q1 (x:Aq)(h:x.w≤16777216):Be Tryz.prog 123 [.agg x.c] [.agg x.c]:=by
 have h:x.nodes.length+(x.nodes.map Av.w).sum≤16777216:=h
 refine B5 A0 false Tryz.func123 rfl Az fun W=>?_
 conv=>whnf
 refine Wn 2 0 4 (fun i=>Av.c (([]:List Av).getD i default)) rfl rfl ?_
 refine C0 A0 false [] (fun k:Nat=>[(14,.c (vi k))]) (fun _=>[⟨0,[.c (Bn x.nodes),.c (vi x.workers),.c (vi x.cap)]⟩,⟨2,[.own 3,.c (vi x.workers),.c (vi x.cap)]⟩,⟨1,[.any,.any,.any]⟩]) (fun k=>[⟨3,Bn (x.nodes.take k)⟩])
  (fun k=>k≤x.nodes.length) (fun k=>x.nodes.length-k) 0 (Nat.zero_le _) ⟨rfl,trivial⟩ Cg ⟨rfl,trivial⟩ trivial A7 (fun k hk=>?_)
 conv=>whnf
 refine F4 (fun h=>?_) fun h=>?_<;>conv=>whnf
 ·have h:k<x.nodes.length:=by omega
  have hle:=H0 Av.w x.nodes k h
  (repeat refine An ?_)
  refine B7e rfl [0,1,2,3,4,5,6,7] A7 (A8 ?_)
  refine Cn (B11 (x.nodes.getD k default) Ac) rfl (A8 ?_)
  refine Jp A0 rfl rfl rfl rfl rfl rfl rfl rfl rfl (A8 ?_)
  refine B6 A0 rfl rfl rfl rfl rfl rfl rfl rfl rfl rfl rfl (Bn (x.nodes.take k++[x.nodes.getD k default])) (Ad rfl) Bp (by simp only [List.length_take];omega) (A8 ?_)
  (repeat refine An ?_)
  refine B8 [(3,7)] (k+1) Ac Ac ⟨rfl,trivial⟩ ⟨?_,trivial⟩ Cg A7 trivial A7
  exact congrArg Bn (Fs x.nodes k h).symm
 refine Ap A0 rfl rfl ⟨⟨?_,rfl,rfl,trivial⟩,trivial⟩
 exact congrArg Bn (Ed _ _ Ac)
theorem Me (x:Aq)(h:x.w≤16777216):Be Tryz.prog 109 [.agg x.c] [.agg x.c]:=by
 have h:x.nodes.length+(x.nodes.map Av.w).sum≤16777216:=h
 refine B5 A0 false Tryz.func109 rfl Az fun W=>?_
 conv=>whnf
 refine Eo 3 (Bn []) rfl Du ?_
 refine C0 A0 false [7] (fun k:Nat=>[(4,.c (vi k))]) (fun _=>[⟨0,[.c (Bn x.nodes),.c (vi x.workers),.c (vi x.cap)]⟩,⟨2,[.own 3,.c (vi x.workers),.c (vi x.cap)]⟩,⟨1,[.any,.any,.any]⟩]) (fun k=>[⟨3,Bn (x.nodes.take k)⟩])
  (fun k=>k≤x.nodes.length) (fun k=>x.nodes.length-k) 0 (Nat.zero_le _) ⟨rfl,trivial⟩ Cg ⟨rfl,trivial⟩ trivial A7 (fun k hk=>?_)
 conv=>whnf
 refine F4 (fun h=>?_) fun h=>?_<;>conv=>whnf
 ·have h:k<x.nodes.length:=by omega
  have hle:=H0 Av.w x.nodes k h
  have ho:(x.nodes.getD k default).outs.length≤16777216:=by simp only [Av.w] at hle;omega
  (repeat refine An ?_)
  refine B6 A0 rfl rfl rfl rfl rfl rfl rfl rfl rfl rfl rfl (Au (x.nodes.getD k default).outs) (C1) (fun _=>Mn _) (by first|omega|(simp only [Int.toNat_natCast];omega)) (A8 ?_)
  refine Jp A0 rfl rfl rfl rfl rfl rfl rfl rfl rfl (A8 ?_)
  refine B6 A0 rfl rfl rfl rfl rfl rfl rfl rfl rfl rfl rfl (Bn (x.nodes.take k++[x.nodes.getD k default])) (Ad rfl) Bp (by simp only [List.length_take];omega) (A8 ?_)
  (repeat refine An ?_)
  refine B8 [(3,8)] (k+1) Ac Ac ⟨rfl,trivial⟩ ⟨?_,trivial⟩ Cg A7 trivial A7
  exact congrArg Bn (Fs x.nodes k h).symm
 refine Ap A0 rfl rfl ⟨⟨?_,rfl,rfl,trivial⟩,trivial⟩
 exact congrArg Bn (Ed _ _ Ac)
set_option maxHeartbeats 8000000 in
theorem Ul (x:A3)(h:x.w≤16777216):Be Tryz.prog 89 [.agg x.c] [.agg x.c]:=by
 have hg:=A3.graph_le h
 have h2:=h
 simp only [A3.w,wS] at h2
 refine A0y A0 false Tryz.func89 rfl Az fun W us hul huv huo hp=>?_
 match us,hul with
 | [v0,v1,v2,v3,v4,v5,v6],_=>
 conv=>whnf
 refine B1y 4 ?_
 refine B83 A0 false (J:=Unit) [10,13,16,17] (fun _=>[(3,.box 2 0)]) (fun _=>[⟨2,[.own 3,.c (vi x.graph.workers),.c (vi x.graph.cap),.c (.val (.slice none 0 0)),.c (.val (.slice none 0 0)),.own 4,.own 5]⟩,⟨0,[.c (.val v0),.c (.val v1),.c (.val v2),.c (.val v3),.c (.val v4),.c (.val v5),.c (.val v6)]⟩,⟨1,[.c (.val (.slice none 0 0)),.c (vi 0),.c (vi 0),.c (.val (.slice none 0 0)),.c (.val (.slice none 0 0)),.c (.val (.slice none 0 0)),.c (.val (.slice none 0 0))]⟩]) (fun _=>[⟨3,Bn x.graph.nodes⟩,⟨4,Bo x.tokens⟩,⟨5,C5 x.news⟩]) (fun _=>True) ?_ ?_
 ·conv=>whnf
  refine Ks rfl ?_
  refine Ca A0 false 0 rfl rfl A7 rfl (A5 Bb) ?_
  refine Ca A0 false 3 rfl rfl A7 rfl (A5 Bb) ?_
  refine Ca A0 false 6 rfl rfl A7 rfl (A5 Bb) ?_
  refine Mq [2,5,8,9,10,11] [⟨1,9,.ra [v0,v1,v2]⟩,⟨4,12,.rd v5⟩,⟨7,15,.rd v6⟩] A7 ?_
  refine Ji (s1:=?_) (s2:=?_) A0 [2,5,8,9,10,11] 2 10 [5,8,9,10,11] [2,5,8,9,11] rfl rfl A7 Dl Az Az ?_ ?_ ?_ ?_
  rotate_left 2
  refine A8 ?_
  refine Kp hp 0 0 0 rfl rfl rfl ?_
  refine Kp hp 0 1 1 rfl rfl rfl ?_
  refine Kp hp 0 2 2 rfl rfl rfl ?_
  refine Cn (Q1 x.graph hg) rfl (A8 ?_)
  exact Bh
  refine Ji (s1:=?_) (s2:=?_) A0 [5,8,9,10,11] 5 10 [8,9,10,11] [5,8,9,11] rfl rfl A7 Dl Az Az ?_ ?_ ?_ ?_
  rotate_left 2
  refine A8 ?_
  refine Gx hp 5 rfl 12 rfl ?_
  refine B6 A0 rfl rfl rfl rfl rfl rfl rfl rfl rfl rfl rfl (Bo x.tokens) (C1) (fun _=>Iu x.tokens) Ac (A8 ?_)
  exact Bh
  refine Ji (s1:=?_) (s2:=?_) A0 [8,9,10,11] 8 10 [9,10,11] [8,9,11] rfl rfl A7 Dl Az Az ?_ ?_ ?_ ?_
  rotate_left 2
  refine A8 ?_
  refine Gx hp 6 rfl 15 rfl ?_
  refine B6 A0 rfl rfl rfl rfl rfl rfl rfl rfl rfl rfl rfl (C5 x.news) (C1) (fun _=>F6 x.news) Ac (A8 ?_)
  exact Bh
  refine Ji (s1:=?_) (s2:=?_) A0 [9,10,11] 9 10 [10,11] [9,11] rfl rfl A7 Dl Az Az ?_ ?_ ?_ ?_
  rotate_left 2
  refine A8 ?_
  (repeat refine An ?_)
  exact Bh
  refine Bk (s':=?_) A0 rfl A7 Dl ?_ ?_
  rotate_left
  refine A8 ?_
  (repeat refine An ?_)
  exact Bh
  refine Bk (s':=?_) A0 rfl A7 Dl ?_ ?_
  rotate_left
  refine A8 ?_
  (repeat refine An ?_)
  exact Bh
  refine Jt A0 A7 Dl (GW.out (I5 ?_))
  conv=>whnf
  exact B8 [(2,9),(3,6),(4,7),(5,8)] () trivial Px ⟨rfl,trivial⟩ ⟨rfl,rfl,rfl,trivial⟩ Cg A7 trivial A7
  refine A8 ?_
  (repeat refine An ?_)
  exact Bh
  refine Bk (s':=?_) A0 rfl A7 Dl ?_ ?_
  rotate_left
  refine A8 ?_
  (repeat refine An ?_)
  exact Bh
  refine Bk (s':=?_) A0 rfl A7 Dl ?_ ?_
  rotate_left
  refine A8 ?_
  (repeat refine An ?_)
  exact Bh
  refine Jt A0 A7 Dl (GW.out (I5 ?_))
  conv=>whnf
  exact B8 [(2,9),(3,6),(4,7),(5,8)] () trivial Px ⟨rfl,trivial⟩ ⟨rfl,rfl,rfl,trivial⟩ Cg A7 trivial A7
  refine A8 ?_
  (repeat refine An ?_)
  exact Bh
  refine Bk (s':=?_) A0 rfl A7 Dl ?_ ?_
  rotate_left
  refine A8 ?_
  refine Gx hp 6 rfl 15 rfl ?_
  refine B6 A0 rfl rfl rfl rfl rfl rfl rfl rfl rfl rfl rfl (C5 x.news) (C1) (fun _=>F6 x.news) Ac (A8 ?_)
  exact Bh
  refine Bk (s':=?_) A0 rfl A7 Dl ?_ ?_
  rotate_left
  refine A8 ?_
  (repeat refine An ?_)
  exact Bh
  refine Bk (s':=?_) A0 rfl A7 Dl ?_ ?_
  rotate_left
  refine A8 ?_
  (repeat refine An ?_)
  exact Bh
  refine Jt A0 A7 Dl (GW.out (I5 ?_))
  conv=>whnf
  exact B8 [(2,8),(3,6),(4,7),(5,9)] () trivial Px ⟨rfl,trivial⟩ ⟨rfl,rfl,rfl,trivial⟩ Cg A7 trivial A7
  refine A8 ?_
  (repeat refine An ?_)
  exact Bh
  refine Bk (s':=?_) A0 rfl A7 Dl ?_ ?_
  rotate_left
  refine A8 ?_
  refine Gx hp 5 rfl 12 rfl ?_
  refine B6 A0 rfl rfl rfl rfl rfl rfl rfl rfl rfl rfl rfl (Bo x.tokens) (C1) (fun _=>Iu x.tokens) Ac (A8 ?_)
  exact Bh
  refine Bk (s':=?_) A0 rfl A7 Dl ?_ ?_
  rotate_left
  refine A8 ?_
  refine Gx hp 6 rfl 15 rfl ?_
  refine B6 A0 rfl rfl rfl rfl rfl rfl rfl rfl rfl rfl rfl (C5 x.news) (C1) (fun _=>F6 x.news) Ac (A8 ?_)
  exact Bh
  refine Bk (s':=?_) A0 rfl A7 Dl ?_ ?_
  rotate_left
  refine A8 ?_
  (repeat refine An ?_)
  exact Bh
  refine Bk (s':=?_) A0 rfl A7 Dl ?_ ?_
  rotate_left
  refine A8 ?_
  (repeat refine An ?_)
  exact Bh
  refine Jt A0 A7 Dl (GW.out (I5 ?_))
  conv=>whnf
  exact B8 [(2,7),(3,6),(4,8),(5,9)] () trivial Px ⟨rfl,trivial⟩ ⟨rfl,rfl,rfl,trivial⟩ Cg A7 trivial A7
  refine A8 ?_
  (repeat refine An ?_)
  exact Bh
  refine Bk (s':=?_) A0 rfl A7 Dl ?_ ?_
  rotate_left
  refine A8 ?_
  refine Kp hp 0 0 0 rfl rfl rfl ?_
  refine Kp hp 0 1 1 rfl rfl rfl ?_
  refine Kp hp 0 2 2 rfl rfl rfl ?_
  refine Cn (Q1 x.graph hg) rfl (A8 ?_)
  exact Bh
  refine Bk (s':=?_) A0 rfl A7 Dl ?_ ?_
  rotate_left
  refine A8 ?_
  refine Gx hp 5 rfl 12 rfl ?_
  refine B6 A0 rfl rfl rfl rfl rfl rfl rfl rfl rfl rfl rfl (Bo x.tokens) (C1) (fun _=>Iu x.tokens) Ac (A8 ?_)
  exact Bh
  refine Bk (s':=?_) A0 rfl A7 Dl ?_ ?_
  rotate_left
  refine A8 ?_
  refine Gx hp 6 rfl 15 rfl ?_
  refine B6 A0 rfl rfl rfl rfl rfl rfl rfl rfl rfl rfl rfl (C5 x.news) (C1) (fun _=>F6 x.news) Ac (A8 ?_)
  exact Bh
  refine Bk (s':=?_) A0 rfl A7 Dl ?_ ?_
  rotate_left
  refine A8 ?_
  (repeat refine An ?_)
  exact Bh
  refine Bk (s':=?_) A0 rfl A7 Dl ?_ ?_
  rotate_left
  refine A8 ?_
  (repeat refine An ?_)
  exact Bh
  refine Jt A0 A7 Dl (GW.out (I5 ?_))
  conv=>whnf
  exact B8 [(2,6),(3,7),(4,8),(5,9)] () trivial Px ⟨rfl,trivial⟩ ⟨rfl,rfl,rfl,trivial⟩ Cg A7 trivial A7
 intro _ _
 refine A1v hp 0 3 3 rfl rfl rfl ?_
 refine A1v hp 0 4 4 rfl rfl rfl ?_
 refine Wn 2 3 8 (fun i=>Aa.c (([]:List Aa).getD i default)) rfl rfl ?_
 refine Wn 2 4 6 (fun i=>Bz.c (([]:List Bz).getD i default)) rfl rfl ?_
 refine A8 ?_
 refine C0 A0 false [] (fun k:Nat=>[(21,.c (vi k))]) (fun k=>[⟨2,[.own 3,.c (vi x.graph.workers),.c (vi x.graph.cap),.own 6,.own 7,.own 4,.own 5]⟩,⟨0,[.c (.val v0),.c (.val v1),.c (.val v2),.c (Al x.workers),.c (Cf x.links),.c (.val v5),.c (.val v6)]⟩,⟨1,[.c (.val (.slice none 0 0)),.c (vi 0),.c (vi 0),.c (.val (.slice none 0 0)),.c (.val (.slice none 0 0)),.c (.val (.slice none 0 0)),.c (.val (.slice none 0 0))]⟩]) (fun k=>[⟨3,Bn x.graph.nodes⟩,⟨4,Bo x.tokens⟩,⟨5,C5 x.news⟩,⟨6,Al (x.workers.take k)⟩,⟨7,Cf []⟩])
  (fun k=>k≤x.workers.length) (fun k=>x.workers.length-k) 0 (Nat.zero_le _) ⟨G3,trivial⟩ Cg ⟨Ek,Ek,Ek,Ek,Ek,trivial⟩ Co A7 (fun k hk=>?_)
 conv=>whnf
 refine F4 (fun h'=>?_) fun h'=>?_<;>conv=>whnf
 ·have h':k<x.workers.length:=by omega
  have hw:=A3.worker_le h h'
  (repeat refine An ?_)
  first|(refine Ax 1 rfl [0,1,3,4,6,7,2,5,8,9,10,11] A7 (A8 ?_))|(refine Ax 5 rfl [0,1,2,3,4,5,6,7] A7 (A8 ?_))|(refine Ax 10 rfl [0,1,2,3,4,5,6,7] A7 (A8 ?_))
  (repeat refine An ?_)
  refine Cn (Wb (x.workers.getD k default) hw) rfl (A8 ?_)
  refine Jp A0 rfl rfl rfl rfl rfl rfl rfl rfl rfl (A8 ?_)
  refine B6 A0 rfl rfl rfl rfl rfl rfl rfl rfl rfl rfl rfl (Al (x.workers.take k++[x.workers.getD k default])) (Ad rfl) Bp (by simp only [List.length_take];omega) (A8 ?_)
  (repeat refine An ?_)
  refine B8 [(6,18)] (k+1) Ac Ac ⟨rfl,trivial⟩ ⟨rfl,rfl,rfl,congrArg Al (Fs x.workers k h').symm,rfl,trivial⟩ Cg A7 Co A7
 rw [Ed x.workers k Ac]
 refine C0 A0 false [] (fun j:Nat=>[(36,.c (vi j))]) (fun j=>[⟨2,[.own 3,.c (vi x.graph.workers),.c (vi x.graph.cap),.own 6,.own 7,.own 4,.own 5]⟩,⟨0,[.c (.val v0),.c (.val v1),.c (.val v2),.c (Al x.workers),.c (Cf x.links),.c (.val v5),.c (.val v6)]⟩,⟨1,[.c (.val (.slice none 0 0)),.c (vi 0),.c (vi 0),.c (.val (.slice none 0 0)),.c (.val (.slice none 0 0)),.c (.val (.slice none 0 0)),.c (.val (.slice none 0 0))]⟩]) (fun j=>[⟨3,Bn x.graph.nodes⟩,⟨4,Bo x.tokens⟩,⟨5,C5 x.news⟩,⟨6,Al x.workers⟩,⟨7,Cf (x.links.take j)⟩])
  (fun j=>j≤x.links.length) (fun j=>x.links.length-j) 0 (Nat.zero_le _) ⟨G3,trivial⟩ Cg ⟨Ek,Ek,Ek,Ek,Ek,trivial⟩ Co A7 (fun j hj=>?_)
 conv=>whnf
 refine F4 (fun h''=>?_) fun h''=>?_<;>conv=>whnf
 ·have h'':j<x.links.length:=by omega
  have hl:=A3.link_le h h''
  (repeat refine An ?_)
  first|(refine Ax 1 rfl [0,1,3,4,6,7,2,5,8,9,10,11] A7 (A8 ?_))|(refine Ax 5 rfl [0,1,2,3,4,5,6,7] A7 (A8 ?_))|(refine Ax 10 rfl [0,1,2,3,4,5,6,7] A7 (A8 ?_))
  (repeat refine An ?_)
  refine Cn (A06 (x.links.getD j default) hl) rfl (A8 ?_)
  refine Jp A0 rfl rfl rfl rfl rfl rfl rfl rfl rfl (A8 ?_)
  refine B6 A0 rfl rfl rfl rfl rfl rfl rfl rfl rfl rfl rfl (Cf (x.links.take j++[x.links.getD j default])) (Ad rfl) Bp (by simp only [List.length_take];omega) (A8 ?_)
  (repeat refine An ?_)
  refine B8 [(7,11)] (j+1) Ac Ac ⟨rfl,trivial⟩ ⟨rfl,rfl,rfl,rfl,congrArg Cf (Fs x.links j h'').symm,trivial⟩ Cg A7 Co A7
 refine Ap A0 rfl rfl ⟨⟨rfl,rfl,rfl,rfl,?_,rfl,rfl,trivial⟩,trivial⟩
 exact congrArg Cf (Ed _ _ Ac)
set_option maxHeartbeats 8000000 in
theorem Um (x:A3)(h:x.w≤16777216):Be Tryz.prog 99 [.agg x.c] [.agg x.c]:=by
 have hg:=A3.graph_le h
 have h2:=h
 simp only [A3.w,wS] at h2
 refine A0y A0 false Tryz.func99 rfl Az fun W us hul huv huo hp=>?_
 match us,hul with
 | [v0,v1,v2,v3,v4,v5,v6],_=>
 conv=>whnf
 refine B1y 4 ?_
 refine B83 A0 false (J:=Unit) [8,9,12,13,16,17] (fun _=>[(3,.box 2 0)]) (fun _=>[⟨2,[.own 3,.c (vi x.graph.workers),.c (vi x.graph.cap),.c (.val (.slice none 0 0)),.c (.val (.slice none 0 0)),.own 4,.own 5]⟩,⟨0,[.c (.val v0),.c (.val v1),.c (.val v2),.c (.val v3),.c (.val v4),.c (.val v5),.c (.val v6)]⟩,⟨1,[.c (.val (.slice none 0 0)),.c (vi 0),.c (vi 0),.c (.val (.slice none 0 0)),.c (.val (.slice none 0 0)),.c (.val (.slice none 0 0)),.c (.val (.slice none 0 0))]⟩]) (fun _=>[⟨3,Bn x.graph.nodes⟩,⟨4,Bo x.tokens⟩,⟨5,C5 x.news⟩]) (fun _=>True) ?_ ?_
 ·conv=>whnf
  refine Ks rfl ?_
  refine Ca A0 false 0 rfl rfl A7 rfl (A5 Bb) ?_
  refine Ca A0 false 4 rfl rfl A7 rfl (A5 Bb) ?_
  refine Ca A0 false 8 rfl rfl A7 rfl (A5 Bb) ?_
  refine Mq [2,6,10,11,12,13] [⟨1,7,.ra [v0,v1,v2]⟩,⟨3,9,.emp 5⟩,⟨5,11,.rd v5⟩,⟨7,13,.emp 3⟩,⟨9,15,.rd v6⟩] A7 ?_
  refine Ji (s1:=?_) (s2:=?_) A0 [2,6,10,11,12,13] 2 12 [6,10,11,12,13] [2,6,10,11,13] rfl rfl A7 Dl Az Az ?_ ?_ ?_ ?_
  rotate_left 2
  refine A8 ?_
  refine Kp hp 0 0 0 rfl rfl rfl ?_
  refine Kp hp 0 1 1 rfl rfl rfl ?_
  refine Kp hp 0 2 2 rfl rfl rfl ?_
  refine Cn (Me x.graph hg) rfl (A8 ?_)
  exact Bh
  refine Ji (s1:=?_) (s2:=?_) A0 [6,10,11,12,13] 6 12 [10,11,12,13] [6,10,11,13] rfl rfl A7 Dl Az Az ?_ ?_ ?_ ?_
  rotate_left 2
  refine A8 ?_
  refine Gx hp 5 rfl 11 rfl ?_
  refine B6 A0 rfl rfl rfl rfl rfl rfl rfl rfl rfl rfl rfl (Bo x.tokens) (C1) (fun _=>Iu x.tokens) Ac (A8 ?_)
  exact Bh
  refine Ji (s1:=?_) (s2:=?_) A0 [10,11,12,13] 10 12 [11,12,13] [10,11,13] rfl rfl A7 Dl Az Az ?_ ?_ ?_ ?_
  rotate_left 2
  refine A8 ?_
  refine Gx hp 6 rfl 15 rfl ?_
  refine B6 A0 rfl rfl rfl rfl rfl rfl rfl rfl rfl rfl rfl (C5 x.news) (C1) (fun _=>F6 x.news) Ac (A8 ?_)
  exact Bh
  refine Ji (s1:=?_) (s2:=?_) A0 [11,12,13] 11 12 [12,13] [11,13] rfl rfl A7 Dl Az Az ?_ ?_ ?_ ?_
  rotate_left 2
  refine A8 ?_
  (repeat refine An ?_)
  exact Bh
  refine Bk (s':=?_) A0 rfl A7 Dl ?_ ?_
  rotate_left
  refine A8 ?_
  (repeat refine An ?_)
  exact Bh
  refine Bk (s':=?_) A0 rfl A7 Dl ?_ ?_
  rotate_left
  refine A8 ?_
  (repeat refine An ?_)
  exact Bh
  refine Jt A0 A7 Dl (GW.out (I5 ?_))
  conv=>whnf
  exact B8 [(2,11),(3,6),(4,8),(5,10)] () trivial Px ⟨rfl,trivial⟩ ⟨rfl,rfl,rfl,trivial⟩ Cg A7 trivial A7
  refine A8 ?_
  (repeat refine An ?_)
  exact Bh
  refine Bk (s':=?_) A0 rfl A7 Dl ?_ ?_
  rotate_left
  refine A8 ?_
  (repeat refine An ?_)
  exact Bh
  refine Bk (s':=?_) A0 rfl A7 Dl ?_ ?_
  rotate_left
  refine A8 ?_
  (repeat refine An ?_)
  exact Bh
  refine Jt A0 A7 Dl (GW.out (I5 ?_))
  conv=>whnf
  exact B8 [(2,11),(3,6),(4,8),(5,10)] () trivial Px ⟨rfl,trivial⟩ ⟨rfl,rfl,rfl,trivial⟩ Cg A7 trivial A7
  refine A8 ?_
  (repeat refine An ?_)
  exact Bh
  refine Bk (s':=?_) A0 rfl A7 Dl ?_ ?_
  rotate_left
  refine A8 ?_
  refine Gx hp 6 rfl 15 rfl ?_
  refine B6 A0 rfl rfl rfl rfl rfl rfl rfl rfl rfl rfl rfl (C5 x.news) (C1) (fun _=>F6 x.news) Ac (A8 ?_)
  exact Bh
  refine Bk (s':=?_) A0 rfl A7 Dl ?_ ?_
  rotate_left
  refine A8 ?_
  (repeat refine An ?_)
  exact Bh
  refine Bk (s':=?_) A0 rfl A7 Dl ?_ ?_
  rotate_left
  refine A8 ?_
  (repeat refine An ?_)
  exact Bh
  refine Jt A0 A7 Dl (GW.out (I5 ?_))
  conv=>whnf
  exact B8 [(2,9),(3,6),(4,8),(5,11)] () trivial Px ⟨rfl,trivial⟩ ⟨rfl,rfl,rfl,trivial⟩ Cg A7 trivial A7
  refine A8 ?_
  (repeat refine An ?_)
  exact Bh
  refine Bk (s':=?_) A0 rfl A7 Dl ?_ ?_
  rotate_left
  refine A8 ?_
  refine Gx hp 5 rfl 11 rfl ?_
  refine B6 A0 rfl rfl rfl rfl rfl rfl rfl rfl rfl rfl rfl (Bo x.tokens) (C1) (fun _=>Iu x.tokens) Ac (A8 ?_)
  exact Bh
  refine Bk (s':=?_) A0 rfl A7 Dl ?_ ?_
  rotate_left
  refine A8 ?_
  refine Gx hp 6 rfl 15 rfl ?_
  refine B6 A0 rfl rfl rfl rfl rfl rfl rfl rfl rfl rfl rfl (C5 x.news) (C1) (fun _=>F6 x.news) Ac (A8 ?_)
  exact Bh
  refine Bk (s':=?_) A0 rfl A7 Dl ?_ ?_
  rotate_left
  refine A8 ?_
  (repeat refine An ?_)
  exact Bh
  refine Bk (s':=?_) A0 rfl A7 Dl ?_ ?_
  rotate_left
  refine A8 ?_
  (repeat refine An ?_)
  exact Bh
  refine Jt A0 A7 Dl (GW.out (I5 ?_))
  conv=>whnf
  exact B8 [(2,7),(3,6),(4,9),(5,11)] () trivial Px ⟨rfl,trivial⟩ ⟨rfl,rfl,rfl,trivial⟩ Cg A7 trivial A7
  refine A8 ?_
  (repeat refine An ?_)
  exact Bh
  refine Bk (s':=?_) A0 rfl A7 Dl ?_ ?_
  rotate_left
  refine A8 ?_
  refine Kp hp 0 0 0 rfl rfl rfl ?_
  refine Kp hp 0 1 1 rfl rfl rfl ?_
  refine Kp hp 0 2 2 rfl rfl rfl ?_
  refine Cn (Me x.graph hg) rfl (A8 ?_)
  exact Bh
  refine Bk (s':=?_) A0 rfl A7 Dl ?_ ?_
  rotate_left
  refine A8 ?_
  refine Gx hp 5 rfl 11 rfl ?_
  refine B6 A0 rfl rfl rfl rfl rfl rfl rfl rfl rfl rfl rfl (Bo x.tokens) (C1) (fun _=>Iu x.tokens) Ac (A8 ?_)
  exact Bh
  refine Bk (s':=?_) A0 rfl A7 Dl ?_ ?_
  rotate_left
  refine A8 ?_
  refine Gx hp 6 rfl 15 rfl ?_
  refine B6 A0 rfl rfl rfl rfl rfl rfl rfl rfl rfl rfl rfl (C5 x.news) (C1) (fun _=>F6 x.news) Ac (A8 ?_)
  exact Bh
  refine Bk (s':=?_) A0 rfl A7 Dl ?_ ?_
  rotate_left
  refine A8 ?_
  (repeat refine An ?_)
  exact Bh
  refine Bk (s':=?_) A0 rfl A7 Dl ?_ ?_
  rotate_left
  refine A8 ?_
  (repeat refine An ?_)
  exact Bh
  refine Jt A0 A7 Dl (GW.out (I5 ?_))
  conv=>whnf
  exact B8 [(2,6),(3,7),(4,9),(5,11)] () trivial Px ⟨rfl,trivial⟩ ⟨rfl,rfl,rfl,trivial⟩ Cg A7 trivial A7
 intro _ _
 refine A1v hp 0 3 3 rfl rfl rfl ?_
 refine A1v hp 0 4 4 rfl rfl rfl ?_
 refine Wn 2 3 8 (fun i=>Aa.c (([]:List Aa).getD i default)) rfl rfl ?_
 refine Wn 2 4 6 (fun i=>Bz.c (([]:List Bz).getD i default)) rfl rfl ?_
 refine A8 ?_
 refine C0 A0 false [] (fun k:Nat=>[(4,.c (vi k))]) (fun k=>[⟨2,[.own 3,.c (vi x.graph.workers),.c (vi x.graph.cap),.own 6,.own 7,.own 4,.own 5]⟩,⟨0,[.c (.val v0),.c (.val v1),.c (.val v2),.c (Al x.workers),.c (Cf x.links),.c (.val v5),.c (.val v6)]⟩,⟨1,[.c (.val (.slice none 0 0)),.c (vi 0),.c (vi 0),.c (.val (.slice none 0 0)),.c (.val (.slice none 0 0)),.c (.val (.slice none 0 0)),.c (.val (.slice none 0 0))]⟩]) (fun k=>[⟨3,Bn x.graph.nodes⟩,⟨4,Bo x.tokens⟩,⟨5,C5 x.news⟩,⟨6,Al (x.workers.take k)⟩,⟨7,Cf []⟩])
  (fun k=>k≤x.workers.length) (fun k=>x.workers.length-k) 0 (Nat.zero_le _) ⟨G3,trivial⟩ Cg ⟨Ek,Ek,Ek,Ek,Ek,trivial⟩ Co A7 (fun k hk=>?_)
 conv=>whnf
 refine F4 (fun h'=>?_) fun h'=>?_<;>conv=>whnf
 ·have h':k<x.workers.length:=by omega
  have hw:=A3.worker_le h h'
  (repeat refine An ?_)
  first|(refine Ax 1 rfl [0,1,4,5,8,9,2,3,6,7,10,11,12,13] A7 (A8 ?_))|(refine Ax 5 rfl [0,1,2,3,4,5,6,7,8,9,10,11] A7 (A8 ?_))|(refine Ax 9 rfl [0,1,2,3,4,5,6,7,8,9,10,11] A7 (A8 ?_))
  (repeat refine An ?_)
  refine Cn (Hr (x.workers.getD k default) hw) rfl (A8 ?_)
  refine Jp A0 rfl rfl rfl rfl rfl rfl rfl rfl rfl (A8 ?_)
  refine B6 A0 rfl rfl rfl rfl rfl rfl rfl rfl rfl rfl rfl (Al (x.workers.take k++[x.workers.getD k default])) (Ad rfl) Bp (by simp only [List.length_take];omega) (A8 ?_)
  (repeat refine An ?_)
  refine B8 [(6,17)] (k+1) Ac Ac ⟨rfl,trivial⟩ ⟨rfl,rfl,rfl,congrArg Al (Fs x.workers k h').symm,rfl,trivial⟩ Cg A7 Co A7
 rw [Ed x.workers k Ac]
 refine C0 A0 false [] (fun j:Nat=>[(5,.c (vi j))]) (fun j=>[⟨2,[.own 3,.c (vi x.graph.workers),.c (vi x.graph.cap),.own 6,.own 7,.own 4,.own 5]⟩,⟨0,[.c (.val v0),.c (.val v1),.c (.val v2),.c (Al x.workers),.c (Cf x.links),.c (.val v5),.c (.val v6)]⟩,⟨1,[.c (.val (.slice none 0 0)),.c (vi 0),.c (vi 0),.c (.val (.slice none 0 0)),.c (.val (.slice none 0 0)),.c (.val (.slice none 0 0)),.c (.val (.slice none 0 0))]⟩]) (fun j=>[⟨3,Bn x.graph.nodes⟩,⟨4,Bo x.tokens⟩,⟨5,C5 x.news⟩,⟨6,Al x.workers⟩,⟨7,Cf (x.links.take j)⟩])
  (fun j=>j≤x.links.length) (fun j=>x.links.length-j) 0 (Nat.zero_le _) ⟨G3,trivial⟩ Cg ⟨Ek,Ek,Ek,Ek,Ek,trivial⟩ Co A7 (fun j hj=>?_)
 conv=>whnf
 refine F4 (fun h''=>?_) fun h''=>?_<;>conv=>whnf
 ·have h'':j<x.links.length:=by omega
  have hl:=A3.link_le h h''
  (repeat refine An ?_)
  first|(refine Ax 1 rfl [0,1,4,5,8,9,2,3,6,7,10,11,12,13] A7 (A8 ?_))|(refine Ax 5 rfl [0,1,2,3,4,5,6,7,8,9,10,11] A7 (A8 ?_))|(refine Ax 9 rfl [0,1,2,3,4,5,6,7,8,9,10,11] A7 (A8 ?_))
  (repeat refine An ?_)
  refine Cn (L0 (x.links.getD j default) hl) rfl (A8 ?_)
  refine Jp A0 rfl rfl rfl rfl rfl rfl rfl rfl rfl (A8 ?_)
  refine B6 A0 rfl rfl rfl rfl rfl rfl rfl rfl rfl rfl rfl (Cf (x.links.take j++[x.links.getD j default])) (Ad rfl) Bp (by simp only [List.length_take];omega) (A8 ?_)
  (repeat refine An ?_)
  refine B8 [(7,10)] (j+1) Ac Ac ⟨rfl,trivial⟩ ⟨rfl,rfl,rfl,rfl,congrArg Cf (Fs x.links j h'').symm,trivial⟩ Cg A7 Co A7
 refine Ap A0 rfl rfl ⟨⟨rfl,rfl,rfl,rfl,?_,rfl,rfl,trivial⟩,trivial⟩
 exact congrArg Cf (Ed _ _ Ac)
end Go.Proofs.YtdendlkeiaccpaaGreatDoor
