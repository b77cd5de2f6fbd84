/- Part 10 of the proof that each of the laws FnTold returns true for every input. No conditions. -/
import Derived.Test.YtdendlkeiaccpaaGreatDoorP9
import Derived.Test.YtdendlkeiaccpaaGreatDoorP8
import Derived.Test.YtdendlkeiaccpaaGreatDoorP6
import Derived.Test.YtdendlkeiaccpaaGreatDoorP5

set_option linter.unusedSimpArgs false
set_option linter.unusedVariables false
set_option maxRecDepth 100000
namespace Go.Proofs.YtdendlkeiaccpaaGreatDoor
open Go.Sx
theorem L0 (x:Ap)(h:x.w≤16777216):Bo Tryz.prog 109 [.agg x.c] [.agg x.c]:=by
 have h:x.nodes.length+(x.nodes.map Aq.w).sum≤16777216:=h
 refine Bh A0 false Tryz.func109 rfl Aw fun W=>?_
 conv=>whnf
 refine Ed 3 (Bp []) rfl De ?_
 refine C0 A0 false [7] (fun k:Nat=>[(4,.c (vi k))]) (fun _=>[⟨0,[.c (Bp x.nodes),.c (vi x.workers),.c (vi x.cap)]⟩,⟨2,[.own 3,.c (vi x.workers),.c (vi x.cap)]⟩,⟨1,[.any,.any,.any]⟩]) (fun k=>[⟨3,Bp (x.nodes.take k)⟩])
  (fun k=>k≤x.nodes.length) (fun k=>x.nodes.length-k) 0 (Nat.zero_le _) ⟨rfl,trivial⟩ Cf ⟨rfl,trivial⟩ trivial A7 (fun k hk=>?_)
 conv=>whnf
 refine Fi (fun h=>?_) fun h=>?_<;>conv=>whnf
 ·have h:k<x.nodes.length:=by omega
  have hle:=H5 Aq.w x.nodes k h
  have ho:(x.nodes.getD k default).outs.length≤16777216:=by simp only [Aq.w] at hle;omega
  (repeat refine An ?_)
  refine B1 A0 rfl rfl rfl rfl rfl rfl rfl rfl rfl rfl rfl (At (x.nodes.getD k default).outs) (Ci) (fun _=>Rh _) (by first|omega|(simp only [Int.toNat_natCast];omega)) (A8 ?_)
  refine P1 A0 rfl rfl rfl rfl rfl rfl rfl rfl rfl (A8 ?_)
  refine B1 A0 rfl rfl rfl rfl rfl rfl rfl rfl rfl rfl rfl (Bp (x.nodes.take k++[x.nodes.getD k default])) (Aa rfl) Bg (by simp only [List.length_take];omega) (A8 ?_)
  (repeat refine An ?_)
  refine B9 [(3,8)] (k+1) Ab Ab ⟨rfl,trivial⟩ ⟨?_,trivial⟩ Cf A7 trivial A7
  exact congrArg Bp (I2 x.nodes k h).symm
 refine B3 A0 rfl rfl ⟨⟨?_,rfl,rfl,trivial⟩,trivial⟩
 exact congrArg Bp (Fv _ _ Ab)
set_option maxHeartbeats 8000000 in
theorem T3 (x:A5)(h:x.w≤16777216):Bo Tryz.prog 99 [.agg x.c] [.agg x.c]:=by
 have hg:=A5.graph_le h
 have h2:=h
 simp only [A5.w,wS] at h2
 refine A9m A0 false Tryz.func99 rfl Aw fun W us hul huv huo hp=>?_
 match us,hul with
 | [v0,v1,v2,v3,v4,v5,v6],_=>
 conv=>whnf
 refine B4v 4 ?_
 refine B7i A0 false (J:=Unit) [8,9,12,13,16,17] (fun _=>[(3,.box 2 0)]) (fun _=>[⟨2,[.own 3,.c (vi x.graph.workers),.c (vi x.graph.cap),.c (.val (.slice none 0 0)),.c (.val (.slice none 0 0)),.own 4,.own 5]⟩,⟨0,[.c (.val v0),.c (.val v1),.c (.val v2),.c (.val v3),.c (.val v4),.c (.val v5),.c (.val v6)]⟩,⟨1,[.c (.val (.slice none 0 0)),.c (vi 0),.c (vi 0),.c (.val (.slice none 0 0)),.c (.val (.slice none 0 0)),.c (.val (.slice none 0 0)),.c (.val (.slice none 0 0))]⟩]) (fun _=>[⟨3,Bp x.graph.nodes⟩,⟨4,C9 x.tokens⟩,⟨5,Cj x.news⟩]) (fun _=>True) ?_ ?_
 ·conv=>whnf
  refine J8 rfl ?_
  refine Bu A0 false 0 rfl rfl A7 rfl (A4 B2) ?_
  refine Bu A0 false 4 rfl rfl A7 rfl (A4 B2) ?_
  refine Bu A0 false 8 rfl rfl A7 rfl (A4 B2) ?_
  refine Lf [2,6,10,11,12,13] [⟨1,7,.ra [v0,v1,v2]⟩,⟨3,9,.emp 5⟩,⟨5,11,.rd v5⟩,⟨7,13,.emp 3⟩,⟨9,15,.rd v6⟩] A7 ?_
  refine L4 (s1:=?_) (s2:=?_) A0 [2,6,10,11,12,13] 2 12 [6,10,11,12,13] [2,6,10,11,13] rfl rfl A7 E5 Aw Aw ?_ ?_ ?_ ?_
  rotate_left 2
  refine A8 ?_
  refine Ry hp 0 0 0 rfl rfl rfl ?_
  refine Ry hp 0 1 1 rfl rfl rfl ?_
  refine Ry hp 0 2 2 rfl rfl rfl ?_
  refine Cq (L0 x.graph hg) rfl (A8 ?_)
  exact Bf
  refine L4 (s1:=?_) (s2:=?_) A0 [6,10,11,12,13] 6 12 [10,11,12,13] [6,10,11,13] rfl rfl A7 E5 Aw Aw ?_ ?_ ?_ ?_
  rotate_left 2
  refine A8 ?_
  refine K8 hp 5 rfl 11 rfl ?_
  refine B1 A0 rfl rfl rfl rfl rfl rfl rfl rfl rfl rfl rfl (C9 x.tokens) (Ci) (fun _=>N6 x.tokens) Ab (A8 ?_)
  exact Bf
  refine L4 (s1:=?_) (s2:=?_) A0 [10,11,12,13] 10 12 [11,12,13] [10,11,13] rfl rfl A7 E5 Aw Aw ?_ ?_ ?_ ?_
  rotate_left 2
  refine A8 ?_
  refine K8 hp 6 rfl 15 rfl ?_
  refine B1 A0 rfl rfl rfl rfl rfl rfl rfl rfl rfl rfl rfl (Cj x.news) (Ci) (fun _=>Gp x.news) Ab (A8 ?_)
  exact Bf
  refine L4 (s1:=?_) (s2:=?_) A0 [11,12,13] 11 12 [12,13] [11,13] rfl rfl A7 E5 Aw Aw ?_ ?_ ?_ ?_
  rotate_left 2
  refine A8 ?_
  (repeat refine An ?_)
  exact Bf
  refine Bm (s':=?_) A0 rfl A7 E5 ?_ ?_
  rotate_left
  refine A8 ?_
  (repeat refine An ?_)
  exact Bf
  refine Bm (s':=?_) A0 rfl A7 E5 ?_ ?_
  rotate_left
  refine A8 ?_
  (repeat refine An ?_)
  exact Bf
  refine K3 A0 A7 E5 (GW.out (Ji ?_))
  conv=>whnf
  exact B9 [(2,11),(3,6),(4,8),(5,10)] () trivial (by exact Nat.zero_lt_one) ⟨rfl,trivial⟩ ⟨rfl,rfl,rfl,trivial⟩ Cf A7 trivial A7
  refine A8 ?_
  (repeat refine An ?_)
  exact Bf
  refine Bm (s':=?_) A0 rfl A7 E5 ?_ ?_
  rotate_left
  refine A8 ?_
  (repeat refine An ?_)
  exact Bf
  refine Bm (s':=?_) A0 rfl A7 E5 ?_ ?_
  rotate_left
  refine A8 ?_
  (repeat refine An ?_)
  exact Bf
  refine K3 A0 A7 E5 (GW.out (Ji ?_))
  conv=>whnf
  exact B9 [(2,11),(3,6),(4,8),(5,10)] () trivial (by exact Nat.zero_lt_one) ⟨rfl,trivial⟩ ⟨rfl,rfl,rfl,trivial⟩ Cf A7 trivial A7
  refine A8 ?_
  (repeat refine An ?_)
  exact Bf
  refine Bm (s':=?_) A0 rfl A7 E5 ?_ ?_
  rotate_left
  refine A8 ?_
  refine K8 hp 6 rfl 15 rfl ?_
  refine B1 A0 rfl rfl rfl rfl rfl rfl rfl rfl rfl rfl rfl (Cj x.news) (Ci) (fun _=>Gp x.news) Ab (A8 ?_)
  exact Bf
  refine Bm (s':=?_) A0 rfl A7 E5 ?_ ?_
  rotate_left
  refine A8 ?_
  (repeat refine An ?_)
  exact Bf
  refine Bm (s':=?_) A0 rfl A7 E5 ?_ ?_
  rotate_left
  refine A8 ?_
  (repeat refine An ?_)
  exact Bf
  refine K3 A0 A7 E5 (GW.out (Ji ?_))
  conv=>whnf
  exact B9 [(2,9),(3,6),(4,8),(5,11)] () trivial (by exact Nat.zero_lt_one) ⟨rfl,trivial⟩ ⟨rfl,rfl,rfl,trivial⟩ Cf A7 trivial A7
  refine A8 ?_
  (repeat refine An ?_)
  exact Bf
  refine Bm (s':=?_) A0 rfl A7 E5 ?_ ?_
  rotate_left
  refine A8 ?_
  refine K8 hp 5 rfl 11 rfl ?_
  refine B1 A0 rfl rfl rfl rfl rfl rfl rfl rfl rfl rfl rfl (C9 x.tokens) (Ci) (fun _=>N6 x.tokens) Ab (A8 ?_)
  exact Bf
  refine Bm (s':=?_) A0 rfl A7 E5 ?_ ?_
  rotate_left
  refine A8 ?_
  refine K8 hp 6 rfl 15 rfl ?_
  refine B1 A0 rfl rfl rfl rfl rfl rfl rfl rfl rfl rfl rfl (Cj x.news) (Ci) (fun _=>Gp x.news) Ab (A8 ?_)
  exact Bf
  refine Bm (s':=?_) A0 rfl A7 E5 ?_ ?_
  rotate_left
  refine A8 ?_
  (repeat refine An ?_)
  exact Bf
  refine Bm (s':=?_) A0 rfl A7 E5 ?_ ?_
  rotate_left
  refine A8 ?_
  (repeat refine An ?_)
  exact Bf
  refine K3 A0 A7 E5 (GW.out (Ji ?_))
  conv=>whnf
  exact B9 [(2,7),(3,6),(4,9),(5,11)] () trivial (by exact Nat.zero_lt_one) ⟨rfl,trivial⟩ ⟨rfl,rfl,rfl,trivial⟩ Cf A7 trivial A7
  refine A8 ?_
  (repeat refine An ?_)
  exact Bf
  refine Bm (s':=?_) A0 rfl A7 E5 ?_ ?_
  rotate_left
  refine A8 ?_
  refine Ry hp 0 0 0 rfl rfl rfl ?_
  refine Ry hp 0 1 1 rfl rfl rfl ?_
  refine Ry hp 0 2 2 rfl rfl rfl ?_
  refine Cq (L0 x.graph hg) rfl (A8 ?_)
  exact Bf
  refine Bm (s':=?_) A0 rfl A7 E5 ?_ ?_
  rotate_left
  refine A8 ?_
  refine K8 hp 5 rfl 11 rfl ?_
  refine B1 A0 rfl rfl rfl rfl rfl rfl rfl rfl rfl rfl rfl (C9 x.tokens) (Ci) (fun _=>N6 x.tokens) Ab (A8 ?_)
  exact Bf
  refine Bm (s':=?_) A0 rfl A7 E5 ?_ ?_
  rotate_left
  refine A8 ?_
  refine K8 hp 6 rfl 15 rfl ?_
  refine B1 A0 rfl rfl rfl rfl rfl rfl rfl rfl rfl rfl rfl (Cj x.news) (Ci) (fun _=>Gp x.news) Ab (A8 ?_)
  exact Bf
  refine Bm (s':=?_) A0 rfl A7 E5 ?_ ?_
  rotate_left
  refine A8 ?_
  (repeat refine An ?_)
  exact Bf
  refine Bm (s':=?_) A0 rfl A7 E5 ?_ ?_
  rotate_left
  refine A8 ?_
  (repeat refine An ?_)
  exact Bf
  refine K3 A0 A7 E5 (GW.out (Ji ?_))
  conv=>whnf
  exact B9 [(2,6),(3,7),(4,9),(5,11)] () trivial (by exact Nat.zero_lt_one) ⟨rfl,trivial⟩ ⟨rfl,rfl,rfl,trivial⟩ Cf A7 trivial A7
 intro _ _
 refine B1n hp 0 3 3 rfl rfl rfl ?_
 refine B1n hp 0 4 4 rfl rfl rfl ?_
 refine A1v 2 3 8 (fun i=>A9.c (([]:List A9).getD i default)) rfl rfl ?_
 refine A1v 2 4 6 (fun i=>Bv.c (([]:List Bv).getD i default)) rfl rfl ?_
 refine A8 ?_
 refine C0 A0 false [] (fun k:Nat=>[(4,.c (vi k))]) (fun k=>[⟨2,[.own 3,.c (vi x.graph.workers),.c (vi x.graph.cap),.own 6,.own 7,.own 4,.own 5]⟩,⟨0,[.c (.val v0),.c (.val v1),.c (.val v2),.c (Av x.workers),.c (Cy x.links),.c (.val v5),.c (.val v6)]⟩,⟨1,[.c (.val (.slice none 0 0)),.c (vi 0),.c (vi 0),.c (.val (.slice none 0 0)),.c (.val (.slice none 0 0)),.c (.val (.slice none 0 0)),.c (.val (.slice none 0 0))]⟩]) (fun k=>[⟨3,Bp x.graph.nodes⟩,⟨4,C9 x.tokens⟩,⟨5,Cj x.news⟩,⟨6,Av (x.workers.take k)⟩,⟨7,Cy []⟩])
  (fun k=>k≤x.workers.length) (fun k=>x.workers.length-k) 0 (Nat.zero_le _) ⟨G9,trivial⟩ Cf ⟨Eu,Eu,Eu,Eu,Eu,trivial⟩ Cr A7 (fun k hk=>?_)
 conv=>whnf
 refine Fi (fun h'=>?_) fun h'=>?_<;>conv=>whnf
 ·have h':k<x.workers.length:=by omega
  have hw:=A5.worker_le h h'
  (repeat refine An ?_)
  first|(refine B7 1 rfl [0,1,4,5,8,9,2,3,6,7,10,11,12,13] A7 (A8 ?_))|(refine B7 5 rfl [0,1,2,3,4,5,6,7,8,9,10,11] A7 (A8 ?_))|(refine B7 9 rfl [0,1,2,3,4,5,6,7,8,9,10,11] A7 (A8 ?_))
  (repeat refine An ?_)
  refine Cq (H4 (x.workers.getD k default) hw) rfl (A8 ?_)
  refine P1 A0 rfl rfl rfl rfl rfl rfl rfl rfl rfl (A8 ?_)
  refine B1 A0 rfl rfl rfl rfl rfl rfl rfl rfl rfl rfl rfl (Av (x.workers.take k++[x.workers.getD k default])) (Aa rfl) Bg (by simp only [List.length_take];omega) (A8 ?_)
  (repeat refine An ?_)
  refine B9 [(6,17)] (k+1) Ab Ab ⟨rfl,trivial⟩ ⟨rfl,rfl,rfl,congrArg Av (I2 x.workers k h').symm,rfl,trivial⟩ Cf A7 Cr A7
 rw [Fv x.workers k Ab]
 refine C0 A0 false [] (fun j:Nat=>[(5,.c (vi j))]) (fun j=>[⟨2,[.own 3,.c (vi x.graph.workers),.c (vi x.graph.cap),.own 6,.own 7,.own 4,.own 5]⟩,⟨0,[.c (.val v0),.c (.val v1),.c (.val v2),.c (Av x.workers),.c (Cy x.links),.c (.val v5),.c (.val v6)]⟩,⟨1,[.c (.val (.slice none 0 0)),.c (vi 0),.c (vi 0),.c (.val (.slice none 0 0)),.c (.val (.slice none 0 0)),.c (.val (.slice none 0 0)),.c (.val (.slice none 0 0))]⟩]) (fun j=>[⟨3,Bp x.graph.nodes⟩,⟨4,C9 x.tokens⟩,⟨5,Cj x.news⟩,⟨6,Av x.workers⟩,⟨7,Cy (x.links.take j)⟩])
  (fun j=>j≤x.links.length) (fun j=>x.links.length-j) 0 (Nat.zero_le _) ⟨G9,trivial⟩ Cf ⟨Eu,Eu,Eu,Eu,Eu,trivial⟩ Cr A7 (fun j hj=>?_)
 conv=>whnf
 refine Fi (fun h''=>?_) fun h''=>?_<;>conv=>whnf
 ·have h'':j<x.links.length:=by omega
  have hl:=A5.link_le h h''
  (repeat refine An ?_)
  first|(refine B7 1 rfl [0,1,4,5,8,9,2,3,6,7,10,11,12,13] A7 (A8 ?_))|(refine B7 5 rfl [0,1,2,3,4,5,6,7,8,9,10,11] A7 (A8 ?_))|(refine B7 9 rfl [0,1,2,3,4,5,6,7,8,9,10,11] A7 (A8 ?_))
  (repeat refine An ?_)
  refine Cq (Jn (x.links.getD j default) hl) rfl (A8 ?_)
  refine P1 A0 rfl rfl rfl rfl rfl rfl rfl rfl rfl (A8 ?_)
  refine B1 A0 rfl rfl rfl rfl rfl rfl rfl rfl rfl rfl rfl (Cy (x.links.take j++[x.links.getD j default])) (Aa rfl) Bg (by simp only [List.length_take];omega) (A8 ?_)
  (repeat refine An ?_)
  refine B9 [(7,10)] (j+1) Ab Ab ⟨rfl,trivial⟩ ⟨rfl,rfl,rfl,rfl,congrArg Cy (I2 x.links j h'').symm,trivial⟩ Cf A7 Cr A7
 refine B3 A0 rfl rfl ⟨⟨rfl,rfl,rfl,rfl,?_,rfl,rfl,trivial⟩,trivial⟩
 exact congrArg Cy (Fv _ _ Ab)
theorem Vr (x:A5)(e:Int)(h:x.w≤16777216):Bo Tryz.prog 54 [.agg x.c,.one (vi e)] [.one (vb (K6 x e))]:=by
 have hl:=A5.workers_le h
 refine Bh A0 false Tryz.func54 rfl Aw fun W=>?_
 conv=>whnf
 refine Fi (fun h0=>?_) fun h0=>?_<;>conv=>whnf
 ·have hw:=Go.Sx.A5.worker_le h (show 0<x.workers.length by omega)
  repeat' (first|(refine L6 ?_;conv=>whnf)|(refine L7 ?_;conv=>whnf)|(refine ⟨fun h=>?_,fun h=>?_⟩<;>conv=>whnf)|(refine Ft ?_;conv=>whnf)|fail)
  refine B5 (Vo (x.workers.getD 0 default) e Ab) rfl (A8 ?_)
  repeat' (first|(refine L6 ?_;conv=>whnf)|(refine L7 ?_;conv=>whnf)|(refine ⟨fun h=>?_,fun h=>?_⟩<;>conv=>whnf)|(refine Ft ?_;conv=>whnf)|fail)
  exact B3 A0 rfl rfl ⟨congrArg vb (by rw [K6,if_pos Ab]),trivial⟩
 repeat' (first|(refine L6 ?_;conv=>whnf)|(refine L7 ?_;conv=>whnf)|(refine ⟨fun h=>?_,fun h=>?_⟩<;>conv=>whnf)|(refine Ft ?_;conv=>whnf)|fail)
 exact B3 A0 rfl rfl ⟨congrArg vb (by rw [K6,if_neg Ab]),trivial⟩
def Af (c:A5) (e:Int):D0:=c.tokens.getD e.toNat default
def Ad (c:A5) (j:Int):A9:=c.workers.getD j.toNat default
def Da (c:A5) (e:Int) (t:D0):A5:=⟨c.graph,c.workers,c.links,c.tokens.set e.toNat t,c.news⟩
def Bb (c:A5) (j:Int) (w:A9):A5:=⟨c.graph,c.workers.set j.toNat w,c.links,c.tokens,c.news⟩
def Iu (w:A9) (e:Int):A9:=⟨w.queue,w.staged,w.inputs,w.cells,w.sums,w.black.set e.toNat false,w.caps,w.dones⟩
def H2 (w:A9) (d:Ep):A9:=⟨w.queue,w.staged,w.inputs,w.cells,w.sums,w.black,w.caps,w.dones++[d]⟩
def Mp (e:Int) (b:Bool) (k:Nat):List Fy:=(List.range k).map fun (i:Nat)=>(⟨(i:Int)+1,e,b⟩:Fy)
def Px (c:A5) (l:List Fy):A5:=⟨c.graph,c.workers,c.links,c.tokens,c.news++l⟩
def It (c:A5) (e:Int) (t:D0) (w:A9):A5:=
 if t.black=false∧w.black.getD e.toNat default=false∧t.sum+w.sums.getD e.toNat default=0 then
  Px (Bb c 0 (H2 w ⟨e,t.capped||w.caps.getD e.toNat default⟩)) (Mp e (t.capped||w.caps.getD e.toNat default) (c.workers.length-1))
 else c
def Pv (c:A5) (e:Int):Prop:=B6 c∧(0≤e∧e≤3)∧Gf (Ad c 0) e=false∧Jr (Ad c (Af c e).at_) e=true
instance (c:A5) (e:Int):Decidable (Pv c e):=by unfold Pv;infer_instance
def Cu (c:A5) (e:Int):A5×Bool:=
 if Pv c e then
  let t:=Af c e
  let w:=Ad c t.at_
  if t.going=false then (Bb (Da c e ⟨true,(c.workers.length:Int)-1,0,false,w.caps.getD e.toNat default⟩) t.at_ (Iu w e),true)
  else if t.at_>0 then
   if I4 (t.sum+w.sums.getD e.toNat default) then
    (Bb (Da c e ⟨t.going,t.at_-1,t.sum+w.sums.getD e.toNat default,t.black||w.black.getD e.toNat default,t.capped||w.caps.getD e.toNat default⟩) t.at_ (Iu w e),true)
   else (c,false)
  else (It (Da c e ⟨false,t.at_,t.sum,t.black,t.capped⟩) e t w,true)
 else (c,false)
theorem A8c {c:A5}{e:Int}(h:Pv c e)(hg:(Af c e).going=false):Cu c e=(Bb (Da c e ⟨true,(c.workers.length:Int)-1,0,false,(Ad c (Af c e).at_).caps.getD e.toNat default⟩) (Af c e).at_ (Iu (Ad c (Af c e).at_) e),true):=by
 rw [Cu,if_pos h]
 simp only [hg,if_true]
theorem B4l {c:A5}{e:Int}(h:Pv c e)(hg:(Af c e).going=true)(ha:(Af c e).at_>0)(hs:¬ I4 ((Af c e).sum+(Ad c (Af c e).at_).sums.getD e.toNat default)):Cu c e=(c,false):=by
 rw [Cu,if_pos h]
 simp only [hg,Bool.true_eq_false,if_false,if_pos ha,if_neg hs]
theorem R6 {c:A5}{e:Int}(h:Pv c e)(hg:(Af c e).going=true)(ha:(Af c e).at_>0)(hs:I4 ((Af c e).sum+(Ad c (Af c e).at_).sums.getD e.toNat default)):
  Cu c e=(Bb (Da c e ⟨true,(Af c e).at_-1,(Af c e).sum+(Ad c (Af c e).at_).sums.getD e.toNat default,(Af c e).black||(Ad c (Af c e).at_).black.getD e.toNat default,(Af c e).capped||(Ad c (Af c e).at_).caps.getD e.toNat default⟩) (Af c e).at_ (Iu (Ad c (Af c e).at_) e),true):=by
 rw [Cu,if_pos h]
 simp only [hg,Bool.true_eq_false,if_false,if_pos ha,if_pos hs]
theorem Vz {c:A5}{e:Int}(h:¬ Pv c e):Cu c e=(c,false):=by rw [Cu,if_neg h]
theorem D5 {α:Type} [Inhabited α] {es:Nat}{e:α→List Ac}{l:List α}{j:Nat}{r:List Ac}(h:r=e (l.getD j default)):Gy (.sl l.length es (Fa (fun i=>e (l.getD i default)) j r)) (Is es e l):=by
 refine ⟨rfl,rfl,fun i _=>?_⟩
 unfold Fa
 split
 ·rename_i e;subst e;rw [h];exact Fx.rfl' _
 exact Fx.rfl' _
theorem J5 {α:Type} [Inhabited α] {es:Nat}{e:α→List Ac}{l:List α}{j:Nat}{r:List Ac}{x:α}(hj:j<l.length)(h:r=e x):Gy (.sl l.length es (Fa (fun i=>e (l.getD i default)) j r)) (Is es e (l.set j x)):=by
 refine ⟨by rw [List.length_set],rfl,fun i _=>?_⟩
 unfold Fa
 split
 ·rename_i q
  subst q
  show Fx r (e ((l.set i x).getD i default))
  rw [h,Sx.getD_set_self _ _ _ _ hj]
  exact Fx.rfl' _
 rename_i q
 show Fx (e (l.getD i default)) (e ((l.set j x).getD i default))
 rw [Sx.getD_set_ne _ _ _ _ _ q]
 exact Fx.rfl' _
abbrev Ru (x:A5) (b:Bool):List Ac:=[Bp x.graph.nodes,vi x.graph.workers,vi x.graph.cap,Av x.workers,Cy x.links,C9 x.tokens,Cj x.news,vb b]
abbrev rc (x:A5):List Ac:=Ru x (B4 x)
theorem R5 {c:A5}{e:Int}(h:Pv c e)(hg:(Af c e).going=true)(ha:¬ (Af c e).at_>0):Cu c e=(It (Da c e ⟨false,(Af c e).at_,(Af c e).sum,(Af c e).black,(Af c e).capped⟩) e (Af c e) (Ad c (Af c e).at_),true):=by
 rw [Cu,if_pos h]
 simp only [hg,Bool.true_eq_false,if_false,if_neg ha]
end Go.Proofs.YtdendlkeiaccpaaGreatDoor
