/- Part 10 of the proof that each of the laws FnTight returns true for every input. No conditions. -/
import Derived.Test.YtonodkjaoalfjaaP9
import Derived.Test.YtonodkjaoalfjaaP8
import Derived.Test.YtonodkjaoalfjaaP5
import Derived.Test.YtonodkjaoalfjaaP6

set_option linter.unusedSimpArgs false
set_option linter.unusedVariables false
set_option maxRecDepth 100000
namespace Go.Proofs.Ytonodkjaoalfjaa
open Go.Sx
theorem Ch (x:An)(h:x.w≤16777216):Bp Try.prog 27 [.agg x.c] [.agg x.c]:=by
 have h:x.nodes.length+(x.nodes.map C3.w).sum≤16777216:=h
 refine Bm A0 false Try.func27 rfl Cb fun W=>?_
 conv=>whnf
 refine Du 3 (Bt []) rfl Da ?_
 refine Cc A0 false [7] (fun k:Nat=>[(4,.c (vi k))]) (fun _=>[⟨0,[.c (Bt x.nodes),.c (vi x.workers),.c (vi x.cap)]⟩,⟨2,[.own 3,.c (vi x.workers),.c (vi x.cap)]⟩,⟨1,[.any,.any,.any]⟩]) (fun k=>[⟨3,Bt (x.nodes.take k)⟩])
  (fun k=>k≤x.nodes.length) (fun k=>x.nodes.length-k) 0 (Nat.zero_le _) ⟨rfl,trivial⟩ D8 ⟨rfl,trivial⟩ trivial A6 (fun k hk=>?_)
 conv=>whnf
 refine G2 (fun h=>?_) fun h=>?_<;>conv=>whnf
 ·have h:k<x.nodes.length:=by omega
  have hle:=Fm C3.w x.nodes k h
  have ho:(x.nodes.getD k default).outs.length≤16777216:=by simp only [C3.w] at hle;omega
  (repeat refine Ak ?_)
  refine B4 A0 rfl rfl rfl rfl rfl rfl rfl rfl rfl rfl rfl (Ds (x.nodes.getD k default).outs) (Ah) (fun _=>Nr _) (by first|omega|(simp only [Int.toNat_natCast];omega)) (Af ?_)
  refine Lw A0 rfl rfl rfl rfl rfl rfl rfl rfl rfl (Af ?_)
  refine B4 A0 rfl rfl rfl rfl rfl rfl rfl rfl rfl rfl rfl (Bt (x.nodes.take k++[x.nodes.getD k default])) (B5 rfl) Rt (by simp only [List.length_take];omega) (Af ?_)
  (repeat refine Ak ?_)
  refine B8 [(3,8)] (k+1) Ag Ag ⟨rfl,trivial⟩ ⟨?_,trivial⟩ D8 A6 trivial A6
  exact congrArg Bt (Fu x.nodes k h).symm
 ·refine B1 A0 rfl rfl ⟨⟨?_,rfl,rfl,trivial⟩,trivial⟩
  exact congrArg Bt (Gr _ _ Ag)
set_option maxHeartbeats 8000000 in
theorem P9 (x:A3)(h:x.w≤16777216):Bp Try.prog 53 [.agg x.c] [.agg x.c]:=by
 have hg:=A3.graph_le h
 have h2:=h
 simp only [A3.w,wS] at h2
 refine A15 A0 false Try.func53 rfl Cb fun W us hul huv huo hp=>?_
 match us,hul with
 | [v0,v1,v2,v3,v4,v5,v6],_=>
 conv=>whnf
 refine A52 4 ?_
 refine A7y A0 false (J:=Unit) [8,9,12,13,16,17] (fun _=>[(3,.box 2 0)]) (fun _=>[⟨2,[.own 3,.c (vi x.graph.workers),.c (vi x.graph.cap),.c (.val (.slice none 0 0)),.c (.val (.slice none 0 0)),.own 4,.own 5]⟩,⟨0,[.c (.val v0),.c (.val v1),.c (.val v2),.c (.val v3),.c (.val v4),.c (.val v5),.c (.val v6)]⟩,⟨1,[.c (.val (.slice none 0 0)),.c (vi 0),.c (vi 0),.c (.val (.slice none 0 0)),.c (.val (.slice none 0 0)),.c (.val (.slice none 0 0)),.c (.val (.slice none 0 0))]⟩]) (fun _=>[⟨3,Bt x.graph.nodes⟩,⟨4,Cl x.tokens⟩,⟨5,D0 x.news⟩]) (fun _=>True) ?_ ?_
 ·conv=>whnf
  refine J7 rfl ?_
  refine Bi A0 false 0 rfl rfl A6 rfl (Aa D3) ?_
  refine Bi A0 false 4 rfl rfl A6 rfl (Aa D3) ?_
  refine Bi A0 false 8 rfl rfl A6 rfl (Aa D3) ?_
  refine Kt [2,6,10,11,12,13] [⟨1,7,.ra [v0,v1,v2]⟩,⟨3,9,.emp 5⟩,⟨5,11,.rd v5⟩,⟨7,13,.emp 3⟩,⟨9,15,.rd v6⟩] A6 ?_
  refine J2 (s1:=?_) (s2:=?_) A0 [2,6,10,11,12,13] 2 12 [6,10,11,12,13] [2,6,10,11,13] rfl rfl A6 Db Cb Cb ?_ ?_ ?_ ?_
  rotate_left 2
  refine go A0 false ?_
  conv=>whnf
  refine O9 hp 0 0 0 rfl rfl rfl ?_
  refine O9 hp 0 1 1 rfl rfl rfl ?_
  refine O9 hp 0 2 2 rfl rfl rfl ?_
  refine Dk (Ch x.graph hg) rfl (Af ?_)
  exact Ay
  refine J2 (s1:=?_) (s2:=?_) A0 [6,10,11,12,13] 6 12 [10,11,12,13] [6,10,11,13] rfl rfl A6 Db Cb Cb ?_ ?_ ?_ ?_
  rotate_left 2
  refine go A0 false ?_
  conv=>whnf
  refine I8 hp 5 rfl 11 rfl ?_
  refine B4 A0 rfl rfl rfl rfl rfl rfl rfl rfl rfl rfl rfl (Cl x.tokens) (Ah) (fun _=>Kj x.tokens) Ag (Af ?_)
  exact Ay
  refine J2 (s1:=?_) (s2:=?_) A0 [10,11,12,13] 10 12 [11,12,13] [10,11,13] rfl rfl A6 Db Cb Cb ?_ ?_ ?_ ?_
  rotate_left 2
  refine go A0 false ?_
  conv=>whnf
  refine I8 hp 6 rfl 15 rfl ?_
  refine B4 A0 rfl rfl rfl rfl rfl rfl rfl rfl rfl rfl rfl (D0 x.news) (Ah) (fun _=>F5 x.news) Ag (Af ?_)
  exact Ay
  refine J2 (s1:=?_) (s2:=?_) A0 [11,12,13] 11 12 [12,13] [11,13] rfl rfl A6 Db Cb Cb ?_ ?_ ?_ ?_
  rotate_left 2
  refine go A0 false ?_
  conv=>whnf
  (repeat refine Ak ?_)
  exact Ay
  refine B2 (s':=?_) A0 rfl A6 Db ?_ ?_
  rotate_left
  refine go A0 false ?_
  conv=>whnf
  (repeat refine Ak ?_)
  exact Ay
  refine B2 (s':=?_) A0 rfl A6 Db ?_ ?_
  rotate_left
  refine go A0 false ?_
  conv=>whnf
  (repeat refine Ak ?_)
  exact Ay
  refine Ix A0 A6 Db (GW.out (J4 ?_))
  conv=>whnf
  exact B8 [(2,11),(3,6),(4,8),(5,10)] () trivial (by exact Nat.zero_lt_one) ⟨rfl,trivial⟩ ⟨rfl,rfl,rfl,trivial⟩ D8 A6 trivial A6
  refine go A0 false ?_
  conv=>whnf
  (repeat refine Ak ?_)
  exact Ay
  refine B2 (s':=?_) A0 rfl A6 Db ?_ ?_
  rotate_left
  refine go A0 false ?_
  conv=>whnf
  (repeat refine Ak ?_)
  exact Ay
  refine B2 (s':=?_) A0 rfl A6 Db ?_ ?_
  rotate_left
  refine go A0 false ?_
  conv=>whnf
  (repeat refine Ak ?_)
  exact Ay
  refine Ix A0 A6 Db (GW.out (J4 ?_))
  conv=>whnf
  exact B8 [(2,11),(3,6),(4,8),(5,10)] () trivial (by exact Nat.zero_lt_one) ⟨rfl,trivial⟩ ⟨rfl,rfl,rfl,trivial⟩ D8 A6 trivial A6
  refine go A0 false ?_
  conv=>whnf
  (repeat refine Ak ?_)
  exact Ay
  refine B2 (s':=?_) A0 rfl A6 Db ?_ ?_
  rotate_left
  refine go A0 false ?_
  conv=>whnf
  refine I8 hp 6 rfl 15 rfl ?_
  refine B4 A0 rfl rfl rfl rfl rfl rfl rfl rfl rfl rfl rfl (D0 x.news) (Ah) (fun _=>F5 x.news) Ag (Af ?_)
  exact Ay
  refine B2 (s':=?_) A0 rfl A6 Db ?_ ?_
  rotate_left
  refine go A0 false ?_
  conv=>whnf
  (repeat refine Ak ?_)
  exact Ay
  refine B2 (s':=?_) A0 rfl A6 Db ?_ ?_
  rotate_left
  refine go A0 false ?_
  conv=>whnf
  (repeat refine Ak ?_)
  exact Ay
  refine Ix A0 A6 Db (GW.out (J4 ?_))
  conv=>whnf
  exact B8 [(2,9),(3,6),(4,8),(5,11)] () trivial (by exact Nat.zero_lt_one) ⟨rfl,trivial⟩ ⟨rfl,rfl,rfl,trivial⟩ D8 A6 trivial A6
  refine go A0 false ?_
  conv=>whnf
  (repeat refine Ak ?_)
  exact Ay
  refine B2 (s':=?_) A0 rfl A6 Db ?_ ?_
  rotate_left
  refine go A0 false ?_
  conv=>whnf
  refine I8 hp 5 rfl 11 rfl ?_
  refine B4 A0 rfl rfl rfl rfl rfl rfl rfl rfl rfl rfl rfl (Cl x.tokens) (Ah) (fun _=>Kj x.tokens) Ag (Af ?_)
  exact Ay
  refine B2 (s':=?_) A0 rfl A6 Db ?_ ?_
  rotate_left
  refine go A0 false ?_
  conv=>whnf
  refine I8 hp 6 rfl 15 rfl ?_
  refine B4 A0 rfl rfl rfl rfl rfl rfl rfl rfl rfl rfl rfl (D0 x.news) (Ah) (fun _=>F5 x.news) Ag (Af ?_)
  exact Ay
  refine B2 (s':=?_) A0 rfl A6 Db ?_ ?_
  rotate_left
  refine go A0 false ?_
  conv=>whnf
  (repeat refine Ak ?_)
  exact Ay
  refine B2 (s':=?_) A0 rfl A6 Db ?_ ?_
  rotate_left
  refine go A0 false ?_
  conv=>whnf
  (repeat refine Ak ?_)
  exact Ay
  refine Ix A0 A6 Db (GW.out (J4 ?_))
  conv=>whnf
  exact B8 [(2,7),(3,6),(4,9),(5,11)] () trivial (by exact Nat.zero_lt_one) ⟨rfl,trivial⟩ ⟨rfl,rfl,rfl,trivial⟩ D8 A6 trivial A6
  refine go A0 false ?_
  conv=>whnf
  (repeat refine Ak ?_)
  exact Ay
  refine B2 (s':=?_) A0 rfl A6 Db ?_ ?_
  rotate_left
  refine go A0 false ?_
  conv=>whnf
  refine O9 hp 0 0 0 rfl rfl rfl ?_
  refine O9 hp 0 1 1 rfl rfl rfl ?_
  refine O9 hp 0 2 2 rfl rfl rfl ?_
  refine Dk (Ch x.graph hg) rfl (Af ?_)
  exact Ay
  refine B2 (s':=?_) A0 rfl A6 Db ?_ ?_
  rotate_left
  refine go A0 false ?_
  conv=>whnf
  refine I8 hp 5 rfl 11 rfl ?_
  refine B4 A0 rfl rfl rfl rfl rfl rfl rfl rfl rfl rfl rfl (Cl x.tokens) (Ah) (fun _=>Kj x.tokens) Ag (Af ?_)
  exact Ay
  refine B2 (s':=?_) A0 rfl A6 Db ?_ ?_
  rotate_left
  refine go A0 false ?_
  conv=>whnf
  refine I8 hp 6 rfl 15 rfl ?_
  refine B4 A0 rfl rfl rfl rfl rfl rfl rfl rfl rfl rfl rfl (D0 x.news) (Ah) (fun _=>F5 x.news) Ag (Af ?_)
  exact Ay
  refine B2 (s':=?_) A0 rfl A6 Db ?_ ?_
  rotate_left
  refine go A0 false ?_
  conv=>whnf
  (repeat refine Ak ?_)
  exact Ay
  refine B2 (s':=?_) A0 rfl A6 Db ?_ ?_
  rotate_left
  refine go A0 false ?_
  conv=>whnf
  (repeat refine Ak ?_)
  exact Ay
  refine Ix A0 A6 Db (GW.out (J4 ?_))
  conv=>whnf
  exact B8 [(2,6),(3,7),(4,9),(5,11)] () trivial (by exact Nat.zero_lt_one) ⟨rfl,trivial⟩ ⟨rfl,rfl,rfl,trivial⟩ D8 A6 trivial A6
 intro _ _
 refine A3q hp 0 3 3 rfl rfl rfl ?_
 refine A3q hp 0 4 4 rfl rfl rfl ?_
 refine A49 2 3 8 (fun i=>Ad.c (([]:List Ad).getD i default)) rfl rfl ?_
 refine A49 2 4 6 (fun i=>C0.c (([]:List C0).getD i default)) rfl rfl ?_
 refine go A0 false ?_
 conv=>whnf
 refine Cc A0 false [] (fun k:Nat=>[(4,.c (vi k))]) (fun k=>[⟨2,[.own 3,.c (vi x.graph.workers),.c (vi x.graph.cap),.own 6,.own 7,.own 4,.own 5]⟩,⟨0,[.c (.val v0),.c (.val v1),.c (.val v2),.c (Ap x.workers),.c (D7 x.links),.c (.val v5),.c (.val v6)]⟩,⟨1,[.c (.val (.slice none 0 0)),.c (vi 0),.c (vi 0),.c (.val (.slice none 0 0)),.c (.val (.slice none 0 0)),.c (.val (.slice none 0 0)),.c (.val (.slice none 0 0))]⟩]) (fun k=>[⟨3,Bt x.graph.nodes⟩,⟨4,Cl x.tokens⟩,⟨5,D0 x.news⟩,⟨6,Ap (x.workers.take k)⟩,⟨7,D7 []⟩])
  (fun k=>k≤x.workers.length) (fun k=>x.workers.length-k) 0 (Nat.zero_le _) ⟨by first|rfl|simp [Dc,ren2,ren1,ren0],trivial⟩ D8 ⟨by first|rfl|exact (congrArg (fun l=>Dz _ _ l) (List.append_nil _)).symm|(show (_:A7)=_;simp)|simp,by first|rfl|exact (congrArg (fun l=>Dz _ _ l) (List.append_nil _)).symm|(show (_:A7)=_;simp)|simp,by first|rfl|exact (congrArg (fun l=>Dz _ _ l) (List.append_nil _)).symm|(show (_:A7)=_;simp)|simp,by first|rfl|exact (congrArg (fun l=>Dz _ _ l) (List.append_nil _)).symm|(show (_:A7)=_;simp)|simp,by first|rfl|exact (congrArg (fun l=>Dz _ _ l) (List.append_nil _)).symm|(show (_:A7)=_;simp)|simp,trivial⟩ Dg A6 (fun k hk=>?_)
 conv=>whnf
 refine G2 (fun h'=>?_) fun h'=>?_<;>conv=>whnf
 ·have h':k<x.workers.length:=by omega
  have hw:=A3.worker_le h h'
  (repeat refine Ak ?_)
  first|(refine At 1 rfl [0,1,4,5,8,9,2,3,6,7,10,11,12,13] A6 (Af ?_))|(refine At 5 rfl [0,1,2,3,4,5,6,7,8,9,10,11] A6 (Af ?_))|(refine At 9 rfl [0,1,2,3,4,5,6,7,8,9,10,11] A6 (Af ?_))
  (repeat refine Ak ?_)
  refine Dk (Rc (x.workers.getD k default) hw) rfl (Af ?_)
  refine Lw A0 rfl rfl rfl rfl rfl rfl rfl rfl rfl (Af ?_)
  refine B4 A0 rfl rfl rfl rfl rfl rfl rfl rfl rfl rfl rfl (Ap (x.workers.take k++[x.workers.getD k default])) (B5 rfl) Rt (by simp only [List.length_take];omega) (Af ?_)
  (repeat refine Ak ?_)
  refine B8 [(6,17)] (k+1) Ag Ag ⟨rfl,trivial⟩ ⟨rfl,rfl,rfl,congrArg Ap (Fu x.workers k h').symm,rfl,trivial⟩ D8 A6 Dg A6
 rw [Gr x.workers k Ag]
 refine Cc A0 false [] (fun j:Nat=>[(5,.c (vi j))]) (fun j=>[⟨2,[.own 3,.c (vi x.graph.workers),.c (vi x.graph.cap),.own 6,.own 7,.own 4,.own 5]⟩,⟨0,[.c (.val v0),.c (.val v1),.c (.val v2),.c (Ap x.workers),.c (D7 x.links),.c (.val v5),.c (.val v6)]⟩,⟨1,[.c (.val (.slice none 0 0)),.c (vi 0),.c (vi 0),.c (.val (.slice none 0 0)),.c (.val (.slice none 0 0)),.c (.val (.slice none 0 0)),.c (.val (.slice none 0 0))]⟩]) (fun j=>[⟨3,Bt x.graph.nodes⟩,⟨4,Cl x.tokens⟩,⟨5,D0 x.news⟩,⟨6,Ap x.workers⟩,⟨7,D7 (x.links.take j)⟩])
  (fun j=>j≤x.links.length) (fun j=>x.links.length-j) 0 (Nat.zero_le _) ⟨by first|rfl|simp [Dc,ren2,ren1,ren0],trivial⟩ D8 ⟨by first|rfl|exact (congrArg (fun l=>Dz _ _ l) (List.append_nil _)).symm|(show (_:A7)=_;simp)|simp,by first|rfl|exact (congrArg (fun l=>Dz _ _ l) (List.append_nil _)).symm|(show (_:A7)=_;simp)|simp,by first|rfl|exact (congrArg (fun l=>Dz _ _ l) (List.append_nil _)).symm|(show (_:A7)=_;simp)|simp,by first|rfl|exact (congrArg (fun l=>Dz _ _ l) (List.append_nil _)).symm|(show (_:A7)=_;simp)|simp,by first|rfl|exact (congrArg (fun l=>Dz _ _ l) (List.append_nil _)).symm|(show (_:A7)=_;simp)|simp,trivial⟩ Dg A6 (fun j hj=>?_)
 conv=>whnf
 refine G2 (fun h''=>?_) fun h''=>?_<;>conv=>whnf
 ·have h'':j<x.links.length:=by omega
  have hl:=A3.link_le h h''
  (repeat refine Ak ?_)
  first|(refine At 1 rfl [0,1,4,5,8,9,2,3,6,7,10,11,12,13] A6 (Af ?_))|(refine At 5 rfl [0,1,2,3,4,5,6,7,8,9,10,11] A6 (Af ?_))|(refine At 9 rfl [0,1,2,3,4,5,6,7,8,9,10,11] A6 (Af ?_))
  (repeat refine Ak ?_)
  refine Dk (Hq (x.links.getD j default) hl) rfl (Af ?_)
  refine Lw A0 rfl rfl rfl rfl rfl rfl rfl rfl rfl (Af ?_)
  refine B4 A0 rfl rfl rfl rfl rfl rfl rfl rfl rfl rfl rfl (D7 (x.links.take j++[x.links.getD j default])) (B5 rfl) Rt (by simp only [List.length_take];omega) (Af ?_)
  (repeat refine Ak ?_)
  refine B8 [(7,10)] (j+1) Ag Ag ⟨rfl,trivial⟩ ⟨rfl,rfl,rfl,rfl,congrArg D7 (Fu x.links j h'').symm,trivial⟩ D8 A6 Dg A6
 ·refine B1 A0 rfl rfl ⟨⟨rfl,rfl,rfl,rfl,?_,rfl,rfl,trivial⟩,trivial⟩
  exact congrArg D7 (Gr _ _ Ag)
theorem Kz (x:A3)(e:Int)(h:x.w≤16777216):Bp Try.prog 12 [.agg x.c,.one (vi e)] [.one (vb (Fl x e))]:=by
 have hl:=A3.workers_le h
 refine Bm A0 false Try.func12 rfl Cb fun W=>?_
 conv=>whnf
 refine G2 (fun h0=>?_) fun h0=>?_<;>conv=>whnf
 ·have hw:=A3.worker_le h (show 0<x.workers.length by omega)
  repeat' (first|(refine L9 ?_;conv=>whnf)|(refine La ?_;conv=>whnf)|(refine ⟨fun h=>?_,fun h=>?_⟩<;>conv=>whnf)|(refine He ?_;conv=>whnf)|fail)
  refine B7 (Re (x.workers.getD 0 default) e Ag) rfl (Af ?_)
  repeat' (first|(refine L9 ?_;conv=>whnf)|(refine La ?_;conv=>whnf)|(refine ⟨fun h=>?_,fun h=>?_⟩<;>conv=>whnf)|(refine He ?_;conv=>whnf)|fail)
  exact B1 A0 rfl rfl ⟨congrArg vb (by rw [Fl,if_pos Ag]),trivial⟩
 ·repeat' (first|(refine L9 ?_;conv=>whnf)|(refine La ?_;conv=>whnf)|(refine ⟨fun h=>?_,fun h=>?_⟩<;>conv=>whnf)|(refine He ?_;conv=>whnf)|fail)
  exact B1 A0 rfl rfl ⟨congrArg vb (by rw [Fl,if_neg Ag]),trivial⟩
def Ab (c:A3) (e:Int):Dw:=c.tokens.getD e.toNat default
def A9 (c:A3) (j:Int):Ad:=c.workers.getD j.toNat default
def Cs (c:A3) (e:Int) (t:Dw):A3:=⟨c.graph,c.workers,c.links,c.tokens.set e.toNat t,c.news⟩
def Av (c:A3) (j:Int) (w:Ad):A3:=⟨c.graph,c.workers.set j.toNat w,c.links,c.tokens,c.news⟩
def H3 (w:Ad) (e:Int):Ad:=⟨w.queue,w.staged,w.inputs,w.cells,w.sums,w.black.set e.toNat false,w.caps,w.dones⟩
def Fj (w:Ad) (d:Fv):Ad:=⟨w.queue,w.staged,w.inputs,w.cells,w.sums,w.black,w.caps,w.dones++[d]⟩
def K6 (e:Int) (b:Bool) (k:Nat):List Ez:=(List.range k).map fun (i:Nat)=>(⟨(i:Int)+1,e,b⟩:Ez)
def Mj (c:A3) (l:List Ez):A3:=⟨c.graph,c.workers,c.links,c.tokens,c.news++l⟩
def H2 (c:A3) (e:Int) (t:Dw) (w:Ad):A3:=
 if t.black=false∧w.black.getD e.toNat default=false∧t.sum+w.sums.getD e.toNat default=0 then
  Mj (Av c 0 (Fj w ⟨e,t.capped||w.caps.getD e.toNat default⟩)) (K6 e (t.capped||w.caps.getD e.toNat default) (c.workers.length-1))
 else c
def Mf (c:A3) (e:Int):Prop:=Ar c∧(0≤e∧e≤3)∧En (A9 c 0) e=false∧Hu (A9 c (Ab c e).at_) e=true
instance (c:A3) (e:Int):Decidable (Mf c e):=by unfold Mf;infer_instance
def C2 (c:A3) (e:Int):A3×Bool:=
 if Mf c e then
  let t:=Ab c e
  let w:=A9 c t.at_
  if t.going=false then (Av (Cs c e ⟨true,(c.workers.length:Int)-1,0,false,w.caps.getD e.toNat default⟩) t.at_ (H3 w e),true)
  else if t.at_>0 then
   if Gu (t.sum+w.sums.getD e.toNat default) then
    (Av (Cs c e ⟨t.going,t.at_-1,t.sum+w.sums.getD e.toNat default,t.black||w.black.getD e.toNat default,t.capped||w.caps.getD e.toNat default⟩) t.at_ (H3 w e),true)
   else (c,false)
  else (H2 (Cs c e ⟨false,t.at_,t.sum,t.black,t.capped⟩) e t w,true)
 else (c,false)
theorem A09 {c:A3}{e:Int}(h:Mf c e)(hg:(Ab c e).going=false):C2 c e=(Av (Cs c e ⟨true,(c.workers.length:Int)-1,0,false,(A9 c (Ab c e).at_).caps.getD e.toNat default⟩) (Ab c e).at_ (H3 (A9 c (Ab c e).at_) e),true):=by
 rw [C2,if_pos h]
 simp only [hg,if_true]
theorem A5x {c:A3}{e:Int}(h:Mf c e)(hg:(Ab c e).going=true)(ha:(Ab c e).at_>0)(hs:¬ Gu ((Ab c e).sum+(A9 c (Ab c e).at_).sums.getD e.toNat default)):C2 c e=(c,false):=by
 rw [C2,if_pos h]
 simp only [hg,Bool.true_eq_false,if_false,if_pos ha,if_neg hs]
theorem Ng {c:A3}{e:Int}(h:Mf c e)(hg:(Ab c e).going=true)(ha:(Ab c e).at_>0)(hs:Gu ((Ab c e).sum+(A9 c (Ab c e).at_).sums.getD e.toNat default)):
  C2 c e=(Av (Cs c e ⟨true,(Ab c e).at_-1,(Ab c e).sum+(A9 c (Ab c e).at_).sums.getD e.toNat default,(Ab c e).black||(A9 c (Ab c e).at_).black.getD e.toNat default,(Ab c e).capped||(A9 c (Ab c e).at_).caps.getD e.toNat default⟩) (Ab c e).at_ (H3 (A9 c (Ab c e).at_) e),true):=by
 rw [C2,if_pos h]
 simp only [hg,Bool.true_eq_false,if_false,if_pos ha,if_pos hs]
theorem Rl {c:A3}{e:Int}(h:¬ Mf c e):C2 c e=(c,false):=by rw [C2,if_neg h]
theorem C7 {α:Type} [Inhabited α] {es:Nat}{e:α→List A7}{l:List α}{j:Nat}{r:List A7}(h:r=e (l.getD j default)):G9 (.sl l.length es (E6 (fun i=>e (l.getD i default)) j r)) (Dz es e l):=by
 refine ⟨rfl,rfl,fun i _=>?_⟩
 unfold E6
 split
 ·rename_i e;subst e;rw [h];exact El.rfl' _
 ·exact El.rfl' _
theorem Hc {α:Type} [Inhabited α] {es:Nat}{e:α→List A7}{l:List α}{j:Nat}{r:List A7}{x:α}(hj:j<l.length)(h:r=e x):G9 (.sl l.length es (E6 (fun i=>e (l.getD i default)) j r)) (Dz es e (l.set j x)):=by
 refine ⟨by rw [List.length_set],rfl,fun i _=>?_⟩
 unfold E6
 split
 ·rename_i q
  subst q
  show El r (e ((l.set i x).getD i default))
  rw [h,Sx.getD_set_self _ _ _ _ hj]
  exact El.rfl' _
 ·rename_i q
  show El (e (l.getD i default)) (e ((l.set j x).getD i default))
  rw [Sx.getD_set_ne _ _ _ _ _ q]
  exact El.rfl' _
abbrev O4 (x:A3) (b:Bool):List A7:=[Bt x.graph.nodes,vi x.graph.workers,vi x.graph.cap,Ap x.workers,D7 x.links,Cl x.tokens,D0 x.news,vb b]
abbrev rc (x:A3):List A7:=O4 x (Aq x)
theorem Nf {c:A3}{e:Int}(h:Mf c e)(hg:(Ab c e).going=true)(ha:¬ (Ab c e).at_>0):C2 c e=(H2 (Cs c e ⟨false,(Ab c e).at_,(Ab c e).sum,(Ab c e).black,(Ab c e).capped⟩) e (Ab c e) (A9 c (Ab c e).at_),true):=by
 rw [C2,if_pos h]
 simp only [hg,Bool.true_eq_false,if_false,if_neg ha]
def Io (l:List Ax) (x:Ax):Bool:=l.any fun y=>decide (y=x)
def Ir (l:List Ax) (x:Ax):Nat:=Gj (fun y=>!decide (Hj y x<0)) l
def Ff (l:List Ax) (x:Ax):List Ax:=if Io l x=true then l else l.take (Ir l x)++x::l.drop (Ir l x)
def Tv (op e k:Int) (s:Int×Bool) (x:Ax):Int×Bool:=if (x.op=op∧x.epoch=e∧x.key=k)∧(s.2=false∨x.val<s.1) then (x.val,true) else s
def Ho (l:List Ax) (op e k:Int):Int×Bool:=l.foldl (Tv op e k) (0,false)
def B6 (a b:Ax):Bool:=decide (a.op=b.op∧a.epoch=b.epoch∧a.key=b.key)
def Qn (l:List Ax) (x:Ax):Prop:=(Ho l x.op x.epoch x.key).2=true∧(Ho l x.op x.epoch x.key).1≤x.val
instance (l:List Ax) (x:Ax):Decidable (Qn l x):=by unfold Qn;infer_instance
def Iu (l:List Ax) (x:Ax):List Ax×Bool:=if Qn l x then (l,false) else (Ff (l.filter fun y=>!B6 x y) x,true)
def Cz (k:Int) (l:List Ax) (x:Ax):List Ax×Bool:=
 if k=5∨k=8 then Iu l x else if k=6 then (if Io l x=true then (l,false) else (Ff l x,true)) else (l,true)
end Go.Proofs.Ytonodkjaoalfjaa
