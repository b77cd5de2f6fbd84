/- Part 11 of the proof that each of the laws FnOneWorker returns true for every input. No conditions. -/
import Derived.Test.YtonodkjaoalfjaaGreatP10
import Derived.Test.YtonodkjaoalfjaaGreatP8
import Derived.Test.YtonodkjaoalfjaaGreatP6
import Derived.Test.YtonodkjaoalfjaaGreatP5

set_option linter.unusedSimpArgs false
set_option linter.unusedVariables false
set_option maxRecDepth 100000
namespace Go.Proofs.YtonodkjaoalfjaaGreat
open Go.Sx
theorem B2r (x:Cb)(h:x.w≤16777216):B0 Tryz.prog 108 [.agg x.c] [.agg x.c]:=by
 have h:x.outs.length≤16777216:=h
 refine Ay A0 false Tryz.func108 rfl Bu fun W=>?_
 conv=>whnf
 refine Dp A0 rfl rfl rfl rfl rfl rfl rfl rfl rfl rfl rfl (F1 x.outs) (Eh) (fun _=>Sy x.outs) Ac (Al ?_)
 exact Ao A0 rfl rfl ⟨⟨rfl,rfl,rfl,rfl,trivial⟩,trivial⟩
theorem Dv (x:Ad)(h:x.w≤16777216):B0 Tryz.prog 56 [.agg x.c] [.agg x.c]:=by
 have h:x.nodes.length+(x.nodes.map Cb.w).sum≤16777216:=h
 refine Ay A0 false Tryz.func56 rfl Bu fun W=>?_
 conv=>whnf
 refine B4g 2 0 4 (fun i=>Cb.c (([]:List Cb).getD i default)) rfl rfl ?_
 refine Bw A0 false [] (fun k:Nat=>[(14,.c (vi k))]) (fun _=>[⟨0,[.c (Bp x.nodes),.c (vi x.workers),.c (vi x.cap)]⟩,⟨2,[.own 3,.c (vi x.workers),.c (vi x.cap)]⟩,⟨1,[.any,.any,.any]⟩]) (fun k=>[⟨3,Bp (x.nodes.take k)⟩])
  (fun k=>k≤x.nodes.length) (fun k=>x.nodes.length-k) 0 (Nat.zero_le _) ⟨rfl,trivial⟩ Dh ⟨rfl,trivial⟩ trivial Aa (fun k hk=>?_)
 conv=>whnf
 refine G5 (fun h=>?_) fun h=>?_<;>conv=>whnf
 ·have h:k<x.nodes.length:=by omega
  have hle:=Hg Cb.w x.nodes k h
  (repeat refine Ar ?_)
  refine B7u rfl [0,1,2,3,4,5,6,7] Aa (Al ?_)
  refine B4 (B2r (x.nodes.getD k default) Ac) rfl (Al ?_)
  refine Qp A0 rfl rfl rfl rfl rfl rfl rfl rfl rfl (Al ?_)
  refine Dp A0 rfl rfl rfl rfl rfl rfl rfl rfl rfl rfl rfl (Bp (x.nodes.take k++[x.nodes.getD k default])) (Bf rfl) Kc (by simp only [List.length_take];omega) (Al ?_)
  (repeat refine Ar ?_)
  refine B5 [(3,7)] (k+1) Ac Ac ⟨rfl,trivial⟩ ⟨?_,trivial⟩ Dh Aa trivial Aa
  exact congrArg Bp (G1 x.nodes k h).symm
 ·refine Ao A0 rfl rfl ⟨⟨?_,rfl,rfl,trivial⟩,trivial⟩
  exact congrArg Bp (Fi _ _ Ac)
set_option maxHeartbeats 8000000 in
theorem Dz (x:A3)(h:x.w≤16777216):B0 Tryz.prog 61 [.agg x.c] [.agg x.c]:=by
 have hg:=A3.graph_le h
 have h2:=h
 simp only [A3.w,wS] at h2
 refine B23 A0 false Tryz.func61 rfl Bu fun W us hul huv huo hp=>?_
 match us,hul with
 | [v0,v1,v2,v3,v4,v5,v6],_=>
 conv=>whnf
 refine B7t 4 ?_
 refine C0h A0 false (J:=Unit) [10,13,16,17] (fun _=>[(3,.box 2 0)]) (fun _=>[⟨2,[.own 3,.c (vi x.graph.workers),.c (vi x.graph.cap),.c (.val (.slice none 0 0)),.c (.val (.slice none 0 0)),.own 4,.own 5]⟩,⟨0,[.c (.val v0),.c (.val v1),.c (.val v2),.c (.val v3),.c (.val v4),.c (.val v5),.c (.val v6)]⟩,⟨1,[.c (.val (.slice none 0 0)),.c (vi 0),.c (vi 0),.c (.val (.slice none 0 0)),.c (.val (.slice none 0 0)),.c (.val (.slice none 0 0)),.c (.val (.slice none 0 0))]⟩]) (fun _=>[⟨3,Bp x.graph.nodes⟩,⟨4,C0 x.tokens⟩,⟨5,Ef x.news⟩]) (fun _=>True) ?_ ?_
 ·conv=>whnf
  refine Jc rfl ?_
  refine Ct A0 false 0 rfl rfl Aa rfl (Af F3) ?_
  refine Ct A0 false 3 rfl rfl Aa rfl (Af F3) ?_
  refine Ct A0 false 6 rfl rfl Aa rfl (Af F3) ?_
  refine S7 [2,5,8,9,10,11] [⟨1,9,.ra [v0,v1,v2]⟩,⟨4,12,.rd v5⟩,⟨7,15,.rd v6⟩] Aa ?_
  refine Pg (s1:=?_) (s2:=?_) A0 [2,5,8,9,10,11] 2 10 [5,8,9,10,11] [2,5,8,9,11] rfl rfl Aa Gp Bu Bu ?_ ?_ ?_ ?_
  rotate_left 2
  refine go A0 false ?_
  conv=>whnf
  refine Tg hp 0 0 0 rfl rfl rfl ?_
  refine Tg hp 0 1 1 rfl rfl rfl ?_
  refine Tg hp 0 2 2 rfl rfl rfl ?_
  refine B4 (Dv x.graph hg) rfl (Al ?_)
  exact Bd
  refine Pg (s1:=?_) (s2:=?_) A0 [5,8,9,10,11] 5 10 [8,9,10,11] [5,8,9,11] rfl rfl Aa Gp Bu Bu ?_ ?_ ?_ ?_
  rotate_left 2
  refine go A0 false ?_
  conv=>whnf
  refine Pf hp 5 rfl 12 rfl ?_
  refine Dp A0 rfl rfl rfl rfl rfl rfl rfl rfl rfl rfl rfl (C0 x.tokens) (Eh) (fun _=>Om x.tokens) Ac (Al ?_)
  exact Bd
  refine Pg (s1:=?_) (s2:=?_) A0 [8,9,10,11] 8 10 [9,10,11] [8,9,11] rfl rfl Aa Gp Bu Bu ?_ ?_ ?_ ?_
  rotate_left 2
  refine go A0 false ?_
  conv=>whnf
  refine Pf hp 6 rfl 15 rfl ?_
  refine Dp A0 rfl rfl rfl rfl rfl rfl rfl rfl rfl rfl rfl (Ef x.news) (Eh) (fun _=>Pq x.news) Ac (Al ?_)
  exact Bd
  refine Pg (s1:=?_) (s2:=?_) A0 [9,10,11] 9 10 [10,11] [9,11] rfl rfl Aa Gp Bu Bu ?_ ?_ ?_ ?_
  rotate_left 2
  refine go A0 false ?_
  conv=>whnf
  (repeat refine Ar ?_)
  exact Bd
  refine D5 (s':=?_) A0 rfl Aa Gp ?_ ?_
  rotate_left
  refine go A0 false ?_
  conv=>whnf
  (repeat refine Ar ?_)
  exact Bd
  refine D5 (s':=?_) A0 rfl Aa Gp ?_ ?_
  rotate_left
  refine go A0 false ?_
  conv=>whnf
  (repeat refine Ar ?_)
  exact Bd
  refine P5 A0 Aa Gp (GW.out (Tt ?_))
  conv=>whnf
  exact B5 [(2,9),(3,6),(4,7),(5,8)] () trivial (by exact Nat.zero_lt_one) ⟨rfl,trivial⟩ ⟨rfl,rfl,rfl,trivial⟩ Dh Aa trivial Aa
  refine go A0 false ?_
  conv=>whnf
  (repeat refine Ar ?_)
  exact Bd
  refine D5 (s':=?_) A0 rfl Aa Gp ?_ ?_
  rotate_left
  refine go A0 false ?_
  conv=>whnf
  (repeat refine Ar ?_)
  exact Bd
  refine D5 (s':=?_) A0 rfl Aa Gp ?_ ?_
  rotate_left
  refine go A0 false ?_
  conv=>whnf
  (repeat refine Ar ?_)
  exact Bd
  refine P5 A0 Aa Gp (GW.out (Tt ?_))
  conv=>whnf
  exact B5 [(2,9),(3,6),(4,7),(5,8)] () trivial (by exact Nat.zero_lt_one) ⟨rfl,trivial⟩ ⟨rfl,rfl,rfl,trivial⟩ Dh Aa trivial Aa
  refine go A0 false ?_
  conv=>whnf
  (repeat refine Ar ?_)
  exact Bd
  refine D5 (s':=?_) A0 rfl Aa Gp ?_ ?_
  rotate_left
  refine go A0 false ?_
  conv=>whnf
  refine Pf hp 6 rfl 15 rfl ?_
  refine Dp A0 rfl rfl rfl rfl rfl rfl rfl rfl rfl rfl rfl (Ef x.news) (Eh) (fun _=>Pq x.news) Ac (Al ?_)
  exact Bd
  refine D5 (s':=?_) A0 rfl Aa Gp ?_ ?_
  rotate_left
  refine go A0 false ?_
  conv=>whnf
  (repeat refine Ar ?_)
  exact Bd
  refine D5 (s':=?_) A0 rfl Aa Gp ?_ ?_
  rotate_left
  refine go A0 false ?_
  conv=>whnf
  (repeat refine Ar ?_)
  exact Bd
  refine P5 A0 Aa Gp (GW.out (Tt ?_))
  conv=>whnf
  exact B5 [(2,8),(3,6),(4,7),(5,9)] () trivial (by exact Nat.zero_lt_one) ⟨rfl,trivial⟩ ⟨rfl,rfl,rfl,trivial⟩ Dh Aa trivial Aa
  refine go A0 false ?_
  conv=>whnf
  (repeat refine Ar ?_)
  exact Bd
  refine D5 (s':=?_) A0 rfl Aa Gp ?_ ?_
  rotate_left
  refine go A0 false ?_
  conv=>whnf
  refine Pf hp 5 rfl 12 rfl ?_
  refine Dp A0 rfl rfl rfl rfl rfl rfl rfl rfl rfl rfl rfl (C0 x.tokens) (Eh) (fun _=>Om x.tokens) Ac (Al ?_)
  exact Bd
  refine D5 (s':=?_) A0 rfl Aa Gp ?_ ?_
  rotate_left
  refine go A0 false ?_
  conv=>whnf
  refine Pf hp 6 rfl 15 rfl ?_
  refine Dp A0 rfl rfl rfl rfl rfl rfl rfl rfl rfl rfl rfl (Ef x.news) (Eh) (fun _=>Pq x.news) Ac (Al ?_)
  exact Bd
  refine D5 (s':=?_) A0 rfl Aa Gp ?_ ?_
  rotate_left
  refine go A0 false ?_
  conv=>whnf
  (repeat refine Ar ?_)
  exact Bd
  refine D5 (s':=?_) A0 rfl Aa Gp ?_ ?_
  rotate_left
  refine go A0 false ?_
  conv=>whnf
  (repeat refine Ar ?_)
  exact Bd
  refine P5 A0 Aa Gp (GW.out (Tt ?_))
  conv=>whnf
  exact B5 [(2,7),(3,6),(4,8),(5,9)] () trivial (by exact Nat.zero_lt_one) ⟨rfl,trivial⟩ ⟨rfl,rfl,rfl,trivial⟩ Dh Aa trivial Aa
  refine go A0 false ?_
  conv=>whnf
  (repeat refine Ar ?_)
  exact Bd
  refine D5 (s':=?_) A0 rfl Aa Gp ?_ ?_
  rotate_left
  refine go A0 false ?_
  conv=>whnf
  refine Tg hp 0 0 0 rfl rfl rfl ?_
  refine Tg hp 0 1 1 rfl rfl rfl ?_
  refine Tg hp 0 2 2 rfl rfl rfl ?_
  refine B4 (Dv x.graph hg) rfl (Al ?_)
  exact Bd
  refine D5 (s':=?_) A0 rfl Aa Gp ?_ ?_
  rotate_left
  refine go A0 false ?_
  conv=>whnf
  refine Pf hp 5 rfl 12 rfl ?_
  refine Dp A0 rfl rfl rfl rfl rfl rfl rfl rfl rfl rfl rfl (C0 x.tokens) (Eh) (fun _=>Om x.tokens) Ac (Al ?_)
  exact Bd
  refine D5 (s':=?_) A0 rfl Aa Gp ?_ ?_
  rotate_left
  refine go A0 false ?_
  conv=>whnf
  refine Pf hp 6 rfl 15 rfl ?_
  refine Dp A0 rfl rfl rfl rfl rfl rfl rfl rfl rfl rfl rfl (Ef x.news) (Eh) (fun _=>Pq x.news) Ac (Al ?_)
  exact Bd
  refine D5 (s':=?_) A0 rfl Aa Gp ?_ ?_
  rotate_left
  refine go A0 false ?_
  conv=>whnf
  (repeat refine Ar ?_)
  exact Bd
  refine D5 (s':=?_) A0 rfl Aa Gp ?_ ?_
  rotate_left
  refine go A0 false ?_
  conv=>whnf
  (repeat refine Ar ?_)
  exact Bd
  refine P5 A0 Aa Gp (GW.out (Tt ?_))
  conv=>whnf
  exact B5 [(2,6),(3,7),(4,8),(5,9)] () trivial (by exact Nat.zero_lt_one) ⟨rfl,trivial⟩ ⟨rfl,rfl,rfl,trivial⟩ Dh Aa trivial Aa
 intro _ _
 refine B5b hp 0 3 3 rfl rfl rfl ?_
 refine B5b hp 0 4 4 rfl rfl rfl ?_
 refine B4g 2 3 8 (fun i=>Ab.c (([]:List Ab).getD i default)) rfl rfl ?_
 refine B4g 2 4 6 (fun i=>C2.c (([]:List C2).getD i default)) rfl rfl ?_
 refine go A0 false ?_
 conv=>whnf
 refine Bw A0 false [] (fun k:Nat=>[(21,.c (vi k))]) (fun k=>[⟨2,[.own 3,.c (vi x.graph.workers),.c (vi x.graph.cap),.own 6,.own 7,.own 4,.own 5]⟩,⟨0,[.c (.val v0),.c (.val v1),.c (.val v2),.c (Be x.workers),.c (Dt x.links),.c (.val v5),.c (.val v6)]⟩,⟨1,[.c (.val (.slice none 0 0)),.c (vi 0),.c (vi 0),.c (.val (.slice none 0 0)),.c (.val (.slice none 0 0)),.c (.val (.slice none 0 0)),.c (.val (.slice none 0 0))]⟩]) (fun k=>[⟨3,Bp x.graph.nodes⟩,⟨4,C0 x.tokens⟩,⟨5,Ef x.news⟩,⟨6,Be (x.workers.take k)⟩,⟨7,Dt []⟩])
  (fun k=>k≤x.workers.length) (fun k=>x.workers.length-k) 0 (Nat.zero_le _) ⟨by first|rfl|simp [Dl,ren2,ren1,ren0],trivial⟩ Dh ⟨by first|rfl|exact (congrArg (fun l=>Du _ _ l) (List.append_nil _)).symm|(show (_:A8)=_;simp)|simp,by first|rfl|exact (congrArg (fun l=>Du _ _ l) (List.append_nil _)).symm|(show (_:A8)=_;simp)|simp,by first|rfl|exact (congrArg (fun l=>Du _ _ l) (List.append_nil _)).symm|(show (_:A8)=_;simp)|simp,by first|rfl|exact (congrArg (fun l=>Du _ _ l) (List.append_nil _)).symm|(show (_:A8)=_;simp)|simp,by first|rfl|exact (congrArg (fun l=>Du _ _ l) (List.append_nil _)).symm|(show (_:A8)=_;simp)|simp,trivial⟩ D0 Aa (fun k hk=>?_)
 conv=>whnf
 refine G5 (fun h'=>?_) fun h'=>?_<;>conv=>whnf
 ·have h':k<x.workers.length:=by omega
  have hw:=A3.worker_le h h'
  (repeat refine Ar ?_)
  first|(refine B9 1 rfl [0,1,3,4,6,7,2,5,8,9,10,11] Aa (Al ?_))|(refine B9 5 rfl [0,1,2,3,4,5,6,7] Aa (Al ?_))|(refine B9 10 rfl [0,1,2,3,4,5,6,7] Aa (Al ?_))
  (repeat refine Ar ?_)
  refine B4 (Gi (x.workers.getD k default) hw) rfl (Al ?_)
  refine Qp A0 rfl rfl rfl rfl rfl rfl rfl rfl rfl (Al ?_)
  refine Dp A0 rfl rfl rfl rfl rfl rfl rfl rfl rfl rfl rfl (Be (x.workers.take k++[x.workers.getD k default])) (Bf rfl) Kc (by simp only [List.length_take];omega) (Al ?_)
  (repeat refine Ar ?_)
  refine B5 [(6,18)] (k+1) Ac Ac ⟨rfl,trivial⟩ ⟨rfl,rfl,rfl,congrArg Be (G1 x.workers k h').symm,rfl,trivial⟩ Dh Aa D0 Aa
 rw [Fi x.workers k Ac]
 refine Bw A0 false [] (fun j:Nat=>[(36,.c (vi j))]) (fun j=>[⟨2,[.own 3,.c (vi x.graph.workers),.c (vi x.graph.cap),.own 6,.own 7,.own 4,.own 5]⟩,⟨0,[.c (.val v0),.c (.val v1),.c (.val v2),.c (Be x.workers),.c (Dt x.links),.c (.val v5),.c (.val v6)]⟩,⟨1,[.c (.val (.slice none 0 0)),.c (vi 0),.c (vi 0),.c (.val (.slice none 0 0)),.c (.val (.slice none 0 0)),.c (.val (.slice none 0 0)),.c (.val (.slice none 0 0))]⟩]) (fun j=>[⟨3,Bp x.graph.nodes⟩,⟨4,C0 x.tokens⟩,⟨5,Ef x.news⟩,⟨6,Be x.workers⟩,⟨7,Dt (x.links.take j)⟩])
  (fun j=>j≤x.links.length) (fun j=>x.links.length-j) 0 (Nat.zero_le _) ⟨by first|rfl|simp [Dl,ren2,ren1,ren0],trivial⟩ Dh ⟨by first|rfl|exact (congrArg (fun l=>Du _ _ l) (List.append_nil _)).symm|(show (_:A8)=_;simp)|simp,by first|rfl|exact (congrArg (fun l=>Du _ _ l) (List.append_nil _)).symm|(show (_:A8)=_;simp)|simp,by first|rfl|exact (congrArg (fun l=>Du _ _ l) (List.append_nil _)).symm|(show (_:A8)=_;simp)|simp,by first|rfl|exact (congrArg (fun l=>Du _ _ l) (List.append_nil _)).symm|(show (_:A8)=_;simp)|simp,by first|rfl|exact (congrArg (fun l=>Du _ _ l) (List.append_nil _)).symm|(show (_:A8)=_;simp)|simp,trivial⟩ D0 Aa (fun j hj=>?_)
 conv=>whnf
 refine G5 (fun h''=>?_) fun h''=>?_<;>conv=>whnf
 ·have h'':j<x.links.length:=by omega
  have hl:=A3.link_le h h''
  (repeat refine Ar ?_)
  first|(refine B9 1 rfl [0,1,3,4,6,7,2,5,8,9,10,11] Aa (Al ?_))|(refine B9 5 rfl [0,1,2,3,4,5,6,7] Aa (Al ?_))|(refine B9 10 rfl [0,1,2,3,4,5,6,7] Aa (Al ?_))
  (repeat refine Ar ?_)
  refine B4 (Kh (x.links.getD j default) hl) rfl (Al ?_)
  refine Qp A0 rfl rfl rfl rfl rfl rfl rfl rfl rfl (Al ?_)
  refine Dp A0 rfl rfl rfl rfl rfl rfl rfl rfl rfl rfl rfl (Dt (x.links.take j++[x.links.getD j default])) (Bf rfl) Kc (by simp only [List.length_take];omega) (Al ?_)
  (repeat refine Ar ?_)
  refine B5 [(7,11)] (j+1) Ac Ac ⟨rfl,trivial⟩ ⟨rfl,rfl,rfl,rfl,congrArg Dt (G1 x.links j h'').symm,trivial⟩ Dh Aa D0 Aa
 ·refine Ao A0 rfl rfl ⟨⟨rfl,rfl,rfl,rfl,?_,rfl,rfl,trivial⟩,trivial⟩
  exact congrArg Dt (Fi _ _ Ac)
def A4 (c:A3) (e:Int):Es:=c.tokens.getD e.toNat default
def A6 (c:A3) (j:Int):Ab:=c.workers.getD j.toNat default
def Cp (c:A3) (e:Int) (t:Es):A3:=⟨c.graph,c.workers,c.links,c.tokens.set e.toNat t,c.news⟩
def Av (c:A3) (j:Int) (w:Ab):A3:=⟨c.graph,c.workers.set j.toNat w,c.links,c.tokens,c.news⟩
def G8 (w:Ab) (e:Int):Ab:=⟨w.queue,w.staged,w.inputs,w.cells,w.sums,w.black.set e.toNat false,w.caps,w.dones⟩
def Cx (w:Ab) (d:E3):Ab:=⟨w.queue,w.staged,w.inputs,w.cells,w.sums,w.black,w.caps,w.dones++[d]⟩
def H1 (e:Int) (b:Bool) (k:Nat):List Cn:=(List.range k).map fun (i:Nat)=>(⟨(i:Int)+1,e,b⟩:Cn)
def I0 (c:A3) (l:List Cn):A3:=⟨c.graph,c.workers,c.links,c.tokens,c.news++l⟩
def Gn (c:A3) (e:Int) (t:Es) (w:Ab):A3:=
 if t.black=false∧w.black.getD e.toNat default=false∧t.sum+w.sums.getD e.toNat default=0 then
  I0 (Av c 0 (Cx w ⟨e,t.capped||w.caps.getD e.toNat default⟩)) (H1 e (t.capped||w.caps.getD e.toNat default) (c.workers.length-1))
 else c
def Kv (c:A3) (e:Int):Prop:=Ap c∧(0≤e∧e≤3)∧B1 (A6 c 0) e=false∧De (A6 c (A4 c e).at_) e=true
instance (c:A3) (e:Int):Decidable (Kv c e):=by unfold Kv;infer_instance
def Bo (c:A3) (e:Int):A3×Bool:=
 if Kv c e then
  let t:=A4 c e
  let w:=A6 c t.at_
  if t.going=false then (Av (Cp c e ⟨true,(c.workers.length:Int)-1,0,false,w.caps.getD e.toNat default⟩) t.at_ (G8 w e),true)
  else if t.at_>0 then
   if Jy (t.sum+w.sums.getD e.toNat default) then
    (Av (Cp c e ⟨t.going,t.at_-1,t.sum+w.sums.getD e.toNat default,t.black||w.black.getD e.toNat default,t.capped||w.caps.getD e.toNat default⟩) t.at_ (G8 w e),true)
   else (c,false)
  else (Gn (Cp c e ⟨false,t.at_,t.sum,t.black,t.capped⟩) e t w,true)
 else (c,false)
theorem Zy {c:A3}{e:Int}(h:Kv c e)(hg:(A4 c e).going=false):Bo c e=(Av (Cp c e ⟨true,(c.workers.length:Int)-1,0,false,(A6 c (A4 c e).at_).caps.getD e.toNat default⟩) (A4 c e).at_ (G8 (A6 c (A4 c e).at_) e),true):=by
 rw [Bo,if_pos h]
 simp only [hg,if_true]
theorem B7m {c:A3}{e:Int}(h:Kv c e)(hg:(A4 c e).going=true)(ha:(A4 c e).at_>0)(hs:¬ Jy ((A4 c e).sum+(A6 c (A4 c e).at_).sums.getD e.toNat default)):Bo c e=(c,false):=by
 rw [Bo,if_pos h]
 simp only [hg,Bool.true_eq_false,if_false,if_pos ha,if_neg hs]
theorem Pj {c:A3}{e:Int}(h:Kv c e)(hg:(A4 c e).going=true)(ha:(A4 c e).at_>0)(hs:Jy ((A4 c e).sum+(A6 c (A4 c e).at_).sums.getD e.toNat default)):
  Bo c e=(Av (Cp c e ⟨true,(A4 c e).at_-1,(A4 c e).sum+(A6 c (A4 c e).at_).sums.getD e.toNat default,(A4 c e).black||(A6 c (A4 c e).at_).black.getD e.toNat default,(A4 c e).capped||(A6 c (A4 c e).at_).caps.getD e.toNat default⟩) (A4 c e).at_ (G8 (A6 c (A4 c e).at_) e),true):=by
 rw [Bo,if_pos h]
 simp only [hg,Bool.true_eq_false,if_false,if_pos ha,if_pos hs]
theorem Tj {c:A3}{e:Int}(h:¬ Kv c e):Bo c e=(c,false):=by rw [Bo,if_neg h]
theorem Mg {α:Type} [Inhabited α] {es:Nat}{e:α→List A8}{l:List α}{j:Nat}{r:List A8}(h:r=e (l.getD j default)):Iu (.sl l.length es (Fq (fun i=>e (l.getD i default)) j r)) (Du es e l):=by
 refine ⟨rfl,rfl,fun i _=>?_⟩
 unfold Fq
 split
 ·rename_i e;subst e;rw [h];exact Gb.rfl' _
 ·exact Gb.rfl' _
theorem Kz {α:Type} [Inhabited α] {es:Nat}{e:α→List A8}{l:List α}{j:Nat}{r:List A8}{x:α}(hj:j<l.length)(h:r=e x):Iu (.sl l.length es (Fq (fun i=>e (l.getD i default)) j r)) (Du es e (l.set j x)):=by
 refine ⟨by rw [List.length_set],rfl,fun i _=>?_⟩
 unfold Fq
 split
 ·rename_i q
  subst q
  show Gb r (e ((l.set i x).getD i default))
  rw [h,Sx.getD_set_self _ _ _ _ hj]
  exact Gb.rfl' _
 ·rename_i q
  show Gb (e (l.getD i default)) (e ((l.set j x).getD i default))
  rw [Sx.getD_set_ne _ _ _ _ _ q]
  exact Gb.rfl' _
theorem Q5 {c:A3}{e:Int}(h:Kv c e)(hg:(A4 c e).going=true)(ha:¬ (A4 c e).at_>0):Bo c e=(Gn (Cp c e ⟨false,(A4 c e).at_,(A4 c e).sum,(A4 c e).black,(A4 c e).capped⟩) e (A4 c e) (A6 c (A4 c e).at_),true):=by
 rw [Bo,if_pos h]
 simp only [hg,Bool.true_eq_false,if_false,if_neg ha]
end Go.Proofs.YtonodkjaoalfjaaGreat
