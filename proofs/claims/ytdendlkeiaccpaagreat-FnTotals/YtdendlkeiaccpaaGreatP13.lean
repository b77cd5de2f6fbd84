/- Part 13 of the proof that each of the laws FnTotals returns true for every input. No conditions. -/
import Derived.Test.YtdendlkeiaccpaaGreatP12
import Derived.Test.YtdendlkeiaccpaaGreatP11
import Derived.Test.YtdendlkeiaccpaaGreatP6
import Derived.Test.YtdendlkeiaccpaaGreatP5
import Derived.Test.YtdendlkeiaccpaaGreatP9

set_option linter.unusedSimpArgs false
set_option linter.unusedVariables false
set_option maxRecDepth 100000
namespace Go.Proofs.YtdendlkeiaccpaaGreat
open Go.Sx
theorem L3 (x:Ao)(h:x.w≤16777216):Bi Tryz.prog 65 [.agg x.c] [.agg x.c]:=by
 have h:x.nodes.length+(x.nodes.map An.w).sum≤16777216:=h
 refine Bd A0 false Tryz.func65 rfl Aw fun W=>?_
 conv=>whnf
 refine Dv 3 (Br []) rfl Ds ?_
 refine Bv A0 false [7] (fun k:Nat=>[(4,.c (vi k))]) (fun _=>[⟨0,[.c (Br x.nodes),.c (vi x.workers),.c (vi x.cap)]⟩,⟨2,[.own 3,.c (vi x.workers),.c (vi x.cap)]⟩,⟨1,[.any,.any,.any]⟩]) (fun k=>[⟨3,Br (x.nodes.take k)⟩])
  (fun k=>k≤x.nodes.length) (fun k=>x.nodes.length-k) 0 (Nat.zero_le _) ⟨rfl,trivial⟩ Cf ⟨rfl,trivial⟩ trivial A7 (fun k hk=>?_)
 conv=>whnf
 refine Es (fun h=>?_) fun h=>?_<;>conv=>whnf
 ·have h:k<x.nodes.length:=by omega
  have hle:=Gv An.w x.nodes k h
  have ho:(x.nodes.getD k default).outs.length≤16777216:=by simp only [An.w] at hle;omega
  (repeat refine Am ?_)
  refine Av A0 rfl rfl rfl rfl rfl rfl rfl rfl rfl rfl rfl (Ap (x.nodes.getD k default).outs) (Cc) (fun _=>R0 _) (by first|omega|(simp only [Int.toNat_natCast];omega)) (A8 ?_)
  refine Ou A0 rfl rfl rfl rfl rfl rfl rfl rfl rfl (A8 ?_)
  refine Av A0 rfl rfl rfl rfl rfl rfl rfl rfl rfl rfl rfl (Br (x.nodes.take k++[x.nodes.getD k default])) (Ad rfl) Bj (by simp only [List.length_take];omega) (A8 ?_)
  (repeat refine Am ?_)
  refine B6 [(3,8)] (k+1) Ab Ab ⟨rfl,trivial⟩ ⟨?_,trivial⟩ Cf A7 trivial A7
  exact congrArg Br (Hs x.nodes k h).symm
 refine B2 A0 rfl rfl ⟨⟨?_,rfl,rfl,trivial⟩,trivial⟩
 exact congrArg Br (E6 _ _ Ab)
set_option maxHeartbeats 8000000 in
theorem So (x:A6)(h:x.w≤16777216):Bi Tryz.prog 148 [.agg x.c] [.agg x.c]:=by
 have hg:=A6.graph_le h
 have h2:=h
 simp only [A6.w,wS] at h2
 refine A8w A0 false Tryz.func148 rfl Aw fun W us hul huv huo hp=>?_
 match us,hul with
 | [v0,v1,v2,v3,v4,v5,v6],_=>
 conv=>whnf
 refine B3v 4 ?_
 refine B6h A0 false (J:=Unit) [8,9,12,13,16,17] (fun _=>[(3,.box 2 0)]) (fun _=>[⟨2,[.own 3,.c (vi x.graph.workers),.c (vi x.graph.cap),.c (.val (.slice none 0 0)),.c (.val (.slice none 0 0)),.own 4,.own 5]⟩,⟨0,[.c (.val v0),.c (.val v1),.c (.val v2),.c (.val v3),.c (.val v4),.c (.val v5),.c (.val v6)]⟩,⟨1,[.c (.val (.slice none 0 0)),.c (vi 0),.c (vi 0),.c (.val (.slice none 0 0)),.c (.val (.slice none 0 0)),.c (.val (.slice none 0 0)),.c (.val (.slice none 0 0))]⟩]) (fun _=>[⟨3,Br x.graph.nodes⟩,⟨4,C9 x.tokens⟩,⟨5,Ch x.news⟩]) (fun _=>True) ?_ ?_
 ·conv=>whnf
  refine Je rfl ?_
  refine Bu A0 false 0 rfl rfl A7 rfl (A4 B1) ?_
  refine Bu A0 false 4 rfl rfl A7 rfl (A4 B1) ?_
  refine Bu A0 false 8 rfl rfl A7 rfl (A4 B1) ?_
  refine Ng [2,6,10,11,12,13] [⟨1,7,.ra [v0,v1,v2]⟩,⟨3,9,.emp 5⟩,⟨5,11,.rd v5⟩,⟨7,13,.emp 3⟩,⟨9,15,.rd v6⟩] A7 ?_
  refine L6 (s1:=?_) (s2:=?_) A0 [2,6,10,11,12,13] 2 12 [6,10,11,12,13] [2,6,10,11,13] rfl rfl A7 Dx Aw Aw ?_ ?_ ?_ ?_
  rotate_left 2
  refine A8 ?_
  refine Ri hp 0 0 0 rfl rfl rfl ?_
  refine Ri hp 0 1 1 rfl rfl rfl ?_
  refine Ri hp 0 2 2 rfl rfl rfl ?_
  refine Cx (L3 x.graph hg) rfl (A8 ?_)
  exact Bh
  refine L6 (s1:=?_) (s2:=?_) A0 [6,10,11,12,13] 6 12 [10,11,12,13] [6,10,11,13] rfl rfl A7 Dx Aw Aw ?_ ?_ ?_ ?_
  rotate_left 2
  refine A8 ?_
  refine K2 hp 5 rfl 11 rfl ?_
  refine Av A0 rfl rfl rfl rfl rfl rfl rfl rfl rfl rfl rfl (C9 x.tokens) (Cc) (fun _=>N5 x.tokens) Ab (A8 ?_)
  exact Bh
  refine L6 (s1:=?_) (s2:=?_) A0 [10,11,12,13] 10 12 [11,12,13] [10,11,13] rfl rfl A7 Dx Aw Aw ?_ ?_ ?_ ?_
  rotate_left 2
  refine A8 ?_
  refine K2 hp 6 rfl 15 rfl ?_
  refine Av A0 rfl rfl rfl rfl rfl rfl rfl rfl rfl rfl rfl (Ch x.news) (Cc) (fun _=>Ga x.news) Ab (A8 ?_)
  exact Bh
  refine L6 (s1:=?_) (s2:=?_) A0 [11,12,13] 11 12 [12,13] [11,13] rfl rfl A7 Dx Aw Aw ?_ ?_ ?_ ?_
  rotate_left 2
  refine A8 ?_
  (repeat refine Am ?_)
  exact Bh
  refine Bp (s':=?_) A0 rfl A7 Dx ?_ ?_
  rotate_left
  refine A8 ?_
  (repeat refine Am ?_)
  exact Bh
  refine Bp (s':=?_) A0 rfl A7 Dx ?_ ?_
  rotate_left
  refine A8 ?_
  (repeat refine Am ?_)
  exact Bh
  refine L0 A0 A7 Dx (GW.out (Jf ?_))
  conv=>whnf
  exact B6 [(2,11),(3,6),(4,8),(5,10)] () trivial (by exact Nat.zero_lt_one) ⟨rfl,trivial⟩ ⟨rfl,rfl,rfl,trivial⟩ Cf A7 trivial A7
  refine A8 ?_
  (repeat refine Am ?_)
  exact Bh
  refine Bp (s':=?_) A0 rfl A7 Dx ?_ ?_
  rotate_left
  refine A8 ?_
  (repeat refine Am ?_)
  exact Bh
  refine Bp (s':=?_) A0 rfl A7 Dx ?_ ?_
  rotate_left
  refine A8 ?_
  (repeat refine Am ?_)
  exact Bh
  refine L0 A0 A7 Dx (GW.out (Jf ?_))
  conv=>whnf
  exact B6 [(2,11),(3,6),(4,8),(5,10)] () trivial (by exact Nat.zero_lt_one) ⟨rfl,trivial⟩ ⟨rfl,rfl,rfl,trivial⟩ Cf A7 trivial A7
  refine A8 ?_
  (repeat refine Am ?_)
  exact Bh
  refine Bp (s':=?_) A0 rfl A7 Dx ?_ ?_
  rotate_left
  refine A8 ?_
  refine K2 hp 6 rfl 15 rfl ?_
  refine Av A0 rfl rfl rfl rfl rfl rfl rfl rfl rfl rfl rfl (Ch x.news) (Cc) (fun _=>Ga x.news) Ab (A8 ?_)
  exact Bh
  refine Bp (s':=?_) A0 rfl A7 Dx ?_ ?_
  rotate_left
  refine A8 ?_
  (repeat refine Am ?_)
  exact Bh
  refine Bp (s':=?_) A0 rfl A7 Dx ?_ ?_
  rotate_left
  refine A8 ?_
  (repeat refine Am ?_)
  exact Bh
  refine L0 A0 A7 Dx (GW.out (Jf ?_))
  conv=>whnf
  exact B6 [(2,9),(3,6),(4,8),(5,11)] () trivial (by exact Nat.zero_lt_one) ⟨rfl,trivial⟩ ⟨rfl,rfl,rfl,trivial⟩ Cf A7 trivial A7
  refine A8 ?_
  (repeat refine Am ?_)
  exact Bh
  refine Bp (s':=?_) A0 rfl A7 Dx ?_ ?_
  rotate_left
  refine A8 ?_
  refine K2 hp 5 rfl 11 rfl ?_
  refine Av A0 rfl rfl rfl rfl rfl rfl rfl rfl rfl rfl rfl (C9 x.tokens) (Cc) (fun _=>N5 x.tokens) Ab (A8 ?_)
  exact Bh
  refine Bp (s':=?_) A0 rfl A7 Dx ?_ ?_
  rotate_left
  refine A8 ?_
  refine K2 hp 6 rfl 15 rfl ?_
  refine Av A0 rfl rfl rfl rfl rfl rfl rfl rfl rfl rfl rfl (Ch x.news) (Cc) (fun _=>Ga x.news) Ab (A8 ?_)
  exact Bh
  refine Bp (s':=?_) A0 rfl A7 Dx ?_ ?_
  rotate_left
  refine A8 ?_
  (repeat refine Am ?_)
  exact Bh
  refine Bp (s':=?_) A0 rfl A7 Dx ?_ ?_
  rotate_left
  refine A8 ?_
  (repeat refine Am ?_)
  exact Bh
  refine L0 A0 A7 Dx (GW.out (Jf ?_))
  conv=>whnf
  exact B6 [(2,7),(3,6),(4,9),(5,11)] () trivial (by exact Nat.zero_lt_one) ⟨rfl,trivial⟩ ⟨rfl,rfl,rfl,trivial⟩ Cf A7 trivial A7
  refine A8 ?_
  (repeat refine Am ?_)
  exact Bh
  refine Bp (s':=?_) A0 rfl A7 Dx ?_ ?_
  rotate_left
  refine A8 ?_
  refine Ri hp 0 0 0 rfl rfl rfl ?_
  refine Ri hp 0 1 1 rfl rfl rfl ?_
  refine Ri hp 0 2 2 rfl rfl rfl ?_
  refine Cx (L3 x.graph hg) rfl (A8 ?_)
  exact Bh
  refine Bp (s':=?_) A0 rfl A7 Dx ?_ ?_
  rotate_left
  refine A8 ?_
  refine K2 hp 5 rfl 11 rfl ?_
  refine Av A0 rfl rfl rfl rfl rfl rfl rfl rfl rfl rfl rfl (C9 x.tokens) (Cc) (fun _=>N5 x.tokens) Ab (A8 ?_)
  exact Bh
  refine Bp (s':=?_) A0 rfl A7 Dx ?_ ?_
  rotate_left
  refine A8 ?_
  refine K2 hp 6 rfl 15 rfl ?_
  refine Av A0 rfl rfl rfl rfl rfl rfl rfl rfl rfl rfl rfl (Ch x.news) (Cc) (fun _=>Ga x.news) Ab (A8 ?_)
  exact Bh
  refine Bp (s':=?_) A0 rfl A7 Dx ?_ ?_
  rotate_left
  refine A8 ?_
  (repeat refine Am ?_)
  exact Bh
  refine Bp (s':=?_) A0 rfl A7 Dx ?_ ?_
  rotate_left
  refine A8 ?_
  (repeat refine Am ?_)
  exact Bh
  refine L0 A0 A7 Dx (GW.out (Jf ?_))
  conv=>whnf
  exact B6 [(2,6),(3,7),(4,9),(5,11)] () trivial (by exact Nat.zero_lt_one) ⟨rfl,trivial⟩ ⟨rfl,rfl,rfl,trivial⟩ Cf A7 trivial A7
 intro _ _
 refine B0z hp 0 3 3 rfl rfl rfl ?_
 refine B0z hp 0 4 4 rfl rfl rfl ?_
 refine A00 2 3 8 (fun i=>Ac.c (([]:List Ac).getD i default)) rfl rfl ?_
 refine A00 2 4 6 (fun i=>B8.c (([]:List B8).getD i default)) rfl rfl ?_
 refine A8 ?_
 refine Bv A0 false [] (fun k:Nat=>[(4,.c (vi k))]) (fun k=>[⟨2,[.own 3,.c (vi x.graph.workers),.c (vi x.graph.cap),.own 6,.own 7,.own 4,.own 5]⟩,⟨0,[.c (.val v0),.c (.val v1),.c (.val v2),.c (Ar x.workers),.c (Ct x.links),.c (.val v5),.c (.val v6)]⟩,⟨1,[.c (.val (.slice none 0 0)),.c (vi 0),.c (vi 0),.c (.val (.slice none 0 0)),.c (.val (.slice none 0 0)),.c (.val (.slice none 0 0)),.c (.val (.slice none 0 0))]⟩]) (fun k=>[⟨3,Br x.graph.nodes⟩,⟨4,C9 x.tokens⟩,⟨5,Ch x.news⟩,⟨6,Ar (x.workers.take k)⟩,⟨7,Ct []⟩])
  (fun k=>k≤x.workers.length) (fun k=>x.workers.length-k) 0 (Nat.zero_le _) ⟨F3,trivial⟩ Cf ⟨F2,F2,F2,F2,F2,trivial⟩ Cj A7 (fun k hk=>?_)
 conv=>whnf
 refine Es (fun h'=>?_) fun h'=>?_<;>conv=>whnf
 ·have h':k<x.workers.length:=by omega
  have hw:=A6.worker_le h h'
  (repeat refine Am ?_)
  first|(refine B5 1 rfl [0,1,4,5,8,9,2,3,6,7,10,11,12,13] A7 (A8 ?_))|(refine B5 5 rfl [0,1,2,3,4,5,6,7,8,9,10,11] A7 (A8 ?_))|(refine B5 9 rfl [0,1,2,3,4,5,6,7,8,9,10,11] A7 (A8 ?_))
  (repeat refine Am ?_)
  refine Cx (Gu (x.workers.getD k default) hw) rfl (A8 ?_)
  refine Ou A0 rfl rfl rfl rfl rfl rfl rfl rfl rfl (A8 ?_)
  refine Av A0 rfl rfl rfl rfl rfl rfl rfl rfl rfl rfl rfl (Ar (x.workers.take k++[x.workers.getD k default])) (Ad rfl) Bj (by simp only [List.length_take];omega) (A8 ?_)
  (repeat refine Am ?_)
  refine B6 [(6,17)] (k+1) Ab Ab ⟨rfl,trivial⟩ ⟨rfl,rfl,rfl,congrArg Ar (Hs x.workers k h').symm,rfl,trivial⟩ Cf A7 Cj A7
 rw [E6 x.workers k Ab]
 refine Bv A0 false [] (fun j:Nat=>[(5,.c (vi j))]) (fun j=>[⟨2,[.own 3,.c (vi x.graph.workers),.c (vi x.graph.cap),.own 6,.own 7,.own 4,.own 5]⟩,⟨0,[.c (.val v0),.c (.val v1),.c (.val v2),.c (Ar x.workers),.c (Ct x.links),.c (.val v5),.c (.val v6)]⟩,⟨1,[.c (.val (.slice none 0 0)),.c (vi 0),.c (vi 0),.c (.val (.slice none 0 0)),.c (.val (.slice none 0 0)),.c (.val (.slice none 0 0)),.c (.val (.slice none 0 0))]⟩]) (fun j=>[⟨3,Br x.graph.nodes⟩,⟨4,C9 x.tokens⟩,⟨5,Ch x.news⟩,⟨6,Ar x.workers⟩,⟨7,Ct (x.links.take j)⟩])
  (fun j=>j≤x.links.length) (fun j=>x.links.length-j) 0 (Nat.zero_le _) ⟨F3,trivial⟩ Cf ⟨F2,F2,F2,F2,F2,trivial⟩ Cj A7 (fun j hj=>?_)
 conv=>whnf
 refine Es (fun h''=>?_) fun h''=>?_<;>conv=>whnf
 ·have h'':j<x.links.length:=by omega
  have hl:=A6.link_le h h''
  (repeat refine Am ?_)
  first|(refine B5 1 rfl [0,1,4,5,8,9,2,3,6,7,10,11,12,13] A7 (A8 ?_))|(refine B5 5 rfl [0,1,2,3,4,5,6,7,8,9,10,11] A7 (A8 ?_))|(refine B5 9 rfl [0,1,2,3,4,5,6,7,8,9,10,11] A7 (A8 ?_))
  (repeat refine Am ?_)
  refine Cx (Jn (x.links.getD j default) hl) rfl (A8 ?_)
  refine Ou A0 rfl rfl rfl rfl rfl rfl rfl rfl rfl (A8 ?_)
  refine Av A0 rfl rfl rfl rfl rfl rfl rfl rfl rfl rfl rfl (Ct (x.links.take j++[x.links.getD j default])) (Ad rfl) Bj (by simp only [List.length_take];omega) (A8 ?_)
  (repeat refine Am ?_)
  refine B6 [(7,10)] (j+1) Ab Ab ⟨rfl,trivial⟩ ⟨rfl,rfl,rfl,rfl,congrArg Ct (Hs x.links j h'').symm,trivial⟩ Cf A7 Cj A7
 refine B2 A0 rfl rfl ⟨⟨rfl,rfl,rfl,rfl,?_,rfl,rfl,trivial⟩,trivial⟩
 exact congrArg Ct (E6 _ _ Ab)
theorem Vf (x:A6)(e:Int)(h:x.w≤16777216):Bi Tryz.prog 186 [.agg x.c,.one (vi e)] [.one (vb (K0 x e))]:=by
 have hl:=A6.workers_le h
 refine Bd A0 false Tryz.func186 rfl Aw fun W=>?_
 conv=>whnf
 refine Es (fun h0=>?_) fun h0=>?_<;>conv=>whnf
 ·have hw:=Go.Sx.A6.worker_le h (show 0<x.workers.length by omega)
  repeat' (first|(refine Oo ?_;conv=>whnf)|(refine Oq ?_;conv=>whnf)|(refine ⟨fun h=>?_,fun h=>?_⟩<;>conv=>whnf)|(refine Gl ?_;conv=>whnf)|fail)
  refine Az (Vb (x.workers.getD 0 default) e Ab) rfl (A8 ?_)
  repeat' (first|(refine Oo ?_;conv=>whnf)|(refine Oq ?_;conv=>whnf)|(refine ⟨fun h=>?_,fun h=>?_⟩<;>conv=>whnf)|(refine Gl ?_;conv=>whnf)|fail)
  exact B2 A0 rfl rfl ⟨congrArg vb (by rw [K0,if_pos Ab]),trivial⟩
 repeat' (first|(refine Oo ?_;conv=>whnf)|(refine Oq ?_;conv=>whnf)|(refine ⟨fun h=>?_,fun h=>?_⟩<;>conv=>whnf)|(refine Gl ?_;conv=>whnf)|fail)
 exact B2 A0 rfl rfl ⟨congrArg vb (by rw [K0,if_neg Ab]),trivial⟩
def Ag (c:A6) (e:Int):Di:=c.tokens.getD e.toNat default
def Af (c:A6) (j:Int):Ac:=c.workers.getD j.toNat default
def D7 (c:A6) (e:Int) (t:Di):A6:=⟨c.graph,c.workers,c.links,c.tokens.set e.toNat t,c.news⟩
def Bc (c:A6) (j:Int) (w:Ac):A6:=⟨c.graph,c.workers.set j.toNat w,c.links,c.tokens,c.news⟩
def Iq (w:Ac) (e:Int):Ac:=⟨w.queue,w.staged,w.inputs,w.cells,w.sums,w.black.set e.toNat false,w.caps,w.dones⟩
def Gr (w:Ac) (d:Fi):Ac:=⟨w.queue,w.staged,w.inputs,w.cells,w.sums,w.black,w.caps,w.dones++[d]⟩
def Mo (e:Int) (b:Bool) (k:Nat):List Fm:=(List.range k).map fun (i:Nat)=>(⟨(i:Int)+1,e,b⟩:Fm)
def Pl (c:A6) (l:List Fm):A6:=⟨c.graph,c.workers,c.links,c.tokens,c.news++l⟩
def Ip (c:A6) (e:Int) (t:Di) (w:Ac):A6:=
 if t.black=false∧w.black.getD e.toNat default=false∧t.sum+w.sums.getD e.toNat default=0 then
  Pl (Bc c 0 (Gr w ⟨e,t.capped||w.caps.getD e.toNat default⟩)) (Mo e (t.capped||w.caps.getD e.toNat default) (c.workers.length-1))
 else c
def Pj (c:A6) (e:Int):Prop:=B4 c∧(0≤e∧e≤3)∧G0 (Af c 0) e=false∧Jr (Af c (Ag c e).at_) e=true
instance (c:A6) (e:Int):Decidable (Pj c e):=by unfold Pj;infer_instance
def Cq (c:A6) (e:Int):A6×Bool:=
 if Pj c e then
  let t:=Ag c e
  let w:=Af c t.at_
  if t.going=false then (Bc (D7 c e ⟨true,(c.workers.length:Int)-1,0,false,w.caps.getD e.toNat default⟩) t.at_ (Iq w e),true)
  else if t.at_>0 then
   if Hv (t.sum+w.sums.getD e.toNat default) then
    (Bc (D7 c e ⟨t.going,t.at_-1,t.sum+w.sums.getD e.toNat default,t.black||w.black.getD e.toNat default,t.capped||w.caps.getD e.toNat default⟩) t.at_ (Iq w e),true)
   else (c,false)
  else (Ip (D7 c e ⟨false,t.at_,t.sum,t.black,t.capped⟩) e t w,true)
 else (c,false)
theorem A7n {c:A6}{e:Int}(h:Pj c e)(hg:(Ag c e).going=false):Cq c e=(Bc (D7 c e ⟨true,(c.workers.length:Int)-1,0,false,(Af c (Ag c e).at_).caps.getD e.toNat default⟩) (Ag c e).at_ (Iq (Af c (Ag c e).at_) e),true):=by
 rw [Cq,if_pos h]
 simp only [hg,if_true]
theorem B3p {c:A6}{e:Int}(h:Pj c e)(hg:(Ag c e).going=true)(ha:(Ag c e).at_>0)(hs:¬ Hv ((Ag c e).sum+(Af c (Ag c e).at_).sums.getD e.toNat default)):Cq c e=(c,false):=by
 rw [Cq,if_pos h]
 simp only [hg,Bool.true_eq_false,if_false,if_pos ha,if_neg hs]
theorem Qo {c:A6}{e:Int}(h:Pj c e)(hg:(Ag c e).going=true)(ha:(Ag c e).at_>0)(hs:Hv ((Ag c e).sum+(Af c (Ag c e).at_).sums.getD e.toNat default)):
  Cq c e=(Bc (D7 c e ⟨true,(Ag c e).at_-1,(Ag c e).sum+(Af c (Ag c e).at_).sums.getD e.toNat default,(Ag c e).black||(Af c (Ag c e).at_).black.getD e.toNat default,(Ag c e).capped||(Af c (Ag c e).at_).caps.getD e.toNat default⟩) (Ag c e).at_ (Iq (Af c (Ag c e).at_) e),true):=by
 rw [Cq,if_pos h]
 simp only [hg,Bool.true_eq_false,if_false,if_pos ha,if_pos hs]
theorem Vs {c:A6}{e:Int}(h:¬ Pj c e):Cq c e=(c,false):=by rw [Cq,if_neg h]
theorem D0 {α:Type} [Inhabited α] {es:Nat}{e:α→List Ae}{l:List α}{j:Nat}{r:List Ae}(h:r=e (l.getD j default)):Ge (.sl l.length es (Ey (fun i=>e (l.getD i default)) j r)) (Kt es e l):=by
 refine ⟨rfl,rfl,fun i _=>?_⟩
 unfold Ey
 split
 ·rename_i e;subst e;rw [h];exact Fh.rfl' _
 exact Fh.rfl' _
theorem Iz {α:Type} [Inhabited α] {es:Nat}{e:α→List Ae}{l:List α}{j:Nat}{r:List Ae}{x:α}(hj:j<l.length)(h:r=e x):Ge (.sl l.length es (Ey (fun i=>e (l.getD i default)) j r)) (Kt es e (l.set j x)):=by
 refine ⟨by rw [List.length_set],rfl,fun i _=>?_⟩
 unfold Ey
 split
 ·rename_i q
  subst q
  show Fh r (e ((l.set i x).getD i default))
  rw [h,Sx.getD_set_self _ _ _ _ hj]
  exact Fh.rfl' _
 rename_i q
 show Fh (e (l.getD i default)) (e ((l.set j x).getD i default))
 rw [Sx.getD_set_ne _ _ _ _ _ q]
 exact Fh.rfl' _
abbrev Rc (x:A6) (b:Bool):List Ae:=[Br x.graph.nodes,vi x.graph.workers,vi x.graph.cap,Ar x.workers,Ct x.links,C9 x.tokens,Ch x.news,vb b]
abbrev rc (x:A6):List Ae:=Rc x (B3 x)
theorem Qn {c:A6}{e:Int}(h:Pj c e)(hg:(Ag c e).going=true)(ha:¬ (Ag c e).at_>0):Cq c e=(Ip (D7 c e ⟨false,(Ag c e).at_,(Ag c e).sum,(Ag c e).black,(Ag c e).capped⟩) e (Ag c e) (Af c (Ag c e).at_),true):=by
 rw [Cq,if_pos h]
 simp only [hg,Bool.true_eq_false,if_false,if_neg ha]
def Kp (l:List Be) (x:Be):Bool:=l.any fun y=>decide (y=x)
def Jg (l:List Be) (x:Be):Nat:=Gs (fun y=>!decide (Jh y x<0)) l
def Fp (l:List Be) (x:Be):List Be:=if Kp l x=true then l else l.take (Jg l x)++x::l.drop (Jg l x)
def Yk (op e k:Int) (s:Int×Bool) (x:Be):Int×Bool:=if (x.op=op∧x.epoch=e∧x.key=k)∧(s.2=false∨x.val<s.1) then (x.val,true) else s
def Jl (l:List Be) (op e k:Int):Int×Bool:=l.foldl (Yk op e k) (0,false)
def Bt (a b:Be):Bool:=decide (a.op=b.op∧a.epoch=b.epoch∧a.key=b.key)
def Uf (l:List Be) (x:Be):Prop:=(Jl l x.op x.epoch x.key).2=true∧(Jl l x.op x.epoch x.key).1≤x.val
instance (l:List Be) (x:Be):Decidable (Uf l x):=by unfold Uf;infer_instance
def J8 (l:List Be) (x:Be):List Be×Bool:=if Uf l x then (l,false) else (Fp (l.filter fun y=>!Bt x y) x,true)
def Do (k:Int) (l:List Be) (x:Be):List Be×Bool:=
 if k=5∨k=8 then J8 l x else if k=6 then (if Kp l x=true then (l,false) else (Fp l x,true)) else (l,true)
end Go.Proofs.YtdendlkeiaccpaaGreat
