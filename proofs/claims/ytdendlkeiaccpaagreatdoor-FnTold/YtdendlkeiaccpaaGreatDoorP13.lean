/- Part 13 of the proof that each of the laws FnTold returns true for every input. No conditions. -/
import Derived.Test.YtdendlkeiaccpaaGreatDoorP5
import Derived.Test.YtdendlkeiaccpaaGreatDoorP12
import Derived.Test.YtdendlkeiaccpaaGreatDoorP7

set_option linter.unusedSimpArgs false
set_option linter.unusedVariables false
set_option maxRecDepth 100000
namespace Go.Proofs.YtdendlkeiaccpaaGreatDoor
open Go.Sx
def Al (g:Ap) (op:Int):Aq:=g.nodes.getD op.toNat default
def D9 (c:A5):List Ag:=c.workers.foldl (fun l w=>w.cells.foldl Cs l) []
def Dg (g:Ap) (l:List Ag):List Ag:=l.filter fun x=>decide ((0≤x.op∧x.op<g.nodes.length)∧(Al g x.op).kind=8)
def Df (c:A5) (e:Int):List Ag:=(Dg c.graph (D9 c)).filter fun x=>x.epoch==e
def Xn (ws:List A9):List Ag:=ws.foldl (fun l w=>w.cells.foldl Cs l) []
theorem Q4 (x:A5):D9 x=Xn x.workers:=rfl
theorem Pb {α β:Type} [Inhabited α] (f:β→α→β)(b:β){l:List α}{k:Nat}(hk:k<l.length):(l.take (k+1)).foldl f b=f ((l.take k).foldl f b) (l.getD k default):=by
 have:l.take (k+1)=l.take k++[l.getD k default]:=by
  rw [List.take_succ_eq_append_getElem hk]
  simp [List.getD,hk]
 rw [this,List.foldl_append]
 rfl
theorem A1j {ws:List A9}{k:Nat}(hk:k<ws.length):Xn (ws.take (k+1))=(ws.getD k default).cells.foldl Cs (Xn (ws.take k)):=Pb _ _ hk
theorem A15 (l:List Ag)(x:Ag):(Cs l x).length≤l.length+1:=by
 unfold Cs
 split
 ·omega
 have:=B1f l x
 simp only [List.length_append,List.length_take,List.length_cons,List.length_drop]
 omega
theorem N7 (cs:List Ag):∀l:List Ag,(cs.foldl Cs l).length≤l.length+cs.length:=by
 induction cs with
 |nil=>intro l;simp
 |cons c r ih=>
  intro l
  have:=ih (Cs l c)
  have:=A15 l c
  simp only [List.foldl_cons,List.length_cons]
  omega
theorem Yo (w:A9):w.cells.length≤w.w:=by simp only [A9.w];omega
theorem A98 (ws:List A9):∀l:List Ag,(ws.foldl (fun l w=>w.cells.foldl Cs l) l).length≤l.length+(ws.map A9.w).sum:=by
 induction ws with
 |nil=>intro l;simp
 |cons w r ih=>
  intro l
  have h1:=ih (w.cells.foldl Cs l)
  have h2:=N7 w.cells l
  have h3:=Yo w
  simp only [List.foldl_cons,List.map_cons,List.sum_cons]
  omega
theorem Ta (ws:List A9):(Xn ws).length≤(ws.map A9.w).sum:=by
 have:=A98 ws []
 simpa [Xn] using this
theorem J6 {x:A5}{n:Nat}(h:x.w≤n):(D9 x).length≤n:=by
 have:=Ta x.workers
 rw [Q4]
 simp only [A5.w,wS] at h
 omega
set_option maxHeartbeats 1000000 in
theorem A2k (x:A5)(hx:x.w≤16000000):Bo Tryz.prog 106 [.agg x.c] [.one (Ak (D9 x))]:=by
 have hl:=A5.workers_le hx
 refine Bh A0 false Tryz.func106 rfl Aw fun W=>?_
 conv=>whnf
 refine Ed 1 (Ak []) rfl De ?_
 refine C0 A0 false [5,6] (fun k:Nat=>[(4,.c (vi k))]) (fun k=>[⟨0,[.c (Bp x.graph.nodes),.c (vi x.graph.workers),.c (vi x.graph.cap),.c (Av x.workers),.c (Cy x.links),.c (C9 x.tokens),.c (Cj x.news)]⟩]) (fun k=>[⟨1,Ak (Xn (x.workers.take k))⟩])
  (fun k=>k≤x.workers.length) (fun k=>x.workers.length-k) 0 (Nat.zero_le _) ⟨G9,trivial⟩ Cf ⟨Eu,trivial⟩ Cr A7 (fun k hk=>?_)
 conv=>whnf
 (repeat refine An ?_)
 refine Fi (fun h=>?_) fun h=>?_<;>conv=>whnf
 ·have h:k<x.workers.length:=by omega
  have hw:=Go.Sx.A5.worker_le hx h
  have hc:=Yo (x.workers.getD k default)
  have hi:=Ta (x.workers.take k)
  refine C0 A0 false [] (fun j:Nat=>[(5,.c (vi j))]) (fun j=>[⟨0,[.c (Bp x.graph.nodes),.c (vi x.graph.workers),.c (vi x.graph.cap),.c (Av x.workers),.c (Cy x.links),.c (C9 x.tokens),.c (Cj x.news)]⟩]) (fun j=>[⟨1,Ak (((x.workers.getD k default).cells.take j).foldl Cs (Xn (x.workers.take k)))⟩])
   (fun j=>j≤(x.workers.getD k default).cells.length) (fun j=>(x.workers.getD k default).cells.length-j) 0 (Nat.zero_le _) ⟨G9,trivial⟩ Cf ⟨Eu,trivial⟩ Cr A7 (fun j hj=>?_)
  conv=>whnf
  (repeat refine An ?_)
  refine Fi (fun h=>?_) fun h=>?_<;>conv=>whnf
  ·have h:j<(x.workers.getD k default).cells.length:=by rw [Int.toNat_natCast] at h;omega
   have hf:=N7 ((x.workers.getD k default).cells.take j) (Xn (x.workers.take k))
   have ht:=List.length_take_le j (x.workers.getD k default).cells
   (repeat refine An ?_)
   refine Cq (I1 (((x.workers.getD k default).cells.take j).foldl Cs (Xn (x.workers.take k))) ((x.workers.getD k default).cells.getD j default) Ab) rfl (A8 ?_)
   (repeat refine An ?_)
   refine B9 [(1,2)] (j+1) Ab Ab ⟨rfl,trivial⟩ ⟨congrArg Ak (Pb _ _ h).symm,trivial⟩ Cf A7 Cr A7
  (repeat refine An ?_)
  refine B9 [] (k+1) Ab Ab ⟨rfl,trivial⟩ ⟨congrArg Ak (by rw [Int.toNat_natCast] at h;rw [A1j ‹_›,Fv (x.workers.getD k default).cells j Ab]),trivial⟩ Cf A7 Cr A7
 (repeat refine An ?_)
 refine B3 A0 rfl rfl ⟨?_,trivial⟩
 exact congrArg Ak (by rw [Q4,List.take_of_length_le Ab])
set_option maxHeartbeats 1000000 in
theorem A1e (x:A5)(hx:x.w≤16000000):Bo Tryz.prog 103 [.agg x.c] [.one (Ak (D9 x))]:=by
 have hl:=A5.workers_le hx
 refine Bh A0 false Tryz.func103 rfl Aw fun W=>?_
 conv=>whnf
 refine A7o 3 4 (fun i=>Ag.c (([]:List Ag).getD i default)) rfl ?_
 refine C0 A0 false [] (fun k:Nat=>[(11,.c (vi k))]) (fun k=>[⟨0,[.c (Bp x.graph.nodes),.c (vi x.graph.workers),.c (vi x.graph.cap),.c (Av x.workers),.c (Cy x.links),.c (C9 x.tokens),.c (Cj x.news)]⟩]) (fun k=>[⟨1,Ak (Xn (x.workers.take k))⟩])
  (fun k=>k≤x.workers.length) (fun k=>x.workers.length-k) 0 (Nat.zero_le _) ⟨G9,trivial⟩ Cf ⟨Eu,trivial⟩ Cr A7 (fun k hk=>?_)
 conv=>whnf
 conv=>whnf
 refine Fi (fun h=>?_) fun h=>?_<;>conv=>whnf
 ·have h:k<x.workers.length:=by omega
  have hw:=Go.Sx.A5.worker_le hx h
  have hc:=Yo (x.workers.getD k default)
  have hi:=Ta (x.workers.take k)
  (repeat refine An ?_)
  refine C0 A0 false [] (fun j:Nat=>[(18,.c (vi j))]) (fun j=>[⟨0,[.c (Bp x.graph.nodes),.c (vi x.graph.workers),.c (vi x.graph.cap),.c (Av x.workers),.c (Cy x.links),.c (C9 x.tokens),.c (Cj x.news)]⟩]) (fun j=>[⟨1,Ak (((x.workers.getD k default).cells.take j).foldl Cs (Xn (x.workers.take k)))⟩])
   (fun j=>j≤(x.workers.getD k default).cells.length) (fun j=>(x.workers.getD k default).cells.length-j) 0 (Nat.zero_le _) ⟨G9,trivial⟩ Cf ⟨Eu,trivial⟩ Cr A7 (fun j hj=>?_)
  conv=>whnf
  conv=>whnf
  refine Fi (fun h=>?_) fun h=>?_<;>conv=>whnf
  ·have h:j<(x.workers.getD k default).cells.length:=by rw [Int.toNat_natCast] at h;omega
   have hf:=N7 ((x.workers.getD k default).cells.take j) (Xn (x.workers.take k))
   have ht:=List.length_take_le j (x.workers.getD k default).cells
   (repeat refine An ?_)
   refine Cq (A1i (((x.workers.getD k default).cells.take j).foldl Cs (Xn (x.workers.take k))) ((x.workers.getD k default).cells.getD j default) Ab) rfl (A8 ?_)
   (repeat refine An ?_)
   refine B9 [(1,4)] (j+1) Ab Ab ⟨rfl,trivial⟩ ⟨congrArg Ak (Pb _ _ h).symm,trivial⟩ Cf A7 Cr A7
  (repeat refine An ?_)
  refine B9 [] (k+1) Ab Ab ⟨rfl,trivial⟩ ⟨congrArg Ak (by rw [Int.toNat_natCast] at h;rw [A1j ‹_›,Fv (x.workers.getD k default).cells j Ab]),trivial⟩ Cf A7 Cr A7
 (repeat refine An ?_)
 refine B3 A0 rfl rfl ⟨?_,trivial⟩
 exact congrArg Ak (by rw [Q4,List.take_of_length_le Ab])
def K4 (g:Ap) (op:Int):Aq×Bool:=if Do op 0 (g.nodes.length-1)=true then (Al g op,true) else (⟨0,0,0,[]⟩,false)
theorem B5q {g:Ap}{n:Nat}(h:g.w≤n)(op:Int)(hk:op.toNat<g.nodes.length):(Al g op).w≤n:=by
 have:=H5 Aq.w g.nodes op.toNat hk
 simp only [Ap.w,wS] at h
 simp only [Al]
 omega
theorem Mf (g:Ap)(op:Int)(hg:g.w≤16777216):Bo Tryz.prog 145 [.agg g.c,.one (vi op)] [.agg (K4 g op).1.c,.one (vb (K4 g op).2)]:=by
 have hl:g.nodes.length≤16777216:=by simp only [Ap.w,wS] at hg;omega
 refine Bh A0 false Tryz.func145 rfl Aw fun W=>?_
 conv=>whnf
 (repeat refine An ?_)
 refine B5 (Fh op 0 (g.nodes.length-1)) rfl (A8 ?_)
 by_cases h1:Do op 0 (g.nodes.length-1)=true
 ·have h2:=Go.Sx.As.1 h1
  have hk:op.toNat<g.nodes.length:=by omega
  have hw:=B5q hg op hk
  have ho:(Al g op).outs.length≤16777216:=by simp only [Aq.w] at hw;omega
  rw [h1,K4,if_pos h1]
  repeat refine Bj ?_
  (repeat refine An ?_)
  refine B1 A0 rfl rfl rfl rfl rfl rfl rfl rfl rfl rfl rfl (At (Al g op).outs) (Ci) (fun _=>Rh _) (by (simp only [Al] at ho;omega)) (A8 ?_)
  repeat refine Bj ?_
  refine B3 A0 rfl rfl ?_
  exact Ay
 have h3:Do op 0 (g.nodes.length-1)=false:=by simpa using h1
 rw [h3,K4,if_neg h1]
 repeat refine Bj ?_
 refine B3 A0 rfl rfl ?_
 exact Ay
def Wf (g:Ap) (x:Ag):Bool:=decide ((0≤x.op∧x.op<g.nodes.length)∧(Al g x.op).kind=8)
theorem A5s (g:Ap)(x:Ag):Wf g x=((K4 g x.op).2&&((K4 g x.op).1.kind==8)):=by
 unfold Wf K4
 by_cases h1:Do x.op 0 (g.nodes.length-1)=true
 ·have h2:=Go.Sx.As.1 h1
  rw [if_pos h1,Bool.eq_iff_iff]
  simp only [decide_eq_true_eq,Bool.true_and,beq_iff_eq]
  exact ⟨fun h=>h.2,fun h=>⟨⟨by omega,by omega⟩,h⟩⟩
 have h3:Do x.op 0 (g.nodes.length-1)=false:=by simpa using h1
 have h2:=Go.Sx.Bn.1 h3
 rw [if_neg h1]
 simp only [Bool.false_and,decide_eq_false_iff_not]
 exact fun h=>by omega
set_option maxHeartbeats 1000000 in
theorem Zw (g:Ap)(l:List Ag)(hg:g.w≤16777216)(hl:l.length≤16777216):Bo Tryz.prog 105 [.agg g.c,.one (Ak l)] [.one (Ak (Dg g l))]:=by
 refine Bh A0 false Tryz.func105 rfl Aw fun W=>?_
 conv=>whnf
 refine Ed 1 (Ak []) rfl De ?_
 refine C0 A0 false [9] (fun k:Nat=>[(6,.c (vi k))]) (fun k=>[⟨0,[.c (Bp g.nodes),.c (vi g.workers),.c (vi g.cap)]⟩]) (fun k=>[⟨1,Ak ((l.take k).filter (Wf g))⟩])
  (fun k=>k≤l.length) (fun k=>l.length-k) 0 (Nat.zero_le _) ⟨G9,trivial⟩ Cf ⟨Eu,trivial⟩ Cr A7 (fun k hk=>?_)
 conv=>whnf
 (repeat refine An ?_)
 refine Fi (fun h=>?_) fun h=>?_<;>conv=>whnf
 ·have h:k<l.length:=by omega
  have hs:=F4 (Wf g) l k h
  have hb:=Ds (Wf g) l k
  rw [A5s g (l.getD k default)] at hs
  refine J8 rfl ?_
  refine Bu A0 false 1 rfl rfl A7 rfl (A4 B2) ?_
  refine Bu A0 false 2 rfl rfl A7 rfl (A4 B2) ?_
  refine Ej (s':=?_) 0 rfl A7 ?_ ?_
  rotate_left
  refine A8 ?_
  (repeat refine An ?_)
  exact Bf
  refine Ej (s':=?_) 3 rfl A7 ?_ ?_
  rotate_left
  refine A8 ?_
  (repeat refine An ?_)
  exact Bf
  refine Bu A0 false 4 rfl rfl A7 rfl (A4 B2) ?_
  refine Ej (s':=?_) 5 rfl A7 ?_ ?_
  rotate_left
  refine A8 ?_
  (repeat refine An ?_)
  exact Bf
  refine Gv [6,10] A7 ⟨?_,?_,trivial⟩
  focus
   refine A8 ?_
   refine Cq (Mf g (l.getD k default).op hg) rfl (A8 ?_)
   refine He ?_
   refine Bu A0 false 7 rfl rfl A7 rfl (A4 B2) ?_
   refine A1w (s':=?_) 8 rfl A7 ?_ ?_
   rotate_left
   refine A8 ?_
   (repeat refine An ?_)
   exact Bf
   refine A1w (s':=?_) 9 rfl A7 ?_ ?_
   rotate_left
   refine A8 ?_
   (repeat refine An ?_)
   exact Bf
   refine Gv [10] A7 ⟨?_,trivial⟩
   refine A8 ?_
   (repeat refine An ?_)
   refine He ?_
   refine Gv [11] A7 ⟨?_,trivial⟩
   refine A8 ?_
   (repeat refine An ?_)
   refine He ?_
   refine Bu A0 false 12 rfl rfl A7 rfl (A4 B2) ?_
   refine S5 A7 (A8 ?_)
  rotate_left 1
  focus
   refine A8 ?_
   (repeat refine An ?_)
   refine He ?_
   refine Gv [6] A7 ⟨?_,trivial⟩
   refine A8 ?_
   refine Cq (Mf g (l.getD k default).op hg) rfl (A8 ?_)
   refine He ?_
   refine Bu A0 false 7 rfl rfl A7 rfl (A4 B2) ?_
   refine A1w (s':=?_) 8 rfl A7 ?_ ?_
   rotate_left
   refine A8 ?_
   (repeat refine An ?_)
   exact Bf
   refine A1w (s':=?_) 9 rfl A7 ?_ ?_
   rotate_left
   refine A8 ?_
   (repeat refine An ?_)
   exact Bf
   refine Gv [11] A7 ⟨?_,trivial⟩
   refine A8 ?_
   (repeat refine An ?_)
   refine He ?_
   refine Bu A0 false 12 rfl rfl A7 rfl (A4 B2) ?_
   refine S5 A7 (A8 ?_)
  all_goals
   refine ⟨fun h1=>?_,fun h1=>?_⟩<;>conv=>whnf
   ·repeat refine Bj ?_
    refine ⟨fun h8=>?_,fun h8=>?_⟩<;>conv=>whnf
    ·(repeat refine An ?_)
     refine B1 A0 rfl rfl rfl rfl rfl rfl rfl rfl rfl rfl rfl (Ak ((l.take k).filter (Wf g)++[l.getD k default])) (Aa rfl) Bg Ab (A8 ?_)
     (repeat refine An ?_)
     refine B9 [(1,5)] (k+1) Ab Ab ⟨rfl,trivial⟩ ⟨congrArg Ak (by rw [hs,h1,h8];rfl),trivial⟩ Cf A7 Cr A7
    (repeat refine An ?_)
    refine B9 [] (k+1) Ab Ab ⟨rfl,trivial⟩ ⟨congrArg Ak (by rw [hs,h1,h8];simp),trivial⟩ Cf A7 Cr A7
   repeat refine Bj ?_
   refine B9 [] (k+1) Ab Ab ⟨rfl,trivial⟩ ⟨congrArg Ak (by rw [hs,h1];simp),trivial⟩ Cf A7 Cr A7
 (repeat refine An ?_)
 refine B3 A0 rfl rfl ⟨?_,trivial⟩
 exact congrArg (fun l=>Ak (List.filter _ l)) (Fv _ k Ab)
set_option maxHeartbeats 1000000 in
theorem Z5 (g:Ap)(l:List Ag)(hg:g.w≤16777216)(hl:l.length≤16777216):Bo Tryz.prog 102 [.agg g.c,.one (Ak l)] [.one (Ak (Dg g l))]:=by
 refine Bh A0 false Tryz.func102 rfl Aw fun W=>?_
 conv=>whnf
 refine A7o 5 4 (fun i=>Ag.c (([]:List Ag).getD i default)) rfl ?_
 refine C0 A0 false [] (fun k:Nat=>[(10,.c (vi k))]) (fun k=>[⟨0,[.c (Bp g.nodes),.c (vi g.workers),.c (vi g.cap)]⟩]) (fun k=>[⟨1,Ak ((l.take k).filter (Wf g))⟩])
  (fun k=>k≤l.length) (fun k=>l.length-k) 0 (Nat.zero_le _) ⟨G9,trivial⟩ Cf ⟨Eu,trivial⟩ Cr A7 (fun k hk=>?_)
 conv=>whnf
 conv=>whnf
 refine Fi (fun h=>?_) fun h=>?_<;>conv=>whnf
 ·have h:k<l.length:=by omega
  have hs:=F4 (Wf g) l k h
  have hb:=Ds (Wf g) l k
  rw [A5s g (l.getD k default)] at hs
  (repeat refine An ?_)
  refine B5 (A3r g (l.getD k default).op hg) rfl (A8 ?_)
  refine ⟨fun h1=>?_,fun h1=>?_⟩<;>conv=>whnf
  ·have h2:=Go.Sx.As.1 h1
   rw [K4,if_pos h1] at hs
   repeat refine Bj ?_
   (repeat refine An ?_)
   refine ⟨fun h8=>?_,fun h8=>?_⟩<;>conv=>whnf
   ·have h8:((Al g (l.getD k default).op).kind==8)=true:=h8
    (repeat refine An ?_)
    refine B1 A0 rfl rfl rfl rfl rfl rfl rfl rfl rfl rfl rfl (Ak ((l.take k).filter (Wf g)++[l.getD k default])) (Aa rfl) Bg Ab (A8 ?_)
    (repeat refine An ?_)
    refine B9 [(1,4)] (k+1) Ab Ab ⟨rfl,trivial⟩ ⟨congrArg Ak (by rw [hs,h8];rfl),trivial⟩ Cf A7 Cr A7
   have h8:((Al g (l.getD k default).op).kind==8)=false:=h8
   (repeat refine An ?_)
   refine B9 [] (k+1) Ab Ab ⟨rfl,trivial⟩ ⟨congrArg Ak (by rw [hs,h8];simp),trivial⟩ Cf A7 Cr A7
  have hn:¬ Do (l.getD k default).op 0 (g.nodes.length-1)=true:=by rw [h1];decide
  rw [K4,if_neg hn] at hs
  repeat refine Bj ?_
  refine B9 [] (k+1) Ab Ab ⟨rfl,trivial⟩ ⟨congrArg Ak (by rw [hs];simp),trivial⟩ Cf A7 Cr A7
 (repeat refine An ?_)
 refine B3 A0 rfl rfl ⟨?_,trivial⟩
 exact congrArg (fun l=>Ak (List.filter _ l)) (Fv _ k Ab)
theorem Jm {g:Ap}{l:List Ag}{n:Nat}(h:l.length≤n):(Dg g l).length≤n:=Nat.le_trans (List.length_filter_le _ _) h
theorem Sf (x:A5)(e:Int):Df x e=(Dg x.graph (D9 x)).filter (fun y=>y.epoch==e):=rfl
theorem T9 {x:A5}{n:Nat}(h:x.w≤n):x.graph.w≤n:=by simp only [A5.w] at h;omega
set_option maxHeartbeats 1000000 in
theorem Zv (x:A5)(e:Int)(hx:x.w≤16000000):Bo Tryz.prog 78 [.agg x.c,.one (vi e)] [.one (Ak (Df x e))]:=by
 have hc:=J6 hx
 have ho:=Jm (g:=x.graph) hc
 have hg:=T9 hx
 refine Bh A0 false Tryz.func78 rfl Aw fun W=>?_
 conv=>whnf
 refine Ed 1 (Ak []) rfl De ?_
 first|(refine B7 2 rfl [0,1,2,3,4,5] A7 (A8 ?_))
 refine Cq (A2k x hx) rfl (A8 ?_)
 refine Cq (Zw x.graph (D9 x) Ab Ab) rfl (A8 ?_)
 rw [Sf]
 refine C0 A0 false [8] (fun k:Nat=>[(7,.c (vi k))]) (fun k=>[]) (fun k=>[⟨3,Ak (Dg x.graph (D9 x))⟩,⟨1,Ak (((Dg x.graph (D9 x)).take k).filter (fun y=>y.epoch==e))⟩])
  (fun k=>k≤(Dg x.graph (D9 x)).length) (fun k=>(Dg x.graph (D9 x)).length-k) 0 (Nat.zero_le _) ⟨G9,trivial⟩ trivial ⟨Eu,Eu,trivial⟩ Cr A7 (fun k hk=>?_)
 conv=>whnf
 (repeat refine An ?_)
 refine Fi (fun h=>?_) fun h=>?_<;>conv=>whnf
 ·have h:k<(Dg x.graph (D9 x)).length:=by omega
  have hs:=F4 (fun y:Ag=>y.epoch==e) (Dg x.graph (D9 x)) k h
  have hb:=Ds (fun y:Ag=>y.epoch==e) (Dg x.graph (D9 x)) k
  (repeat refine An ?_)
  refine ⟨fun h1=>?_,fun h1=>?_⟩<;>conv=>whnf
  ·rw [Int.toNat_natCast] at h1
   (repeat refine An ?_)
   refine B1 A0 rfl rfl rfl rfl rfl rfl rfl rfl rfl rfl rfl (Ak (((Dg x.graph (D9 x)).take k).filter (fun y=>y.epoch==e)++[(Dg x.graph (D9 x)).getD k default])) (Aa rfl) Bg Ab (A8 ?_)
   (repeat refine An ?_)
   refine B9 [(1,5)] (k+1) Ab Ab ⟨rfl,trivial⟩ ⟨rfl,congrArg Ak (by rw [hs,if_pos h1]),trivial⟩ Cf A7 Cr A7
  rw [Int.toNat_natCast] at h1
  (repeat refine An ?_)
  refine B9 [] (k+1) Ab Ab ⟨rfl,trivial⟩ ⟨rfl,congrArg Ak (by rw [hs,if_neg (by rw [h1];decide),List.append_nil]),trivial⟩ Cf A7 Cr A7
 (repeat refine An ?_)
 refine B3 A0 rfl rfl ⟨?_,trivial⟩
 exact congrArg (fun l=>Ak (List.filter _ l)) (Fv _ k Ab)
set_option maxHeartbeats 1000000 in
theorem Z4 (x:A5)(e:Int)(hx:x.w≤16000000):Bo Tryz.prog 73 [.agg x.c,.one (vi e)] [.one (Ak (Df x e))]:=by
 have hc:=J6 hx
 have ho:=Jm (g:=x.graph) hc
 have hg:=T9 hx
 refine Bh A0 false Tryz.func73 rfl Aw fun W=>?_
 conv=>whnf
 refine A7o 5 4 (fun i=>Ag.c (([]:List Ag).getD i default)) rfl ?_
 first|(refine B7 2 rfl [0,1,2,6,3,4,5] A7 (A8 ?_))
 refine Cq (A1e x hx) rfl (A8 ?_)
 refine Cq (Z5 x.graph (D9 x) Ab Ab) rfl (A8 ?_)
 rw [Sf]
 refine C0 A0 false [] (fun k:Nat=>[(14,.c (vi k))]) (fun k=>[]) (fun k=>[⟨3,Ak (Dg x.graph (D9 x))⟩,⟨1,Ak (((Dg x.graph (D9 x)).take k).filter (fun y=>y.epoch==e))⟩])
  (fun k=>k≤(Dg x.graph (D9 x)).length) (fun k=>(Dg x.graph (D9 x)).length-k) 0 (Nat.zero_le _) ⟨G9,trivial⟩ trivial ⟨Eu,Eu,trivial⟩ Cr A7 (fun k hk=>?_)
 conv=>whnf
 conv=>whnf
 refine Fi (fun h=>?_) fun h=>?_<;>conv=>whnf
 ·have h:k<(Dg x.graph (D9 x)).length:=by omega
  have hs:=F4 (fun y:Ag=>y.epoch==e) (Dg x.graph (D9 x)) k h
  have hb:=Ds (fun y:Ag=>y.epoch==e) (Dg x.graph (D9 x)) k
  (repeat refine An ?_)
  refine ⟨fun h1=>?_,fun h1=>?_⟩<;>conv=>whnf
  ·rw [Int.toNat_natCast] at h1
   (repeat refine An ?_)
   refine B1 A0 rfl rfl rfl rfl rfl rfl rfl rfl rfl rfl rfl (Ak (((Dg x.graph (D9 x)).take k).filter (fun y=>y.epoch==e)++[(Dg x.graph (D9 x)).getD k default])) (Aa rfl) Bg Ab (A8 ?_)
   (repeat refine An ?_)
   refine B9 [(1,6)] (k+1) Ab Ab ⟨rfl,trivial⟩ ⟨rfl,congrArg Ak (by rw [hs,if_pos h1]),trivial⟩ Cf A7 Cr A7
  rw [Int.toNat_natCast] at h1
  (repeat refine An ?_)
  refine B9 [] (k+1) Ab Ab ⟨rfl,trivial⟩ ⟨rfl,congrArg Ak (by rw [hs,if_neg (by rw [h1];decide),List.append_nil]),trivial⟩ Cf A7 Cr A7
 (repeat refine An ?_)
 refine B3 A0 rfl rfl ⟨?_,trivial⟩
 exact congrArg (fun l=>Ak (List.filter _ l)) (Fv _ k Ab)
end Go.Proofs.YtdendlkeiaccpaaGreatDoor
