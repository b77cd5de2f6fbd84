/- Part 14 of the proof that each of the laws FnOneWorker returns true for every input. No conditions. -/
import Derived.Test.YtonodkjaoalfjaaGreatP5
import Derived.Test.YtonodkjaoalfjaaGreatP13
import Derived.Test.YtonodkjaoalfjaaGreatP8
import Derived.Test.YtonodkjaoalfjaaGreatP11
import Derived.Test.YtonodkjaoalfjaaGreatP3
import Derived.Test.YtonodkjaoalfjaaGreatP6

set_option linter.unusedSimpArgs false
set_option linter.unusedVariables false
set_option maxRecDepth 100000
namespace Go.Proofs.YtonodkjaoalfjaaGreat
open Go.Sx
def A9 (g:Ad) (op:Int):Cb:=g.nodes.getD op.toNat default
def Fw (c:A3):List A7:=c.workers.foldl (fun l w=>w.cells.foldl Cy l) []
def Ee (g:Ad) (l:List A7):List A7:=l.filter fun x=>decide ((0≤x.op∧x.op<g.nodes.length)∧(A9 g x.op).kind=8)
def Hv (c:A3) (e:Int):List A7:=(Ee c.graph (Fw c)).filter fun x=>x.epoch==e
def inN (ws:List Ab):List A7:=ws.foldl (fun l w=>w.cells.foldl Cy l) []
theorem A21 (x:A3):Fw x=inN x.workers:=rfl
theorem Vw {α β:Type} [Inhabited α] (f:β→α→β)(b:β){l:List α}{k:Nat}(hk:k<l.length):(l.take (k+1)).foldl f b=f ((l.take k).foldl f b) (l.getD k default):=by
 have:l.take (k+1)=l.take k++[l.getD k default]:=by
  rw [List.take_succ_eq_append_getElem hk]
  simp [List.getD,hk]
 rw [this,List.foldl_append]
 rfl
theorem B3r {ws:List Ab}{k:Nat}(hk:k<ws.length):inN (ws.take (k+1))=(ws.getD k default).cells.foldl Cy (inN (ws.take k)):=Vw _ _ hk
theorem A4k (l:List A7)(x:A7):(Cy l x).length≤l.length+1:=by
 unfold Cy
 split
 ·omega
 ·have:=B4z l x
  simp only [List.length_append,List.length_take,List.length_cons,List.length_drop]
  omega
theorem Tr (cs:List A7):∀l:List A7,(cs.foldl Cy l).length≤l.length+cs.length:=by
 induction cs with
 |nil=>intro l;simp
 |cons c r ih=>
  intro l
  have:=ih (Cy l c)
  have:=A4k l c
  simp only [List.foldl_cons,List.length_cons]
  omega
theorem A76 (w:Ab):w.cells.length≤w.w:=by simp only [Ab.w];omega
theorem B3q (ws:List Ab):∀l:List A7,(ws.foldl (fun l w=>w.cells.foldl Cy l) l).length≤l.length+(ws.map Ab.w).sum:=by
 induction ws with
 |nil=>intro l;simp
 |cons w r ih=>
  intro l
  have h1:=ih (w.cells.foldl Cy l)
  have h2:=Tr w.cells l
  have h3:=A76 w
  simp only [List.foldl_cons,List.map_cons,List.sum_cons]
  omega
theorem A8l (ws:List Ab):(inN ws).length≤(ws.map Ab.w).sum:=by
 have:=B3q ws []
 simpa [inN] using this
theorem A20 {x:A3}{n:Nat}(h:x.w≤n):(Fw x).length≤n:=by
 have:=A8l x.workers
 rw [A21]
 simp only [A3.w,wS] at h
 omega
set_option maxHeartbeats 1000000 in
theorem A47 (x:A3)(hx:x.w≤16000000):B0 Tryz.prog 65 [.agg x.c] [.one (Ai (Fw x))]:=by
 have hl:=A3.workers_le hx
 refine Ay A0 false Tryz.func65 rfl Bu fun W=>?_
 conv=>whnf
 refine G4 1 (Ai []) rfl F8 ?_
 refine Bw A0 false [5,6] (fun k:Nat=>[(4,.c (vi k))]) (fun k=>[⟨0,[.c (Bp x.graph.nodes),.c (vi x.graph.workers),.c (vi x.graph.cap),.c (Be x.workers),.c (Dt x.links),.c (C0 x.tokens),.c (Ef x.news)]⟩]) (fun k=>[⟨1,Ai (inN (x.workers.take k))⟩])
  (fun k=>k≤x.workers.length) (fun k=>x.workers.length-k) 0 (Nat.zero_le _) ⟨by first|rfl|simp [Dl,ren2,ren1,ren0],trivial⟩ Dh ⟨by first|rfl|exact (congrArg (fun l=>Du _ _ l) (List.append_nil _)).symm|(show (_:A8)=_;simp)|simp,trivial⟩ D0 Aa (fun k hk=>?_)
 conv=>whnf
 (repeat refine Ar ?_)
 refine G5 (fun h=>?_) fun h=>?_<;>conv=>whnf
 ·have h:k<x.workers.length:=by omega
  have hw:=Go.Sx.A3.worker_le hx h
  have hc:=A76 (x.workers.getD k default)
  have hi:=A8l (x.workers.take k)
  refine Bw A0 false [] (fun j:Nat=>[(5,.c (vi j))]) (fun j=>[⟨0,[.c (Bp x.graph.nodes),.c (vi x.graph.workers),.c (vi x.graph.cap),.c (Be x.workers),.c (Dt x.links),.c (C0 x.tokens),.c (Ef x.news)]⟩]) (fun j=>[⟨1,Ai (((x.workers.getD k default).cells.take j).foldl Cy (inN (x.workers.take k)))⟩])
   (fun j=>j≤(x.workers.getD k default).cells.length) (fun j=>(x.workers.getD k default).cells.length-j) 0 (Nat.zero_le _) ⟨by first|rfl|simp [Dl,ren2,ren1,ren0],trivial⟩ Dh ⟨by first|rfl|exact (congrArg (fun l=>Du _ _ l) (List.append_nil _)).symm|(show (_:A8)=_;simp)|simp,trivial⟩ D0 Aa (fun j hj=>?_)
  conv=>whnf
  (repeat refine Ar ?_)
  refine G5 (fun h=>?_) fun h=>?_<;>conv=>whnf
  ·have h:j<(x.workers.getD k default).cells.length:=by rw [Int.toNat_natCast] at h;omega
   have hf:=Tr ((x.workers.getD k default).cells.take j) (inN (x.workers.take k))
   have ht:=List.length_take_le j (x.workers.getD k default).cells
   (repeat refine Ar ?_)
   refine B4 (Ip (((x.workers.getD k default).cells.take j).foldl Cy (inN (x.workers.take k))) ((x.workers.getD k default).cells.getD j default) Ac) rfl (Al ?_)
   (repeat refine Ar ?_)
   refine B5 [(1,2)] (j+1) Ac Ac ⟨rfl,trivial⟩ ⟨congrArg Ai (Vw _ _ h).symm,trivial⟩ Dh Aa D0 Aa
  ·(repeat refine Ar ?_)
   refine B5 [] (k+1) Ac Ac ⟨rfl,trivial⟩ ⟨congrArg Ai (by rw [Int.toNat_natCast] at h;rw [B3r ‹_›,Fi (x.workers.getD k default).cells j Ac]),trivial⟩ Dh Aa D0 Aa
 ·(repeat refine Ar ?_)
  refine Ao A0 rfl rfl ⟨?_,trivial⟩
  exact congrArg Ai (by rw [A21,List.take_of_length_le Ac])
def Np (g:Ad) (op:Int):Cb×Bool:=if Eg op 0 (g.nodes.length-1)=true then (A9 g op,true) else (⟨0,0,0,[]⟩,false)
theorem B8n {g:Ad}{n:Nat}(h:g.w≤n)(op:Int)(hk:op.toNat<g.nodes.length):(A9 g op).w≤n:=by
 have:=Hg Cb.w g.nodes op.toNat hk
 simp only [Ad.w,wS] at h
 simp only [A9]
 omega
theorem R9 (g:Ad)(op:Int)(hg:g.w≤16777216):B0 Tryz.prog 114 [.agg g.c,.one (vi op)] [.agg (Np g op).1.c,.one (vb (Np g op).2)]:=by
 have hl:g.nodes.length≤16777216:=by simp only [Ad.w,wS] at hg;omega
 refine Ay A0 false Tryz.func114 rfl Bu fun W=>?_
 conv=>whnf
 (repeat refine Ar ?_)
 refine Aw (Jo op 0 (g.nodes.length-1)) rfl (Al ?_)
 by_cases h1:Eg op 0 (g.nodes.length-1)=true
 ·have h2:=Go.Sx.Am.1 h1
  have hk:op.toNat<g.nodes.length:=by omega
  have hw:=B8n hg op hk
  have ho:(A9 g op).outs.length≤16777216:=by simp only [Cb.w] at hw;omega
  rw [h1,Np,if_pos h1]
  repeat refine Bi ?_
  (repeat refine Ar ?_)
  refine Dp A0 rfl rfl rfl rfl rfl rfl rfl rfl rfl rfl rfl (F1 (A9 g op).outs) (Eh) (fun _=>Sy _) (by (simp only [A9] at ho;omega)) (Al ?_)
  repeat refine Bi ?_
  refine Ao A0 rfl rfl ?_
  exact Ca
 ·have h3:Eg op 0 (g.nodes.length-1)=false:=by simpa using h1
  rw [h3,Np,if_neg h1]
  repeat refine Bi ?_
  refine Ao A0 rfl rfl ?_
  exact Ca
def B0v (g:Ad) (x:A7):Bool:=decide ((0≤x.op∧x.op<g.nodes.length)∧(A9 g x.op).kind=8)
theorem B64 (g:Ad)(x:A7):B0v g x=((Np g x.op).2&&((Np g x.op).1.kind==8)):=by
 unfold B0v Np
 by_cases h1:Eg x.op 0 (g.nodes.length-1)=true
 ·have h2:=Go.Sx.Am.1 h1
  rw [if_pos h1,Bool.eq_iff_iff]
  simp only [decide_eq_true_eq,Bool.true_and,beq_iff_eq]
  exact ⟨fun h=>h.2,fun h=>⟨⟨by omega,by omega⟩,h⟩⟩
 ·have h3:Eg x.op 0 (g.nodes.length-1)=false:=by simpa using h1
  have h2:=Go.Sx.Az.1 h3
  rw [if_neg h1]
  simp only [Bool.false_and,decide_eq_false_iff_not]
  exact fun h=>by omega
set_option maxHeartbeats 1000000 in
theorem Sc (g:Ad)(l:List A7)(hg:g.w≤16777216)(hl:l.length≤16777216):B0 Tryz.prog 64 [.agg g.c,.one (Ai l)] [.one (Ai (Ee g l))]:=by
 refine Ay A0 false Tryz.func64 rfl Bu fun W=>?_
 conv=>whnf
 refine G4 1 (Ai []) rfl F8 ?_
 refine Bw A0 false [9] (fun k:Nat=>[(6,.c (vi k))]) (fun k=>[⟨0,[.c (Bp g.nodes),.c (vi g.workers),.c (vi g.cap)]⟩]) (fun k=>[⟨1,Ai ((l.take k).filter (B0v g))⟩])
  (fun k=>k≤l.length) (fun k=>l.length-k) 0 (Nat.zero_le _) ⟨by first|rfl|simp [Dl,ren2,ren1,ren0],trivial⟩ Dh ⟨by first|rfl|exact (congrArg (fun l=>Du _ _ l) (List.append_nil _)).symm|(show (_:A8)=_;simp)|simp,trivial⟩ D0 Aa (fun k hk=>?_)
 conv=>whnf
 (repeat refine Ar ?_)
 refine G5 (fun h=>?_) fun h=>?_<;>conv=>whnf
 ·have h:k<l.length:=by omega
  have hs:=Ez (B0v g) l k h
  have hb:=F0 (B0v g) l k
  rw [B64 g (l.getD k default)] at hs
  refine Jc rfl ?_
  refine Ct A0 false 1 rfl rfl Aa rfl (Af F3) ?_
  refine Ct A0 false 2 rfl rfl Aa rfl (Af F3) ?_
  refine Do (s':=?_) 0 rfl Aa ?_ ?_
  rotate_left
  refine go A0 false ?_
  conv=>whnf
  (repeat refine Ar ?_)
  exact Bd
  refine Do (s':=?_) 3 rfl Aa ?_ ?_
  rotate_left
  refine go A0 false ?_
  conv=>whnf
  (repeat refine Ar ?_)
  exact Bd
  refine Ct A0 false 4 rfl rfl Aa rfl (Af F3) ?_
  refine Do (s':=?_) 5 rfl Aa ?_ ?_
  rotate_left
  refine go A0 false ?_
  conv=>whnf
  (repeat refine Ar ?_)
  exact Bd
  refine Cm [6,10] Aa ⟨?_,?_,trivial⟩
  focus
   refine go A0 false ?_
   conv=>whnf
   refine B4 (R9 g (l.getD k default).op hg) rfl (Al ?_)
   refine Cu ?_
   refine Ct A0 false 7 rfl rfl Aa rfl (Af F3) ?_
   refine Kj (s':=?_) 8 rfl Aa ?_ ?_
   rotate_left
   refine go A0 false ?_
   conv=>whnf
   (repeat refine Ar ?_)
   exact Bd
   refine Kj (s':=?_) 9 rfl Aa ?_ ?_
   rotate_left
   refine go A0 false ?_
   conv=>whnf
   (repeat refine Ar ?_)
   exact Bd
   refine Cm [10] Aa ⟨?_,trivial⟩
   refine go A0 false ?_
   conv=>whnf
   (repeat refine Ar ?_)
   refine Cu ?_
   refine Cm [11] Aa ⟨?_,trivial⟩
   refine go A0 false ?_
   conv=>whnf
   (repeat refine Ar ?_)
   refine Cu ?_
   refine Ct A0 false 12 rfl rfl Aa rfl (Af F3) ?_
   refine Hu Aa (Al ?_)
  rotate_left 1
  focus
   refine go A0 false ?_
   conv=>whnf
   (repeat refine Ar ?_)
   refine Cu ?_
   refine Cm [6] Aa ⟨?_,trivial⟩
   refine go A0 false ?_
   conv=>whnf
   refine B4 (R9 g (l.getD k default).op hg) rfl (Al ?_)
   refine Cu ?_
   refine Ct A0 false 7 rfl rfl Aa rfl (Af F3) ?_
   refine Kj (s':=?_) 8 rfl Aa ?_ ?_
   rotate_left
   refine go A0 false ?_
   conv=>whnf
   (repeat refine Ar ?_)
   exact Bd
   refine Kj (s':=?_) 9 rfl Aa ?_ ?_
   rotate_left
   refine go A0 false ?_
   conv=>whnf
   (repeat refine Ar ?_)
   exact Bd
   refine Cm [11] Aa ⟨?_,trivial⟩
   refine go A0 false ?_
   conv=>whnf
   (repeat refine Ar ?_)
   refine Cu ?_
   refine Ct A0 false 12 rfl rfl Aa rfl (Af F3) ?_
   refine Hu Aa (Al ?_)
  all_goals
   refine ⟨fun h1=>?_,fun h1=>?_⟩<;>conv=>whnf
   ·repeat refine Bi ?_
    refine ⟨fun h8=>?_,fun h8=>?_⟩<;>conv=>whnf
    ·(repeat refine Ar ?_)
     refine Dp A0 rfl rfl rfl rfl rfl rfl rfl rfl rfl rfl rfl (Ai ((l.take k).filter (B0v g)++[l.getD k default])) (Bf rfl) Kc Ac (Al ?_)
     (repeat refine Ar ?_)
     refine B5 [(1,5)] (k+1) Ac Ac ⟨rfl,trivial⟩ ⟨congrArg Ai (by rw [hs,h1,h8];rfl),trivial⟩ Dh Aa D0 Aa
    ·(repeat refine Ar ?_)
     refine B5 [] (k+1) Ac Ac ⟨rfl,trivial⟩ ⟨congrArg Ai (by rw [hs,h1,h8];simp),trivial⟩ Dh Aa D0 Aa
   ·repeat refine Bi ?_
    refine B5 [] (k+1) Ac Ac ⟨rfl,trivial⟩ ⟨congrArg Ai (by rw [hs,h1];simp),trivial⟩ Dh Aa D0 Aa
 ·(repeat refine Ar ?_)
  refine Ao A0 rfl rfl ⟨?_,trivial⟩
  exact congrArg (fun l=>Ai (List.filter _ l)) (Fi _ k Ac)
theorem A1o {g:Ad}{l:List A7}{n:Nat}(h:l.length≤n):(Ee g l).length≤n:=Nat.le_trans (List.length_filter_le _ _) h
theorem A4b (x:A3)(e:Int):Hv x e=(Ee x.graph (Fw x)).filter (fun y=>y.epoch==e):=rfl
theorem Ui {x:A3}{n:Nat}(h:x.w≤n):x.graph.w≤n:=by simp only [A3.w] at h;omega
set_option maxHeartbeats 1000000 in
theorem A18 (x:A3)(e:Int)(hx:x.w≤16000000):B0 Tryz.prog 12 [.agg x.c,.one (vi e)] [.one (Ai (Hv x e))]:=by
 have hc:=A20 hx
 have ho:=A1o (g:=x.graph) hc
 have hg:=Ui hx
 refine Ay A0 false Tryz.func12 rfl Bu fun W=>?_
 conv=>whnf
 refine G4 1 (Ai []) rfl F8 ?_
 first|(refine B9 2 rfl [0,1,2,3,4,5] Aa (Al ?_))
 refine B4 (A47 x hx) rfl (Al ?_)
 refine B4 (Sc x.graph (Fw x) Ac Ac) rfl (Al ?_)
 rw [A4b]
 refine Bw A0 false [8] (fun k:Nat=>[(7,.c (vi k))]) (fun k=>[]) (fun k=>[⟨3,Ai (Ee x.graph (Fw x))⟩,⟨1,Ai (((Ee x.graph (Fw x)).take k).filter (fun y=>y.epoch==e))⟩])
  (fun k=>k≤(Ee x.graph (Fw x)).length) (fun k=>(Ee x.graph (Fw x)).length-k) 0 (Nat.zero_le _) ⟨by first|rfl|simp [Dl,ren2,ren1,ren0],trivial⟩ trivial ⟨by first|rfl|exact (congrArg (fun l=>Du _ _ l) (List.append_nil _)).symm|(show (_:A8)=_;simp)|simp,by first|rfl|exact (congrArg (fun l=>Du _ _ l) (List.append_nil _)).symm|(show (_:A8)=_;simp)|simp,trivial⟩ D0 Aa (fun k hk=>?_)
 conv=>whnf
 (repeat refine Ar ?_)
 refine G5 (fun h=>?_) fun h=>?_<;>conv=>whnf
 ·have h:k<(Ee x.graph (Fw x)).length:=by omega
  have hs:=Ez (fun y:A7=>y.epoch==e) (Ee x.graph (Fw x)) k h
  have hb:=F0 (fun y:A7=>y.epoch==e) (Ee x.graph (Fw x)) k
  (repeat refine Ar ?_)
  refine ⟨fun h1=>?_,fun h1=>?_⟩<;>conv=>whnf
  ·rw [Int.toNat_natCast] at h1
   (repeat refine Ar ?_)
   refine Dp A0 rfl rfl rfl rfl rfl rfl rfl rfl rfl rfl rfl (Ai (((Ee x.graph (Fw x)).take k).filter (fun y=>y.epoch==e)++[(Ee x.graph (Fw x)).getD k default])) (Bf rfl) Kc Ac (Al ?_)
   (repeat refine Ar ?_)
   refine B5 [(1,5)] (k+1) Ac Ac ⟨rfl,trivial⟩ ⟨rfl,congrArg Ai (by rw [hs,if_pos h1]),trivial⟩ Dh Aa D0 Aa
  ·rw [Int.toNat_natCast] at h1
   (repeat refine Ar ?_)
   refine B5 [] (k+1) Ac Ac ⟨rfl,trivial⟩ ⟨rfl,congrArg Ai (by rw [hs,if_neg (by rw [h1];decide),List.append_nil]),trivial⟩ Dh Aa D0 Aa
 ·(repeat refine Ar ?_)
  refine Ao A0 rfl rfl ⟨?_,trivial⟩
  exact congrArg (fun l=>Ai (List.filter _ l)) (Fi _ k Ac)
def Jd (k v:Int):Prop:=(0≤k∧k≤99)∧(0≤v∧v≤999)
instance (k v:Int):Decidable (Jd k v):=by unfold Jd;infer_instance
def As (x:Cb) (k v:Int):Int×Int×Bool:=
 if Iw x∧Jd k v then
  (if x.kind=2 then (k,if v+x.a<999 then v+x.a else 999,true)
  else if x.kind=4 then ((k+x.a).tmod 100,v,true)
  else if x.kind=3 then (k,v,k.tmod x.a==x.b)
  else (k,v,x.kind !=8))
 else (k,v,false)
def Cc (s:F5):F5×Bool:=if Ho s=true∧s.turn<6 then (⟨s.epoch,s.turn+1⟩,true) else (s,false)
def Jx (g:Ad) (r:A5):Prop:=E7 g∧Ja r∧r.op<g.nodes.length
instance (g:Ad) (r:A5):Decidable (Jx g r):=by unfold Jx;infer_instance
def Gf (g:Ad) (r:A5):List A5:=
 if (A9 g r.op).kind=7∧(Cc r.stamp).2=false then []
 else (A9 g r.op).outs.map fun k=>⟨k,if (A9 g r.op).kind=7 then (Cc r.stamp).1 else r.stamp,(As (A9 g r.op) r.key r.val).1,(As (A9 g r.op) r.key r.val).2.1⟩
def Cq (r:A5):A7:=⟨r.op,r.stamp.epoch,r.key,r.val⟩
def Bv (g:Ad) (cs:List A7) (r:A5):List A7×List A5×Bool:=
 if Jx g r then
  (if (As (A9 g r.op) r.key r.val).2.2=false∧(A9 g r.op).kind≠8 then (cs,[],true)
  else if (Bb (A9 g r.op).kind cs (Cq r)).2=false then ((Bb (A9 g r.op).kind cs (Cq r)).1,[],true)
  else ((Bb (A9 g r.op).kind cs (Cq r)).1,Gf g r,true))
 else (cs,[],false)
def capped (g:Ad) (r:A5):Bool:=decide (Jx g r∧(A9 g r.op).kind=7∧(A9 g r.op).outs.length>0∧(Cc r.stamp).2=false)
def A2s (l:C2) (r:A5):Prop:=Gy l∧Ja r∧l.credits≠0∧l.sent≠1000000000
instance (l:C2) (r:A5):Decidable (A2s l r):=by unfold A2s;infer_instance
def Dn (l:C2) (r:A5):C2×Bool:=if A2s l r then (⟨l.cap,l.queue++[r],l.credits-1,l.back,l.sent+1,l.got⟩,true) else (l,false)
def At (l:C2):C2×A5×Bool:=
 if Gy l∧0<l.queue.length then (⟨l.cap,l.queue.drop 1,l.credits,l.back+1,l.sent,l.got+1⟩,l.queue.getD 0 default,true) else (l,default,false)
def Bn (l:C2):C2×Bool:=if Gy l∧l.back≠0 then (⟨l.cap,l.queue,l.credits+1,l.back-1,l.sent,l.got⟩,true) else (l,false)
def V5 (g:Ad) (w:Ab):Prop:=E7 g∧D8 g.nodes.length w∧w.staged.length=0∧0<w.queue.length
instance (g:Ad) (w:Ab):Decidable (V5 g w):=by unfold V5;infer_instance
def Fx (g:Ad) (w:Ab):Ab:=
 ⟨w.queue.drop 1,(Bv g w.cells (w.queue.getD 0 default)).2.1,w.inputs,(Bv g w.cells (w.queue.getD 0 default)).1,w.sums,w.black,if capped g (w.queue.getD 0 default)=true then w.caps.set (w.queue.getD 0 default).stamp.epoch.toNat true else w.caps,w.dones⟩
def Fk (g:Ad) (w:Ab):Ab×Bool:=if V5 g w then (Fx g w,true) else (w,false)
def Sl (g:Ad) (w:Ab):Prop:=E7 g∧D8 g.nodes.length w∧w.staged.length=0∧w.queue.length=0∧0<w.inputs.length
instance (g:Ad) (w:Ab):Decidable (Sl g w):=by unfold Sl;infer_instance
def Jz (w:Ab):Ab:=⟨w.queue++[w.inputs.getD 0 default],w.staged,w.inputs.drop 1,w.cells,w.sums,w.black,w.caps,w.dones⟩
def Dg (g:Ad) (w:Ab):Ab×Bool:=if Sl g w then (Jz w,true) else (w,false)
def Bt (w:Ab):Ab:=⟨w.queue,w.staged.drop 1,w.inputs,w.cells,w.sums,w.black,w.caps,w.dones⟩
def Pk (w:Ab):Ab×A5×Bool:=if 0<w.staged.length then (Bt w,w.staged.getD 0 default,true) else (w,default,false)
def kept (w:Ab) (r:A5):Ab:=⟨w.queue++[r],w.staged,w.inputs,w.cells,w.sums,w.black,w.caps,w.dones⟩
def Ib (w:Ab) (e n:Int):Ab:=⟨w.queue,w.staged,w.inputs,w.cells,w.sums.set e.toNat (w.sums.getD e.toNat default+n),w.black,w.caps,w.dones⟩
def N2 (w:Ab) (e:Int):Ab:=⟨w.queue,w.staged,w.inputs,w.cells,w.sums,w.black.set e.toNat true,w.caps,w.dones⟩
def Cj (w:Ab) (r:A5):Ab:=
 if 0≤r.stamp.epoch∧r.stamp.epoch<w.sums.length∧r.stamp.epoch<w.black.length then N2 (Ib (kept w r) r.stamp.epoch (-1)) r.stamp.epoch else kept w r
def Cs (w:Ab) (e:Int):Ab:=if 0≤e∧e<w.sums.length then Ib w e 1 else w
def B6 (c:A3) (k:Int) (l:C2):A3:=⟨c.graph,c.workers,c.links.set k.toNat l,c.tokens,c.news⟩
def An (c:A3) (k:Int):C2:=c.links.getD k.toNat default
def Hh (c:A3) (w:Int):Prop:=Ap c∧0≤w∧w<c.workers.length
instance (c:A3) (w:Int):Decidable (Hh c w):=by unfold Hh;infer_instance
def Cr (c:A3) (w:Int):A3×Bool:=if Hh c w then (Av c w (Fk c.graph (A6 c w)).1,(Fk c.graph (A6 c w)).2) else (c,false)
def Cg (c:A3) (w:Int):A3×Bool:=if Hh c w then (Av c w (Dg c.graph (A6 c w)).1,(Dg c.graph (A6 c w)).2) else (c,false)
def B7 (c:A3) (w:Int):A5:=(A6 c w).staged.getD 0 default
def B8 (c:A3) (w:Int):Int:=Cf (B7 c w).key c.graph.workers
def Ae (c:A3) (f t:Int):Int:=f * c.graph.workers+t
def C6 (c:A3) (w:Int):A3×Bool:=
 if Hh c w∧0<(A6 c w).staged.length then
  (if B8 c w=w then (Av c w (kept (Bt (A6 c w)) (B7 c w)),true)
  else if (Dn (An c (Ae c w (B8 c w))) (B7 c w)).2=true then
   (Av (B6 c (Ae c w (B8 c w)) (Dn (An c (Ae c w (B8 c w))) (B7 c w)).1) w (Cs (Bt (A6 c w)) (B7 c w).stamp.epoch),true)
  else (c,false))
 else (c,false)
def Jw (c:A3) (f t:Int):Prop:=Ap c∧f≠t∧(0≤f∧f<c.graph.workers)∧(0≤t∧t<c.graph.workers)
instance (c:A3) (f t:Int):Decidable (Jw c f t):=by unfold Jw;infer_instance
def Cd (c:A3) (f t:Int):A3×Bool:=
 if Jw c f t∧(At (An c (Ae c f t))).2.2=true then
  (Av (B6 c (Ae c f t) (At (An c (Ae c f t))).1) t (Cj (A6 c t) (At (An c (Ae c f t))).2.1),true)
 else (c,false)
def Br (c:A3) (f t:Int):A3×Bool:=
 if Jw c f t then (B6 c (Ae c f t) (Bn (An c (Ae c f t))).1,(Bn (An c (Ae c f t))).2) else (c,false)
def Is (w:Int) (x:Cn):Bool:=x.to_==w
def Ej (c:A3) (w:Int):Nat:=Ek (Is w) c.news
def Ih (c:A3) (w:Int):A3:=⟨c.graph,c.workers,c.links,c.tokens,c.news.eraseIdx (Ej c w)⟩
def Dd (c:A3) (w:Int):Cn:=c.news.getD (Ej c w) default
def D4 (c:A3) (w:Int):A3×Bool:=
 if Ap c∧c.news.any (Is w)=true then
  (if B1 (A6 c w) (Dd c w).epoch=true then Ih c w else Av (Ih c w) w (Cx (A6 c w) ⟨(Dd c w).epoch,(Dd c w).capped⟩),true)
 else (c,false)
def Ag (c:A3) (p:Bl):A3×Bool:=
 if p.kind=1 then Cr c p.a else if p.kind=2 then Cg c p.a else if p.kind=3 then C6 c p.a else if p.kind=4 then Cd c p.a p.b
 else if p.kind=5 then Br c p.a p.b else if p.kind=6 then Bo c p.a else if p.kind=7 then D4 c p.a else (c,false)
def Cl (s:A3×List Bool) (p:Bl):A3×List Bool:=((Ag s.1 p).1,s.2++[(Ag s.1 p).2])
def Bh (c:A3) (l:List Bl):A3×List Bool:=l.foldl Cl (c,[])
def Co (c:A3):Nat:=(En c.graph.workers 0 4).toNat
def Ba (c:A3):A3×Nat:=((Bh c (Gz (Co c))).1,((Bh c (Gz (Co c))).2.filter id).length)
def Di:Nat→A3→A3×Nat
 | 0,c=>(c,0)
 |n+1,c=>if (Ba c).2=0 then ((Ba c).1,1) else ((Di n (Ba c).1).1,(Di n (Ba c).1).2+1)
def K6 (g:Ad) (l:List A5):Prop:=E7 g∧l.length≤20∧∀r∈l,Ja r∧r.op=0∧r.stamp.turn=0
instance (g:Ad) (l:List A5):Decidable (K6 g l):=by unfold K6;infer_instance
def Nr (n:Int) (l:List A5) (w:Nat):List A5:=(List.range 4).flatMap fun (e:Nat)=>(Bs l e).filter fun r=>Cf r.key n==w
def Gv (n:Int):C2:=⟨En n 1 4,[],En n 1 4,0,0,0⟩
def E8 (n:Int) (l:List A5) (k:Nat):List Ab:=(List.range k).map fun w=>⟨[],[],Nr n l w,[],List.replicate 4 0,List.replicate 4 false,List.replicate 4 false,[]⟩
def Pw:A3:=⟨⟨[],0,0⟩,[],[],[],[]⟩
def Ah (g:Ad) (l:List A5):A3×Bool:=
 if K6 g l then (⟨g,E8 g.workers l g.workers.toNat,List.replicate (g.workers.toNat * g.workers.toNat) (Gv g.cap),List.replicate 4 default,[]⟩,true) else (Pw,false)
def Dc (w:Ab) (e:Int):E3×Bool:=if B1 w e=true then (w.dones.getD (Ek (fun d=>d.epoch==e) w.dones) default,true) else (default,false)
theorem A46 (n lo hi:Int):B0 Tryz.prog 103 [.one (vi n),.one (vi lo),.one (vi hi)] [.one (vi (En n lo hi))]:=by
 refine Ay A0 false Tryz.func103 rfl Bu fun W=>?_
 conv=>whnf
 repeat' (first|(refine Ms ?_;conv=>whnf)|(refine Mt ?_;conv=>whnf)|(refine ⟨fun h=>?_,fun h=>?_⟩<;>conv=>whnf)|(refine Ao A0 rfl rfl ⟨?_,trivial⟩;conv=>whnf)|(refine Kf ?_;conv=>whnf)|fail)
 all_goals (refine congrArg vi ?_;simp only [decide_eq_true_eq,decide_eq_false_iff_not] at *;unfold En;repeat' split)<;>first|contradiction|omega
theorem Oo (n lo hi:Int):B0 Tryz.prog 62 [.one (vi n),.one (vi lo),.one (vi hi)] [.one (vi (En n lo hi))]:=by
 refine Ay A0 false Tryz.func62 rfl Bu fun W=>?_
 conv=>whnf
 repeat' (first|(refine Ms ?_;conv=>whnf)|(refine Mt ?_;conv=>whnf)|(refine ⟨fun h=>?_,fun h=>?_⟩<;>conv=>whnf)|(refine Ao A0 rfl rfl ⟨?_,trivial⟩;conv=>whnf)|(refine Kf ?_;conv=>whnf)|fail)
 all_goals (refine congrArg vi ?_;simp only [decide_eq_true_eq,decide_eq_false_iff_not] at *;unfold En;repeat' split)<;>first|contradiction|omega
end Go.Proofs.YtonodkjaoalfjaaGreat
