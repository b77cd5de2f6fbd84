/- Part 21 of the proof that each of the laws FnExactRunScriptOf, FnExactSpreadResult returns true for every input. No conditions. -/
import Derived.Test.YtlbmkgkmbjadcaaGreatP16
import Derived.Test.YtlbmkgkmbjadcaaGreatP20
import Derived.Test.YtlbmkgkmbjadcaaGreatP5
import Derived.Test.YtlbmkgkmbjadcaaGreatP8

set_option linter.unusedSimpArgs false
set_option linter.unusedVariables false
set_option maxRecDepth 100000
namespace Go.Proofs.YtlbmkgkmbjadcaaGreat
open Go.Sx
def Me (k v:Int):Prop:=(0≤k∧k≤99)∧(0≤v∧v≤999)
instance (k v:Int):Decidable (Me k v):=by unfold Me;infer_instance
def Bt (x:Au) (k v:Int):Int×Int×Bool:=
 if Jm x∧Me k v then
  (if x.kind=2 then (k,if v+x.a<999 then v+x.a else 999,true)
  else if x.kind=4 then ((k+x.a).tmod 100,v,true)
  else if x.kind=3 then (k,v,k.tmod x.a==x.b)
  else (k,v,x.kind !=8))
 else (k,v,false)
def C8 (s:Dq):Dq×Bool:=if H3 s=true∧s.turn<6 then (⟨s.epoch,s.turn+1⟩,true) else (s,false)
def Kr (g:Ar) (r:A3):Prop:=H1 g∧Gx r∧r.op<g.nodes.length
instance (g:Ar) (r:A3):Decidable (Kr g r):=by unfold Kr;infer_instance
def Ob (g:Ar) (r:A3):List A3:=
 if (Al g r.op).kind=7∧(C8 r.stamp).2=false then []
 else (Al g r.op).outs.map fun k=>⟨k,if (Al g r.op).kind=7 then (C8 r.stamp).1 else r.stamp,(Bt (Al g r.op) r.key r.val).1,(Bt (Al g r.op) r.key r.val).2.1⟩
def Et (r:A3):Aa:=⟨r.op,r.stamp.epoch,r.key,r.val⟩
def G1 (g:Ar) (cs:List Aa) (r:A3):List Aa×List A3×Bool:=
 if Kr g r then
  (if (Bt (Al g r.op) r.key r.val).2.2=false∧(Al g r.op).kind≠8 then (cs,[],true)
  else if (Db (Al g r.op).kind cs (Et r)).2=false then ((Db (Al g r.op).kind cs (Et r)).1,[],true)
  else ((Db (Al g r.op).kind cs (Et r)).1,Ob g r,true))
 else (cs,[],false)
def capped (g:Ar) (r:A3):Bool:=decide (Kr g r∧(Al g r.op).kind=7∧(Al g r.op).outs.length>0∧(C8 r.stamp).2=false)
def A2e (l:As) (r:A3):Prop:=Gd l∧Gx r∧l.credits≠0∧l.sent≠1000000000
instance (l:As) (r:A3):Decidable (A2e l r):=by unfold A2e;infer_instance
def D6 (l:As) (r:A3):As×Bool:=if A2e l r then (⟨l.cap,l.queue++[r],l.credits-1,l.back,l.sent+1,l.got⟩,true) else (l,false)
def C6 (l:As):As×A3×Bool:=
 if Gd l∧0<l.queue.length then (⟨l.cap,l.queue.drop 1,l.credits,l.back+1,l.sent,l.got+1⟩,l.queue.getD 0 default,true) else (l,default,false)
def Dw (l:As):As×Bool:=if Gd l∧l.back≠0 then (⟨l.cap,l.queue,l.credits+1,l.back-1,l.sent,l.got⟩,true) else (l,false)
def Tu (g:Ar) (w:A6):Prop:=H1 g∧Da g.nodes.length w∧w.staged.length=0∧0<w.queue.length
instance (g:Ar) (w:A6):Decidable (Tu g w):=by unfold Tu;infer_instance
def Kq (g:Ar) (w:A6):A6:=
 ⟨w.queue.drop 1,(G1 g w.cells (w.queue.getD 0 default)).2.1,w.inputs,(G1 g w.cells (w.queue.getD 0 default)).1,w.sums,w.black,if capped g (w.queue.getD 0 default)=true then w.caps.set (w.queue.getD 0 default).stamp.epoch.toNat true else w.caps,w.dones⟩
def Ji (g:Ar) (w:A6):A6×Bool:=if Tu g w then (Kq g w,true) else (w,false)
def Ol (g:Ar) (w:A6):Prop:=H1 g∧Da g.nodes.length w∧w.staged.length=0∧w.queue.length=0∧0<w.inputs.length
instance (g:Ar) (w:A6):Decidable (Ol g w):=by unfold Ol;infer_instance
def Ld (w:A6):A6:=⟨w.queue++[w.inputs.getD 0 default],w.staged,w.inputs.drop 1,w.cells,w.sums,w.black,w.caps,w.dones⟩
def Fw (g:Ar) (w:A6):A6×Bool:=if Ol g w then (Ld w,true) else (w,false)
def E4 (w:A6):A6:=⟨w.queue,w.staged.drop 1,w.inputs,w.cells,w.sums,w.black,w.caps,w.dones⟩
def Pq (w:A6):A6×A3×Bool:=if 0<w.staged.length then (E4 w,w.staged.getD 0 default,true) else (w,default,false)
def kept (w:A6) (r:A3):A6:=⟨w.queue++[r],w.staged,w.inputs,w.cells,w.sums,w.black,w.caps,w.dones⟩
def Gj (w:A6) (e n:Int):A6:=⟨w.queue,w.staged,w.inputs,w.cells,w.sums.set e.toNat (w.sums.getD e.toNat default+n),w.black,w.caps,w.dones⟩
def Lf (w:A6) (e:Int):A6:=⟨w.queue,w.staged,w.inputs,w.cells,w.sums,w.black.set e.toNat true,w.caps,w.dones⟩
def H9 (w:A6) (r:A3):A6:=
 if 0≤r.stamp.epoch∧r.stamp.epoch<w.sums.length∧r.stamp.epoch<w.black.length then Lf (Gj (kept w r) r.stamp.epoch (-1)) r.stamp.epoch else kept w r
def Hn (w:A6) (e:Int):A6:=if 0≤e∧e<w.sums.length then Gj w e 1 else w
def Df (c:A4) (k:Int) (l:As):A4:=⟨c.graph,c.workers,c.links.set k.toNat l,c.tokens,c.news⟩
def Bv (c:A4) (k:Int):As:=c.links.getD k.toNat default
def G2 (c:A4) (w:Int):Prop:=Bg c∧0≤w∧w<c.workers.length
instance (c:A4) (w:Int):Decidable (G2 c w):=by unfold G2;infer_instance
def Es (c:A4) (w:Int):A4×Bool:=if G2 c w then (C0 c w (Ji c.graph (Ag c w)).1,(Ji c.graph (Ag c w)).2) else (c,false)
def E5 (c:A4) (w:Int):A4×Bool:=if G2 c w then (C0 c w (Fw c.graph (Ag c w)).1,(Fw c.graph (Ag c w)).2) else (c,false)
def Bi (c:A4) (w:Int):A3:=(Ag c w).staged.getD 0 default
def Bc (c:A4) (w:Int):Int:=E3 (Bi c w).key c.graph.workers
def Az (c:A4) (f t:Int):Int:=f * c.graph.workers+t
def D0 (c:A4) (w:Int):A4×Bool:=
 if G2 c w∧0<(Ag c w).staged.length then
  (if Bc c w=w then (C0 c w (kept (E4 (Ag c w)) (Bi c w)),true)
  else if (D6 (Bv c (Az c w (Bc c w))) (Bi c w)).2=true then
   (C0 (Df c (Az c w (Bc c w)) (D6 (Bv c (Az c w (Bc c w))) (Bi c w)).1) w (Hn (E4 (Ag c w)) (Bi c w).stamp.epoch),true)
  else (c,false))
 else (c,false)
def Kh (c:A4) (f t:Int):Prop:=Bg c∧f≠t∧(0≤f∧f<c.graph.workers)∧(0≤t∧t<c.graph.workers)
instance (c:A4) (f t:Int):Decidable (Kh c f t):=by unfold Kh;infer_instance
def Dt (c:A4) (f t:Int):A4×Bool:=
 if Kh c f t∧(C6 (Bv c (Az c f t))).2.2=true then
  (C0 (Df c (Az c f t) (C6 (Bv c (Az c f t))).1) t (H9 (Ag c t) (C6 (Bv c (Az c f t))).2.1),true)
 else (c,false)
def E9 (c:A4) (f t:Int):A4×Bool:=
 if Kh c f t then (Df c (Az c f t) (Dw (Bv c (Az c f t))).1,(Dw (Bv c (Az c f t))).2) else (c,false)
def Hd (w:Int) (x:B7):Bool:=x.to_==w
def Kn (c:A4) (w:Int):Nat:=Fm (Hd w) c.news
def P0 (c:A4) (w:Int):A4:=⟨c.graph,c.workers,c.links,c.tokens,c.news.eraseIdx (Kn c w)⟩
def F5 (c:A4) (w:Int):B7:=c.news.getD (Kn c w) default
def Eo (c:A4) (w:Int):A4×Bool:=
 if Bg c∧c.news.any (Hd w)=true then
  (if Gp (Ag c w) (F5 c w).epoch=true then P0 c w else C0 (P0 c w) w (H8 (Ag c w) ⟨(F5 c w).epoch,(F5 c w).capped⟩),true)
 else (c,false)
def B3 (c:A4) (p:Bo):A4×Bool:=
 if p.kind=1 then Es c p.a else if p.kind=2 then E5 c p.a else if p.kind=3 then D0 c p.a else if p.kind=4 then Dt c p.a p.b
 else if p.kind=5 then E9 c p.a p.b else if p.kind=6 then D3 c p.a else if p.kind=7 then Eo c p.a else (c,false)
def Gy (s:A4×List Bool) (p:Bo):A4×List Bool:=((B3 s.1 p).1,s.2++[(B3 s.1 p).2])
def Bd (c:A4) (l:List Bo):A4×List Bool:=l.foldl Gy (c,[])
def Ge (c:A4):Nat:=(E7 c.graph.workers 0 4).toNat
def Cn (c:A4):A4×Nat:=((Bd c (Lx (Ge c))).1,((Bd c (Lx (Ge c))).2.filter id).length)
def Dj:Nat→A4→A4×Nat
 | 0,c=>(c,0)
 |n+1,c=>if (Cn c).2=0 then ((Cn c).1,1) else ((Dj n (Cn c).1).1,(Dj n (Cn c).1).2+1)
def V9 (g:Ar) (l:List A3):Prop:=H1 g∧l.length≤20∧∀r∈l,Gx r∧r.op=0∧r.stamp.turn=0
instance (g:Ar) (l:List A3):Decidable (V9 g l):=by unfold V9;infer_instance
def B6b (n:Int) (l:List A3) (w:Nat):List A3:=(List.range 4).flatMap fun (e:Nat)=>(Ei l e).filter fun r=>E3 r.key n==w
def Fp (n:Int):As:=⟨E7 n 1 4,[],E7 n 1 4,0,0,0⟩
def Dx (n:Int) (l:List A3) (k:Nat):List A6:=(List.range k).map fun w=>⟨[],[],B6b n l w,[],List.replicate 4 0,List.replicate 4 false,List.replicate 4 false,[]⟩
def Ir:A4:=⟨⟨[],0,0⟩,[],[],[],[]⟩
def B4 (g:Ar) (l:List A3):A4×Bool:=
 if V9 g l then (⟨g,Dx g.workers l g.workers.toNat,List.replicate (g.workers.toNat * g.workers.toNat) (Fp g.cap),List.replicate 4 default,[]⟩,true) else (Ir,false)
def Kk (w:A6) (e:Int):Bp×Bool:=if Gp w e=true then (w.dones.getD (Fm (fun d=>d.epoch==e) w.dones) default,true) else (default,false)
theorem S8 {s:Dq}(h:H3 s=false):C8 s=(s,false):=by
 unfold C8
 rw [if_neg (fun p=>by rw [p.1] at h;cases h)]
theorem S9 {s:Dq}(h:¬ s.turn<6):C8 s=(s,false):=by
 unfold C8
 rw [if_neg (fun p=>h p.2)]
theorem Sa {s:Dq}(h1:H3 s=true)(h2:s.turn<6):C8 s=(⟨s.epoch,s.turn+1⟩,true):=by
 unfold C8
 rw [if_pos ⟨h1,h2⟩]
theorem A4k {s:Dq}(h:H3 s=true):(0≤s.epoch∧s.epoch≤3)∧0≤s.turn∧s.turn≤6:=of_decide_eq_true h
theorem Sj (s:Dq):Aq Tryz.prog 234 [.agg s.c] [.agg (C8 s).1.c,.one (vb (C8 s).2)]:=by
 refine Aj A0 false Tryz.func234 rfl Bs fun W=>?_
 conv=>whnf
 refine Ai (Um s) rfl (Ae ?_)
 refine ⟨fun h1=>?_,fun h1=>?_⟩<;>conv=>whnf
 ·have h1:H3 s=false:=by simpa using h1
  repeat refine B9 ?_
  rw [S8 h1]
  refine Ah A0 rfl rfl ?_
  exact C1
 ·have h1:H3 s=true:=by simpa using h1
  have hb:=A4k h1
  repeat refine B9 ?_
  refine ⟨fun h2=>?_,fun h2=>?_⟩<;>conv=>whnf
  ·have h2:s.turn≥6:=of_decide_eq_true h2
   repeat refine B9 ?_
   rw [S9 Ad]
   refine Ah A0 rfl rfl ?_
   exact C1
  ·have h2:¬ s.turn≥6:=of_decide_eq_false h2
   repeat refine B9 ?_
   (repeat refine An ?_)
   rw [Sa h1 Ad]
   refine Ah A0 rfl rfl ?_
   exact C1
theorem Ns (s:Dq):Aq Tryz.prog 249 [.agg s.c] [.agg (C8 s).1.c,.one (vb (C8 s).2)]:=by
 refine Aj A0 false Tryz.func249 rfl Bs fun W=>?_
 conv=>whnf
 refine Ai (U5 s) rfl (Ae ?_)
 refine ⟨fun h1=>?_,fun h1=>?_⟩<;>conv=>whnf
 ·have h1:H3 s=false:=by simpa using h1
  repeat refine B9 ?_
  rw [S8 h1]
  refine Ah A0 rfl rfl ?_
  exact C1
 ·have h1:H3 s=true:=by simpa using h1
  have hb:=A4k h1
  repeat refine B9 ?_
  refine ⟨fun h2=>have h2:=eq_of_beq h2;?_,fun h2=>have h2:=beq_eq_false_iff_ne.1 h2;?_⟩<;>conv=>whnf
  ·repeat refine B9 ?_
   rw [S9 Ad]
   refine Ah A0 rfl rfl ?_
   exact C1
  ·repeat refine B9 ?_
   (repeat refine An ?_)
   rw [Sa h1 Ad]
   refine Ah A0 rfl rfl ?_
   exact C1
theorem B3g (a b:Int):Aq Tryz.prog 245 [.one (vi a),.one (vi b)] [.one (vi (if b<a then b else a))]:=by
 refine Aj A0 false Tryz.func245 rfl Bs fun W=>?_
 conv=>whnf
 refine F2 (fun h=>?_) fun h=>?_<;>conv=>whnf
 ·rw [if_pos h]
  refine Ah A0 rfl rfl ?_
  exact C1
 ·rw [if_neg h]
  refine Ah A0 rfl rfl ?_
  exact C1
theorem Qq (k:Int):Aq Tryz.prog 232 [.one (vi k)] [.one (vb (decide (k=5∨k=6∨k=8)))]:=by
 refine Aj A0 false Tryz.func232 rfl Bs fun W=>?_
 conv=>whnf
 refine ⟨fun h5=>have h5:=eq_of_beq h5;?_,fun h5=>have h5:=beq_eq_false_iff_ne.1 h5;?_⟩<;>conv=>whnf
 ·repeat refine B9 ?_
  exact Ah A0 rfl rfl ⟨congrArg vb (by simp [h5]),trivial⟩
 ·repeat refine B9 ?_
  refine ⟨fun h6=>have h6:=eq_of_beq h6;?_,fun h6=>have h6:=beq_eq_false_iff_ne.1 h6;?_⟩<;>conv=>whnf
  ·repeat refine B9 ?_
   exact Ah A0 rfl rfl ⟨congrArg vb (by simp [h6]),trivial⟩
  ·repeat refine B9 ?_
   exact Ah A0 rfl rfl ⟨congrArg vb (by simp [h5,h6];rfl),trivial⟩
theorem Lh {x:Au}{k v:Int}(h:¬ (Jm x∧Me k v)):Bt x k v=(k,v,false):=if_neg h
theorem A8s {x:Au}{k v:Int}(h:Jm x∧Me k v)(h2:x.kind=2):Bt x k v=(k,if 999<v+x.a then 999 else v+x.a,true):=by
 rw [Bt,if_pos h,if_pos h2]
 congr 2
 by_cases h3:999<v+x.a
 ·rw [if_pos h3,if_neg Ad]
 ·rw [if_neg h3]
  split<;>omega
theorem A46 {x:Au}{k v:Int}(h:Jm x∧Me k v)(h2:x.kind=2):Bt x k v=(k,if v+x.a<999 then v+x.a else 999,true):=by
 rw [Bt,if_pos h,if_pos h2]
theorem Z2 {x:Au}{k v:Int}(h:Jm x∧Me k v)(h2:x.kind=4):Bt x k v=((k+x.a).tmod 100,v,true):=by
 rw [Bt,if_pos h,if_neg Ad,if_pos h2]
theorem Z1 {x:Au}{k v:Int}(h:Jm x∧Me k v)(h2:x.kind=3):Bt x k v=(k,v,k.tmod x.a==x.b):=by
 rw [Bt,if_pos h,if_neg Ad,if_neg Ad,if_pos h2]
theorem Z3 {x:Au}{k v:Int}(h:Jm x∧Me k v)(h2:x.kind≠2)(h4:x.kind≠4)(h3:x.kind≠3):Bt x k v=(k,v,x.kind !=8):=by
 rw [Bt,if_pos h,if_neg h2,if_neg h4,if_neg h3]
theorem A4f (x:Au)(k v:Int)(hx:x.w≤16777216):Aq Tryz.prog 231 [.agg x.c,.one (vi k),.one (vi v)] [.one (vi (Bt x k v).1),.one (vi (Bt x k v).2.1),.one (vb (Bt x k v).2.2)]:=by
 refine Aj A0 false Tryz.func231 rfl Bs fun W=>?_
 conv=>whnf
 refine Ai (Xt x hx) rfl (Ae ?_)
 refine ⟨fun h1=>?_,fun h1=>?_⟩<;>conv=>whnf
 ·have h1:Ko x=false:=by simpa using h1
  repeat refine B9 ?_
  rw [Lh (fun p=>absurd p.1 (of_decide_eq_false h1))]
  refine Ah A0 rfl rfl ?_
  exact C1
 have h1:Ko x=true:=by simpa using h1
 repeat refine B9 ?_
 refine Ai (Gv k 0 99) rfl (Ae ?_)
 repeat refine B9 ?_
 refine ⟨fun h2=>?_,fun h2=>?_⟩<;>conv=>whnf
 ·have h2:Eg k 0 99=false:=by simpa using h2
  repeat refine B9 ?_
  rw [Lh (fun p=>Go.Sx.Aw.1 h2 p.2.1)]
  refine Ah A0 rfl rfl ?_
  exact C1
 have h2:Eg k 0 99=true:=by simpa using h2
 repeat refine B9 ?_
 refine Ai (Gv v 0 999) rfl (Ae ?_)
 repeat refine B9 ?_
 refine ⟨fun h3=>?_,fun h3=>?_⟩<;>conv=>whnf
 ·have h3:Eg v 0 999=false:=by simpa using h3
  repeat refine B9 ?_
  rw [Lh (fun p=>Go.Sx.Aw.1 h3 p.2.2)]
  refine Ah A0 rfl rfl ?_
  exact C1
 have h3:Eg v 0 999=true:=by simpa using h3
 have hI:Me k v:=⟨Go.Sx.Am.1 h2,Go.Sx.Am.1 h3⟩
 have hN:Jm x:=of_decide_eq_true h1
 have hk:=hI.1
 have hv:=hI.2
 repeat refine B9 ?_
 refine ⟨fun k2=>have k2:=eq_of_beq k2;?_,fun k2=>have k2:=beq_eq_false_iff_ne.1 k2;?_⟩<;>conv=>whnf
 ·have ha:=hN.2.1 k2
  repeat refine B9 ?_
  (repeat refine An ?_)
  refine Ai (B3g (v+x.a) 999) rfl (Ae ?_)
  rw [A8s ⟨hN,hI⟩ k2]
  refine Ah A0 rfl rfl ?_
  exact C1
 ·repeat refine B9 ?_
  refine ⟨fun k4=>have k4:=eq_of_beq k4;?_,fun k4=>have k4:=beq_eq_false_iff_ne.1 k4;?_⟩<;>conv=>whnf
  ·have ha:=hN.2.2.2.1 k4
   repeat refine B9 ?_
   (repeat refine An ?_)
   rw [Z2 ⟨hN,hI⟩ k4]
   refine Ah A0 rfl rfl ?_
   exact C1
  ·repeat refine B9 ?_
   refine ⟨fun k3=>have k3:=eq_of_beq k3;?_,fun k3=>have k3:=beq_eq_false_iff_ne.1 k3;?_⟩<;>conv=>whnf
   ·have ha:=hN.2.2.1 k3
    repeat refine B9 ?_
    first|(refine Ak 9 rfl [0,1,2,3,4,5,6,7,8,9,10,11] A5 (Ae ?_))|(refine Ak 10 rfl [0,1,2,3,4,5,6,7] A5 (Ae ?_))
    (repeat refine An ?_)
    rw [Z1 ⟨hN,hI⟩ k3]
    refine Ah A0 rfl rfl ?_
    exact C1
   ·repeat refine B9 ?_
    first|(refine Ak 9 rfl [0,1,2,3,4,5,6,7,8,9,10,11] A5 (Ae ?_))|(refine Ak 10 rfl [0,1,2,3,4,5,6,7] A5 (Ae ?_))
    rw [Z3 ⟨hN,hI⟩ k2 k4 k3]
    refine Ah A0 rfl rfl ?_
    exact C1
theorem A26 (x:Au)(k v:Int)(hx:x.w≤16777216):Aq Tryz.prog 247 [.agg x.c,.one (vi k),.one (vi v)] [.one (vi (Bt x k v).1),.one (vi (Bt x k v).2.1),.one (vb (Bt x k v).2.2)]:=by
 refine Aj A0 false Tryz.func247 rfl Bs fun W=>?_
 conv=>whnf
 refine Ai (Wm x hx) rfl (Ae ?_)
 refine ⟨fun h1=>?_,fun h1=>?_⟩<;>conv=>whnf
 ·have h1:Ko x=false:=by simpa using h1
  repeat refine B9 ?_
  rw [Lh (fun p=>absurd p.1 (of_decide_eq_false h1))]
  refine Ah A0 rfl rfl ?_
  exact C1
 have h1:Ko x=true:=by simpa using h1
 repeat refine B9 ?_
 refine Ai (Wj k v) rfl (Ae ?_)
 repeat refine B9 ?_
 refine ⟨fun h2=>?_,fun h2=>?_⟩<;>conv=>whnf
 ·have h2:decide ((0≤k∧k≤99)∧(0≤v∧v≤999))=false:=(Bool.not_eq_true' _).mp h2
  repeat refine B9 ?_
  rw [Lh (fun p=>absurd p.2 (of_decide_eq_false h2))]
  refine Ah A0 rfl rfl ?_
  exact C1
 have hI:Me k v:=of_decide_eq_true (show decide ((0≤k∧k≤99)∧(0≤v∧v≤999))=true from (Bool.not_eq_false' _).mp h2)
 have hN:Jm x:=of_decide_eq_true h1
 have hk:=hI.1
 have hv:=hI.2
 repeat refine B9 ?_
 refine ⟨fun k2=>have k2:=eq_of_beq k2;?_,fun k2=>have k2:=beq_eq_false_iff_ne.1 k2;?_⟩<;>conv=>whnf
 ·have ha:=hN.2.1 k2
  repeat refine B9 ?_
  first|(refine Ak 5 rfl [0,1,2,3,4,5,6,7,8] A5 (Ae ?_))|(refine Ak 9 rfl [0,1,2,3,4,5,6,7,8,9,10,11] A5 (Ae ?_))|(refine Ak 10 rfl [0,1,2,3,4,5,6,7] A5 (Ae ?_))
  (repeat refine An ?_)
  rw [A46 ⟨hN,hI⟩ k2]
  refine Ah A0 rfl rfl ?_
  exact C1
 ·repeat refine B9 ?_
  refine ⟨fun k4=>have k4:=eq_of_beq k4;?_,fun k4=>have k4:=beq_eq_false_iff_ne.1 k4;?_⟩<;>conv=>whnf
  ·have ha:=hN.2.2.2.1 k4
   repeat refine B9 ?_
   (repeat refine An ?_)
   rw [Z2 ⟨hN,hI⟩ k4]
   refine Ah A0 rfl rfl ?_
   exact C1
  ·repeat refine B9 ?_
   refine ⟨fun k3=>have k3:=eq_of_beq k3;?_,fun k3=>have k3:=beq_eq_false_iff_ne.1 k3;?_⟩<;>conv=>whnf
   ·have ha:=hN.2.2.1 k3
    repeat refine B9 ?_
    first|(refine Ak 5 rfl [0,1,2,3,4,5,6,7,8] A5 (Ae ?_))|(refine Ak 9 rfl [0,1,2,3,4,5,6,7,8,9,10,11] A5 (Ae ?_))|(refine Ak 10 rfl [0,1,2,3,4,5,6,7] A5 (Ae ?_))
    (repeat refine An ?_)
    rw [Z1 ⟨hN,hI⟩ k3]
    refine Ah A0 rfl rfl ?_
    exact C1
   ·repeat refine B9 ?_
    first|(refine Ak 5 rfl [0,1,2,3,4,5,6,7,8] A5 (Ae ?_))|(refine Ak 9 rfl [0,1,2,3,4,5,6,7,8,9,10,11] A5 (Ae ?_))|(refine Ak 10 rfl [0,1,2,3,4,5,6,7] A5 (Ae ?_))
    rw [Z3 ⟨hN,hI⟩ k2 k4 k3]
    refine Ah A0 rfl rfl ?_
    exact C1
end Go.Proofs.YtlbmkgkmbjadcaaGreat
