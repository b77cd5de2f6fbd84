/- Part 15 of the proof that each of the laws FnColours returns true for every input. No conditions. -/
import Derived.Test.YtdendlkeiaccpaaGreatDoorP5
import Derived.Test.YtdendlkeiaccpaaGreatDoorP14
import Derived.Test.YtdendlkeiaccpaaGreatDoorP8
import Derived.Test.YtdendlkeiaccpaaGreatDoorP7

set_option linter.unusedSimpArgs false
set_option linter.unusedVariables false
set_option maxRecDepth 100000
namespace Go.Proofs.YtdendlkeiaccpaaGreatDoor
open Go.Sx
def Ar (g:Aq) (op:Int):Av:=g.nodes.getD op.toNat default
def inN (ws:List Aa):List Bj:=ws.foldl (fun l w=>w.cells.foldl Gl l) []
def Tb (g:Aq) (op:Int):Av×Bool:=if Di op 0 (g.nodes.length-1)=true then (Ar g op,true) else (⟨0,0,0,[]⟩,false)
theorem B8a {g:Aq}{n:Nat}(h:g.w≤n)(op:Int)(hk:op.toNat<g.nodes.length):(Ar g op).w≤n:=by
 have:=H0 Av.w g.nodes op.toNat hk
 simp only [Aq.w,wS] at h
 simp only [Ar]
 omega
theorem Xk (g:Aq)(op:Int)(hg:g.w≤16777216):Be Tryz.prog 145 [.agg g.c,.one (vi op)] [.agg (Tb g op).1.c,.one (vb (Tb g op).2)]:=by
 have hl:g.nodes.length≤16777216:=by simp only [Aq.w,wS] at hg;omega
 refine B5 A0 false Tryz.func145 rfl Az fun W=>?_
 conv=>whnf
 (repeat refine An ?_)
 refine At (Fc op 0 (g.nodes.length-1)) rfl (A8 ?_)
 by_cases h1:Di op 0 (g.nodes.length-1)=true
 ·have h2:=Go.Sx.Ah.1 h1
  have hk:op.toNat<g.nodes.length:=by omega
  have hw:=B8a hg op hk
  have ho:(Ar g op).outs.length≤16777216:=by simp only [Av.w] at hw;omega
  rw [h1,Tb,if_pos h1]
  repeat refine Bd ?_
  (repeat refine An ?_)
  refine B6 A0 rfl rfl rfl rfl rfl rfl rfl rfl rfl rfl rfl (Au (Ar g op).outs) (C1) (fun _=>Mn _) (by (simp only [Ar] at ho;omega)) (A8 ?_)
  repeat refine Bd ?_
  refine Ap A0 rfl rfl ?_
  exact B1
 have h3:Di op 0 (g.nodes.length-1)=false:=by simpa using h1
 rw [h3,Tb,if_neg h1]
 repeat refine Bd ?_
 refine Ap A0 rfl rfl ?_
 exact B1
theorem A7r {x:A3}{n:Nat}(h:x.w≤n):x.graph.w≤n:=by simp only [A3.w] at h;omega
def O0 (k v:Int):Prop:=(0≤k∧k≤99)∧(0≤v∧v≤999)
instance (k v:Int):Decidable (O0 k v):=by unfold O0;infer_instance
def Cj (x:Av) (k v:Int):Int×Int×Bool:=
 if K6 x∧O0 k v then
  (if x.kind=2 then (k,if v+x.a<999 then v+x.a else 999,true)
  else if x.kind=4 then ((k+x.a).tmod 100,v,true)
  else if x.kind=3 then (k,v,k.tmod x.a==x.b)
  else (k,v,x.kind !=8))
 else (k,v,false)
def Dk (s:Ea):Ea×Bool:=if Hy s=true∧s.turn<6 then (⟨s.epoch,s.turn+1⟩,true) else (s,false)
def Lo (g:Aq) (r:Ae):Prop:=Ft g∧H2 r∧r.op<g.nodes.length
instance (g:Aq) (r:Ae):Decidable (Lo g r):=by unfold Lo;infer_instance
def Lu (g:Aq) (r:Ae):List Ae:=
 if (Ar g r.op).kind=7∧(Dk r.stamp).2=false then []
 else (Ar g r.op).outs.map fun k=>⟨k,if (Ar g r.op).kind=7 then (Dk r.stamp).1 else r.stamp,(Cj (Ar g r.op) r.key r.val).1,(Cj (Ar g r.op) r.key r.val).2.1⟩
def Gn (r:Ae):Bj:=⟨r.op,r.stamp.epoch,r.key,r.val⟩
def F0 (g:Aq) (cs:List Bj) (r:Ae):List Bj×List Ae×Bool:=
 if Lo g r then
  (if (Cj (Ar g r.op) r.key r.val).2.2=false∧(Ar g r.op).kind≠8 then (cs,[],true)
  else if (Dx (Ar g r.op).kind cs (Gn r)).2=false then ((Dx (Ar g r.op).kind cs (Gn r)).1,[],true)
  else ((Dx (Ar g r.op).kind cs (Gn r)).1,Lu g r,true))
 else (cs,[],false)
def capped (g:Aq) (r:Ae):Bool:=decide (Lo g r∧(Ar g r.op).kind=7∧(Ar g r.op).outs.length>0∧(Dk r.stamp).2=false)
def A2k (l:Bz) (r:Ae):Prop:=Gm l∧H2 r∧l.credits≠0∧l.sent≠1000000000
instance (l:Bz) (r:Ae):Decidable (A2k l r):=by unfold A2k;infer_instance
def Cs (l:Bz) (r:Ae):Bz×Bool:=if A2k l r then (⟨l.cap,l.queue++[r],l.credits-1,l.back,l.sent+1,l.got⟩,true) else (l,false)
def Bw (l:Bz):Bz×Ae×Bool:=
 if Gm l∧0<l.queue.length then (⟨l.cap,l.queue.drop 1,l.credits,l.back+1,l.sent,l.got+1⟩,l.queue.getD 0 default,true) else (l,default,false)
def Cr (l:Bz):Bz×Bool:=if Gm l∧l.back≠0 then (⟨l.cap,l.queue,l.credits+1,l.back-1,l.sent,l.got⟩,true) else (l,false)
def Oc (g:Aq) (w:Aa):Prop:=Ft g∧Cx g.nodes.length w∧w.staged.length=0∧0<w.queue.length
instance (g:Aq) (w:Aa):Decidable (Oc g w):=by unfold Oc;infer_instance
def Hg (g:Aq) (w:Aa):Aa:=
 ⟨w.queue.drop 1,(F0 g w.cells (w.queue.getD 0 default)).2.1,w.inputs,(F0 g w.cells (w.queue.getD 0 default)).1,w.sums,w.black,if capped g (w.queue.getD 0 default)=true then w.caps.set (w.queue.getD 0 default).stamp.epoch.toNat true else w.caps,w.dones⟩
def F3 (g:Aq) (w:Aa):Aa×Bool:=if Oc g w then (Hg g w,true) else (w,false)
def M7 (g:Aq) (w:Aa):Prop:=Ft g∧Cx g.nodes.length w∧w.staged.length=0∧w.queue.length=0∧0<w.inputs.length
instance (g:Aq) (w:Aa):Decidable (M7 g w):=by unfold M7;infer_instance
def J7 (w:Aa):Aa:=⟨w.queue++[w.inputs.getD 0 default],w.staged,w.inputs.drop 1,w.cells,w.sums,w.black,w.caps,w.dones⟩
def D8 (g:Aq) (w:Aa):Aa×Bool:=if M7 g w then (J7 w,true) else (w,false)
def Dz (w:Aa):Aa:=⟨w.queue,w.staged.drop 1,w.inputs,w.cells,w.sums,w.black,w.caps,w.dones⟩
def Ii (w:Aa):Aa×Ae×Bool:=if 0<w.staged.length then (Dz w,w.staged.getD 0 default,true) else (w,default,false)
def kept (w:Aa) (r:Ae):Aa:=⟨w.queue++[r],w.staged,w.inputs,w.cells,w.sums,w.black,w.caps,w.dones⟩
def El (w:Aa) (e n:Int):Aa:=⟨w.queue,w.staged,w.inputs,w.cells,w.sums.set e.toNat (w.sums.getD e.toNat default+n),w.black,w.caps,w.dones⟩
def Gy (w:Aa) (e:Int):Aa:=⟨w.queue,w.staged,w.inputs,w.cells,w.sums,w.black.set e.toNat true,w.caps,w.dones⟩
def E8 (w:Aa) (r:Ae):Aa:=
 if 0≤r.stamp.epoch∧r.stamp.epoch<w.sums.length∧r.stamp.epoch<w.black.length then Gy (El (kept w r) r.stamp.epoch (-1)) r.stamp.epoch else kept w r
def H5 (w:Aa) (e:Int):Aa:=if 0≤e∧e<w.sums.length then El w e 1 else w
def C2 (c:A3) (k:Int) (l:Bz):A3:=⟨c.graph,c.workers,c.links.set k.toNat l,c.tokens,c.news⟩
def Br (c:A3) (k:Int):Bz:=c.links.getD k.toNat default
def Hj (c:A3) (w:Int):Prop:=As c∧0≤w∧w<c.workers.length
instance (c:A3) (w:Int):Decidable (Hj c w):=by unfold Hj;infer_instance
def Df (c:A3) (w:Int):A3×Bool:=if Hj c w then (B3 c w (F3 c.graph (Ab c w)).1,(F3 c.graph (Ab c w)).2) else (c,false)
def Cz (c:A3) (w:Int):A3×Bool:=if Hj c w then (B3 c w (D8 c.graph (Ab c w)).1,(D8 c.graph (Ab c w)).2) else (c,false)
def Bl (c:A3) (w:Int):Ae:=(Ab c w).staged.getD 0 default
def Bi (c:A3) (w:Int):Int:=Ew (Bl c w).key c.graph.workers
def B0 (c:A3) (f t:Int):Int:=f * c.graph.workers+t
def C3 (c:A3) (w:Int):A3×Bool:=
 if Hj c w∧0<(Ab c w).staged.length then
  (if Bi c w=w then (B3 c w (kept (Dz (Ab c w)) (Bl c w)),true)
  else if (Cs (Br c (B0 c w (Bi c w))) (Bl c w)).2=true then
   (B3 (C2 c (B0 c w (Bi c w)) (Cs (Br c (B0 c w (Bi c w))) (Bl c w)).1) w (H5 (Dz (Ab c w)) (Bl c w).stamp.epoch),true)
  else (c,false))
 else (c,false)
def Mj (c:A3) (f t:Int):Prop:=As c∧f≠t∧(0≤f∧f<c.graph.workers)∧(0≤t∧t<c.graph.workers)
instance (c:A3) (f t:Int):Decidable (Mj c f t):=by unfold Mj;infer_instance
def Cm (c:A3) (f t:Int):A3×Bool:=
 if Mj c f t∧(Bw (Br c (B0 c f t))).2.2=true then
  (B3 (C2 c (B0 c f t) (Bw (Br c (B0 c f t))).1) t (E8 (Ab c t) (Bw (Br c (B0 c f t))).2.1),true)
 else (c,false)
def Cy (c:A3) (f t:Int):A3×Bool:=
 if Mj c f t then (C2 c (B0 c f t) (Cr (Br c (B0 c f t))).1,(Cr (Br c (B0 c f t))).2) else (c,false)
def Kb (w:Int) (x:Fe):Bool:=x.to_==w
def Et (c:A3) (w:Int):Nat:=Fm (Kb w) c.news
def I8 (c:A3) (w:Int):A3:=⟨c.graph,c.workers,c.links,c.tokens,c.news.eraseIdx (Et c w)⟩
def Dt (c:A3) (w:Int):Fe:=c.news.getD (Et c w) default
def D5 (c:A3) (w:Int):A3×Bool:=
 if As c∧c.news.any (Kb w)=true then
  (if Bf (Ab c w) (Dt c w).epoch=true then I8 c w else B3 (I8 c w) w (Ct (Ab c w) ⟨(Dt c w).epoch,(Dt c w).capped⟩),true)
 else (c,false)
def Aj (c:A3) (p:C7):A3×Bool:=
 if p.kind=1 then Df c p.a else if p.kind=2 then Cz c p.a else if p.kind=3 then C3 c p.a else if p.kind=4 then Cm c p.a p.b
 else if p.kind=5 then Cy c p.a p.b else if p.kind=6 then Bc c p.a else if p.kind=7 then D5 c p.a else (c,false)
def Dy (s:A3×List Bool) (p:C7):A3×List Bool:=((Aj s.1 p).1,s.2++[(Aj s.1 p).2])
def Bg (c:A3) (l:List C7):A3×List Bool:=l.foldl Dy (c,[])
def Gf (c:A3):Nat:=(Dw c.graph.workers 0 4).toNat
def Bt (c:A3):A3×Nat:=((Bg c (Kl (Gf c))).1,((Bg c (Kl (Gf c))).2.filter id).length)
def D7:Nat→A3→A3×Nat
 | 0,c=>(c,0)
 |n+1,c=>if (Bt c).2=0 then ((Bt c).1,1) else ((D7 n (Bt c).1).1,(D7 n (Bt c).1).2+1)
def Ob (g:Aq) (l:List Ae):Prop:=Ft g∧l.length≤20∧∀r∈l,H2 r∧r.op=0∧r.stamp.turn=0
instance (g:Aq) (l:List Ae):Decidable (Ob g l):=by unfold Ob;infer_instance
def R2 (n:Int) (l:List Ae) (w:Nat):List Ae:=(List.range 4).flatMap fun (e:Nat)=>(Cp l e).filter fun r=>Ew r.key n==w
def Gc (n:Int):Bz:=⟨Dw n 1 4,[],Dw n 1 4,0,0,0⟩
def E3 (n:Int) (l:List Ae) (k:Nat):List Aa:=(List.range k).map fun w=>⟨[],[],R2 n l w,[],List.replicate 4 0,List.replicate 4 false,List.replicate 4 false,[]⟩
def Pr:A3:=⟨⟨[],0,0⟩,[],[],[],[]⟩
def B4 (g:Aq) (l:List Ae):A3×Bool:=
 if Ob g l then (⟨g,E3 g.workers l g.workers.toNat,List.replicate (g.workers.toNat * g.workers.toNat) (Gc g.cap),List.replicate 4 default,[]⟩,true) else (Pr,false)
def Eg (w:Aa) (e:Int):Dn×Bool:=if Bf w e=true then (w.dones.getD (Fm (fun d=>d.epoch==e) w.dones) default,true) else (default,false)
theorem A1f {s:Ea}(h:Hy s=false):Dk s=(s,false):=by
 unfold Dk
 rw [if_neg (fun p=>by rw [p.1] at h;cases h)]
theorem A1g {s:Ea}(h:¬ s.turn<6):Dk s=(s,false):=by
 unfold Dk
 rw [if_neg (fun p=>h p.2)]
theorem A1h {s:Ea}(h1:Hy s=true)(h2:s.turn<6):Dk s=(⟨s.epoch,s.turn+1⟩,true):=by
 unfold Dk
 rw [if_pos ⟨h1,h2⟩]
theorem B4i {s:Ea}(h:Hy s=true):(0≤s.epoch∧s.epoch≤3)∧0≤s.turn∧s.turn≤6:=of_decide_eq_true h
theorem Sh (s:Ea):Be Tryz.prog 184 [.agg s.c] [.agg (Dk s).1.c,.one (vb (Dk s).2)]:=by
 refine B5 A0 false Tryz.func184 rfl Az fun W=>?_
 conv=>whnf
 refine At (Uh s) rfl (A8 ?_)
 refine ⟨fun h1=>?_,fun h1=>?_⟩<;>conv=>whnf
 ·have h1:Hy s=false:=by simpa using h1
  repeat refine Bd ?_
  rw [A1f h1]
  refine Ap A0 rfl rfl ?_
  exact B1
 have h1:Hy s=true:=by simpa using h1
 have hb:=B4i h1
 repeat refine Bd ?_
 refine ⟨fun h2=>?_,fun h2=>?_⟩<;>conv=>whnf
 ·have h2:s.turn≥6:=of_decide_eq_true h2
  repeat refine Bd ?_
  rw [A1g Ac]
  refine Ap A0 rfl rfl ?_
  exact B1
 have h2:¬ s.turn≥6:=of_decide_eq_false h2
 repeat refine Bd ?_
 (repeat refine An ?_)
 rw [A1h h1 Ac]
 refine Ap A0 rfl rfl ?_
 exact B1
theorem B4e (a b:Int):Be Tryz.prog 207 [.one (vi a),.one (vi b)] [.one (vi (if b<a then b else a))]:=by
 refine B5 A0 false Tryz.func207 rfl Az fun W=>?_
 conv=>whnf
 refine F4 (fun h=>?_) fun h=>?_<;>conv=>whnf
 ·rw [if_pos h]
  refine Ap A0 rfl rfl ?_
  exact B1
 rw [if_neg h]
 refine Ap A0 rfl rfl ?_
 exact B1
theorem Qd (k:Int):Be Tryz.prog 182 [.one (vi k)] [.one (vb (decide (k=5∨k=6∨k=8)))]:=by
 refine B5 A0 false Tryz.func182 rfl Az fun W=>?_
 conv=>whnf
 refine ⟨fun h5=>have h5:=eq_of_beq h5;?_,fun h5=>have h5:=beq_eq_false_iff_ne.1 h5;?_⟩<;>conv=>whnf
 ·repeat refine Bd ?_
  exact Ap A0 rfl rfl ⟨congrArg vb (by simp [h5]),trivial⟩
 repeat refine Bd ?_
 refine ⟨fun h6=>have h6:=eq_of_beq h6;?_,fun h6=>have h6:=beq_eq_false_iff_ne.1 h6;?_⟩<;>conv=>whnf
 ·repeat refine Bd ?_
  exact Ap A0 rfl rfl ⟨congrArg vb (by simp [h6]),trivial⟩
 repeat refine Bd ?_
 exact Ap A0 rfl rfl ⟨congrArg vb (by simp [h5,h6];rfl),trivial⟩
theorem Qp {x:Av}{k v:Int}(h:¬ (K6 x∧O0 k v)):Cj x k v=(k,v,false):=if_neg h
theorem A87 {x:Av}{k v:Int}(h:K6 x∧O0 k v)(h2:x.kind=2):Cj x k v=(k,if 999<v+x.a then 999 else v+x.a,true):=by
 rw [Cj,if_pos h,if_pos h2]
 congr 2
 by_cases h3:999<v+x.a
 ·rw [if_pos h3,if_neg Ac]
 rw [if_neg h3]
 split<;>omega
theorem A89 {x:Av}{k v:Int}(h:K6 x∧O0 k v)(h2:x.kind=4):Cj x k v=((k+x.a).tmod 100,v,true):=by
 rw [Cj,if_pos h,if_neg Ac,if_pos h2]
theorem A88 {x:Av}{k v:Int}(h:K6 x∧O0 k v)(h2:x.kind=3):Cj x k v=(k,v,k.tmod x.a==x.b):=by
 rw [Cj,if_pos h,if_neg Ac,if_neg Ac,if_pos h2]
theorem A9a {x:Av}{k v:Int}(h:K6 x∧O0 k v)(h2:x.kind≠2)(h4:x.kind≠4)(h3:x.kind≠3):Cj x k v=(k,v,x.kind !=8):=by
 rw [Cj,if_pos h,if_neg h2,if_neg h4,if_neg h3]
theorem A4o (x:Av)(k v:Int)(hx:x.w≤16777216):Be Tryz.prog 181 [.agg x.c,.one (vi k),.one (vi v)] [.one (vi (Cj x k v).1),.one (vi (Cj x k v).2.1),.one (vb (Cj x k v).2.2)]:=by
 refine B5 A0 false Tryz.func181 rfl Az fun W=>?_
 conv=>whnf
 refine At (Xl x hx) rfl (A8 ?_)
 refine ⟨fun h1=>?_,fun h1=>?_⟩<;>conv=>whnf
 ·have h1:Mb x=false:=by simpa using h1
  repeat refine Bd ?_
  rw [Qp (fun p=>absurd p.1 (of_decide_eq_false h1))]
  refine Ap A0 rfl rfl ?_
  exact B1
 have h1:Mb x=true:=by simpa using h1
 repeat refine Bd ?_
 refine At (Fc k 0 99) rfl (A8 ?_)
 repeat refine Bd ?_
 refine ⟨fun h2=>?_,fun h2=>?_⟩<;>conv=>whnf
 ·have h2:Di k 0 99=false:=by simpa using h2
  repeat refine Bd ?_
  rw [Qp (fun p=>Go.Sx.Aw.1 h2 p.2.1)]
  refine Ap A0 rfl rfl ?_
  exact B1
 have h2:Di k 0 99=true:=by simpa using h2
 repeat refine Bd ?_
 refine At (Fc v 0 999) rfl (A8 ?_)
 repeat refine Bd ?_
 refine ⟨fun h3=>?_,fun h3=>?_⟩<;>conv=>whnf
 ·have h3:Di v 0 999=false:=by simpa using h3
  repeat refine Bd ?_
  rw [Qp (fun p=>Go.Sx.Aw.1 h3 p.2.2)]
  refine Ap A0 rfl rfl ?_
  exact B1
 have h3:Di v 0 999=true:=by simpa using h3
 have hI:O0 k v:=⟨Go.Sx.Ah.1 h2,Go.Sx.Ah.1 h3⟩
 have hN:K6 x:=of_decide_eq_true h1
 have hk:=hI.1
 have hv:=hI.2
 repeat refine Bd ?_
 refine ⟨fun k2=>have k2:=eq_of_beq k2;?_,fun k2=>have k2:=beq_eq_false_iff_ne.1 k2;?_⟩<;>conv=>whnf
 ·have ha:=hN.2.1 k2
  repeat refine Bd ?_
  (repeat refine An ?_)
  refine At (B4e (v+x.a) 999) rfl (A8 ?_)
  rw [A87 ⟨hN,hI⟩ k2]
  refine Ap A0 rfl rfl ?_
  exact B1
 repeat refine Bd ?_
 refine ⟨fun k4=>have k4:=eq_of_beq k4;?_,fun k4=>have k4:=beq_eq_false_iff_ne.1 k4;?_⟩<;>conv=>whnf
 ·have ha:=hN.2.2.2.1 k4
  repeat refine Bd ?_
  (repeat refine An ?_)
  rw [A89 ⟨hN,hI⟩ k4]
  refine Ap A0 rfl rfl ?_
  exact B1
 repeat refine Bd ?_
 refine ⟨fun k3=>have k3:=eq_of_beq k3;?_,fun k3=>have k3:=beq_eq_false_iff_ne.1 k3;?_⟩<;>conv=>whnf
 ·have ha:=hN.2.2.1 k3
  repeat refine Bd ?_
  first|(refine Ax 9 rfl [0,1,2,3,4,5,6,7,8,9,10,11] A7 (A8 ?_))|(refine Ax 10 rfl [0,1,2,3,4,5,6,7] A7 (A8 ?_))
  (repeat refine An ?_)
  rw [A88 ⟨hN,hI⟩ k3]
  refine Ap A0 rfl rfl ?_
  exact B1
 repeat refine Bd ?_
 first|(refine Ax 9 rfl [0,1,2,3,4,5,6,7,8,9,10,11] A7 (A8 ?_))|(refine Ax 10 rfl [0,1,2,3,4,5,6,7] A7 (A8 ?_))
 rw [A9a ⟨hN,hI⟩ k2 k4 k3]
 refine Ap A0 rfl rfl ?_
 exact B1
theorem Fs {α:Type} [Inhabited α] {l:List α}{k:Nat}(hk:k<l.length):l.take (k+1)=l.take k++[l.getD k default]:=by
 rw [List.take_succ_eq_append_getElem hk]
 simp [List.getD,hk]
theorem Wh {l:List Bj}{k:Nat}(hk:k<l.length)(op e key:Int):Kz (l.take (k+1)) op e key=A1b op e key (Kz (l.take k) op e key) (l.getD k default):=by
 unfold Kz
 rw [Fs hk,List.foldl_append]
 rfl
set_option maxHeartbeats 1000000 in
theorem Ue (l:List Bj)(op e key:Int)(hl:l.length≤16000000):Be Tryz.prog 208 [.one (Bm l),.one (vi op),.one (vi e),.one (vi key)] [.one (vi (Kz l op e key).1),.one (vb (Kz l op e key).2)]:=by
 refine B5 A0 false Tryz.func208 rfl Az fun W=>?_
 conv=>whnf
 refine C0 A0 false [] (fun k:Nat=>[(12,.c (vi k)),(10,.c (vi (Kz (l.take k) op e key).1)),(11,.c (vb (Kz (l.take k) op e key).2))]) (fun k=>[]) (fun k=>[])
  (fun k=>k≤l.length) (fun k=>l.length-k) 0 (Nat.zero_le _) ⟨G3,G3,G3,trivial⟩ trivial trivial Co A7 (fun k hk=>?_)
 conv=>whnf
 refine F4 (fun h0=>?_) fun h0=>?_<;>conv=>whnf
 ·have h0:k<l.length:=by omega
  (repeat refine An ?_)
  repeat' (first|(refine J1 ?_;conv=>whnf)|(refine J2 ?_;conv=>whnf)|(refine ⟨fun h=>?_,fun h=>?_⟩<;>conv=>whnf)|(refine Ex ?_;conv=>whnf)|fail)
  all_goals
   refine B8 [] (k+1) Ac Ac ⟨rfl,congrArg (fun n=>AV.c (vi n)) (by rw [Wh h0];simp_all [A1b]<;>rw [if_neg Ac]<;>assumption),congrArg (fun n=>AV.c (vb n)) (by rw [Wh h0];simp_all [A1b]<;>rw [if_neg Ac]<;>assumption),trivial⟩ trivial trivial A7 Co A7
 refine Ap A0 rfl rfl ⟨?_,?_,trivial⟩
 ·rw [show l.take k=l from List.take_of_length_le Ac];rfl
 rw [show l.take k=l from List.take_of_length_le Ac];rfl
theorem A2s {q:Bj→Bool}{l:List Bj}{k:Nat}(h:(l.take k).any (fun y=>!q y)=false):(l.take k).filter q=l.take k:=by
 rw [List.filter_eq_self]
 intro y hy
 have:=List.any_eq_false.1 h y hy
 simpa using this
end Go.Proofs.YtdendlkeiaccpaaGreatDoor
